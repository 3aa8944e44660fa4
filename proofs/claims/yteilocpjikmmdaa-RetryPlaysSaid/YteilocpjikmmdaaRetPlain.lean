/- The law's own pool: what its functions come to, for any entries. -/
import Derived.Test.YteilocpjikmmdaaRetOff
import Derived.Test.YteilocpjikmmdaaSymEq
namespace Go.Proofs.Yteilocpjikmmdaa
open Go.Proofs.Yteilocpjikmmdaa.Sym
open Go.RowKit (Below)
set_option linter.unusedVariables false
set_option linter.unusedSimpArgs false
structure Pair where
  id : Int
  tries : Int
@[reducible] def Pair.cells (j : Pair) : List Value := [.int .i64 j.id, .int .i64 j.tries]
@[reducible] def Pair.v (j : Pair) : Value := .agg (Pair.cells j).toArray
def Pair.Wf (j : Pair) : Prop := (IntKind.min .i64 ≤ j.id ∧ j.id ≤ IntKind.max .i64) ∧ (IntKind.min .i64 ≤ j.tries ∧ j.tries ≤ IntKind.max .i64)
@[reducible] def plainC (r : Rule) (w t : Value) : List Value := [.int .i64 r.most, .bool r.timed, .bool r.cancel, .int .i64 r.wait, .int .i64 r.grow, w, t]
@[reducible] def plain (p : Nat) (r : Rule) (w t : Value) : Nat × Obj := (p, .cells (plainC r w t).toArray 111 (0, 0))
structure TG where
  k : Nat
  sl : Value
  E : SHeap
def tne (id : Int) (p : Pair) : Bool := decide (p.id ≠ id)
theorem tne_yes {id : Int} {x : Pair} (h : x.id ≠ id) : tne id x = true := by unfold tne; simpa using h
theorem tne_no {id : Int} {x : Pair} (h : x.id = id) : tne id x = false := by unfold tne; simpa using h
def tdel (id : Int) (ts : List Pair) : List Pair := ts.filter (tne id)
def triesN (ts : List Pair) (id : Int) : Int := ts.foldl (fun n p => if p.id = id then p.tries else n) 0
theorem triesN_own {ts : List Pair} {k : Nat} {x : Pair} {id : Int} (hx : ts[k]? = some x) (h : x.id = id) : triesN (ts.take (k + 1)) id = x.tries := by
  unfold triesN; rw [takeS hx, List.foldl_append]; simp [h]
theorem triesN_other {ts : List Pair} {k : Nat} {x : Pair} {id : Int} (hx : ts[k]? = some x) (h : x.id ≠ id) : triesN (ts.take (k + 1)) id = triesN (ts.take k) id := by
  unfold triesN; rw [takeS hx, List.foldl_append]; simp [h]
theorem tdel_len {id : Int} {ts : List Pair} : (tdel id ts).length ≤ ts.length := List.length_filter_le _ _
def tput (id n : Int) (ts : List Pair) : List Pair := tdel id ts ++ [⟨id, n⟩]
structure DG where
  k : Nat
  s1 : Value
  E1 : SHeap
  s2 : Value
  E2 : SHeap
def duep (t : Int) (e : Entry) : Bool := decide (e.at_ ≤ t)
def dueq (t : Int) (e : Entry) : Bool := decide (t < e.at_)
theorem duep_yes {t : Int} {x : Entry} (h : x.at_ ≤ t) : duep t x = true := by unfold duep; simpa using h
theorem duep_no {t : Int} {x : Entry} (h : t < x.at_) : duep t x = false := by unfold duep; simpa using h
theorem dueq_yes {t : Int} {x : Entry} (h : t < x.at_) : dueq t x = true := by unfold dueq; simpa using h
theorem dueq_no {t : Int} {x : Entry} (h : x.at_ ≤ t) : dueq t x = false := by unfold dueq; simpa using h
theorem due_filter {t : Int} : ∀ {W : List Entry}, SrtE W → W.filter (duep t) = W.take (dueN W t) ∧ W.filter (dueq t) = W.drop (dueN W t)
  | [], _ => ⟨rfl, rfl⟩
  | e :: W, h => by
    obtain ⟨h1, h2⟩ := List.pairwise_cons.1 h
    obtain ⟨i1, i2⟩ := due_filter (t := t) h2
    unfold dueN
    by_cases he : e.at_ ≤ t
    · rw [if_pos he, List.filter_cons_of_pos (duep_yes he), List.filter_cons_of_neg (by rw [dueq_no he]; decide), i1, i2]
      exact ⟨rfl, rfl⟩
    · have h3 : ∀ x ∈ e :: W, t < x.at_ := fun x hx => by
        rcases List.mem_cons.1 hx with rfl | hx
        · omega
        · have := h1 x hx; omega
      rw [if_neg he]
      refine ⟨List.filter_eq_nil_iff.2 fun x hx => by rw [duep_no (h3 x hx)]; decide, List.filter_eq_self.2 fun x hx => dueq_yes (h3 x hx)⟩
structure PG where
  k : Nat
  put : Bool
  m : Nat
  sl : Value
  E : SHeap
def outE (W : List Entry) (e : Entry) (k : Nat) (put : Bool) (m : Nat) : List Entry := if put = true then insE (W.take k) m e else W.take k
theorem outE_len {W : List Entry} {e : Entry} {k m : Nat} {put : Bool} (hk : k ≤ W.length) : (outE W e k put m).length ≤ W.length + 1 := by
  unfold outE
  split
  · unfold insE
    simp only [List.length_append, List.length_take, List.length_cons, List.length_drop]; omega
  · rw [List.length_take]; omega
def PInv (W : List Entry) (e : Entry) (s : PG) : Prop := s.k ≤ W.length ∧ (s.put = false → ∀ i x, i < s.k → W[i]? = some x → x.at_ ≤ e.at_) ∧ (s.put = true → s.m < s.k ∧ AtE W e.at_ s.m) ∧ OwnVec 11 113 s.sl (outE W e s.k s.put s.m).length ((outE W e s.k s.put s.m).flatMap Entry.cells) s.E
theorem insE_snoc {W : List Entry} {e x : Entry} {k m : Nat} (hx : W[k]? = some x) (hm : m ≤ k) : insE (W.take (k + 1)) m e = insE (W.take k) m e ++ [x] := by
  have hk := get_lt hx
  unfold insE
  rw [takeS hx, List.take_append_of_le_length (by rw [List.length_take]; omega), List.drop_append_of_le_length (by rw [List.length_take]; omega)]
  simp
section
variable {W : List Entry} {e x : Entry} {k m : Nat} {sl : Value} {E : SHeap}
theorem pin_now (hs : SrtE W) (hx : W[k]? = some x) (hlt : ∀ i y, i < k → W[i]? = some y → y.at_ ≤ e.at_) (h : e.at_ < x.at_) (hV : OwnVec 11 113 sl ((outE W e k false m).length + 1 + 1) ((outE W e k false m).flatMap Entry.cells ++ e.cells ++ x.cells) E) : PInv W e ⟨k + 1, true, k, sl, E⟩ := by
  have hk := get_lt hx
  refine ⟨hk, (fun h => by cases h), fun _ => ⟨Nat.lt_succ_self _, Nat.le_of_lt hk, hlt, fun i y hi hy => Int.lt_of_lt_of_le h (srtE_le hs hi hx hy)⟩, ?_⟩
  have e1 : outE W e (k + 1) true k = (W.take k ++ [e]) ++ [x] := by
    show insE (W.take (k + 1)) k e = _
    rw [insE_snoc hx (Nat.le_refl _)]
    unfold insE
    rw [List.take_take, Nat.min_self, List.drop_eq_nil_of_le (by rw [List.length_take]; omega)]
  dsimp only
  rw [e1]
  refine OwnVec.snoc ?_
  rw [List.length_append, List.flatMap_append]
  simpa [outE] using hV
theorem pin_put (hx : W[k]? = some x) (hp : m < k ∧ AtE W e.at_ m) (hV : OwnVec 11 113 sl ((outE W e k true m).length + 1) ((outE W e k true m).flatMap Entry.cells ++ x.cells) E) : PInv W e ⟨k + 1, true, m, sl, E⟩ := by
  have hk := get_lt hx
  refine ⟨hk, (fun h => by cases h), fun _ => ⟨Nat.lt_succ_of_lt hp.1, hp.2⟩, ?_⟩
  have e1 : outE W e (k + 1) true m = outE W e k true m ++ [x] := insE_snoc hx (Nat.le_of_lt hp.1)
  dsimp only
  rw [e1]
  exact OwnVec.snoc hV
theorem pin_not (hx : W[k]? = some x) (hlt : ∀ i y, i < k → W[i]? = some y → y.at_ ≤ e.at_) (h : x.at_ ≤ e.at_) (hV : OwnVec 11 113 sl ((outE W e k false m).length + 1) ((outE W e k false m).flatMap Entry.cells ++ x.cells) E) : PInv W e ⟨k + 1, false, m, sl, E⟩ := by
  have hk := get_lt hx
  refine ⟨hk, fun _ i y hi hy => (Nat.lt_or_eq_of_le (Nat.le_of_lt_succ hi)).elim (fun h => hlt i y h hy) fun e9 => by subst e9; rw [hx] at hy; cases hy; exact h, (fun h => by cases h), ?_⟩
  have e1 : outE W e (k + 1) false m = outE W e k false m ++ [x] := by show W.take (k + 1) = _; rw [takeS hx]; rfl
  dsimp only
  rw [e1]
  exact OwnVec.snoc hV
theorem pout_end (hk : k ≤ W.length) (hk2 : W.length ≤ k) (hlt : ∀ i y, i < k → W[i]? = some y → y.at_ ≤ e.at_) (hV : OwnVec 11 113 sl ((outE W e k false m).length + 1) ((outE W e k false m).flatMap Entry.cells ++ e.cells) E) : AtE W e.at_ W.length ∧ OwnVec 11 113 sl (W.length + 1) ((insE W W.length e).flatMap Entry.cells) E := by
  obtain rfl : k = W.length := by omega
  refine ⟨⟨Nat.le_refl _, hlt, fun i y hi hy => by have := get_lt hy; omega⟩, ?_⟩
  have e1 : insE W W.length e = outE W e W.length false m ++ [e] := by unfold insE outE; simp
  have e2 : (outE W e W.length false m).length + 1 = W.length + 1 := by simp [outE]
  rw [e1, List.flatMap_append, ← e2]
  simpa using hV
theorem pout_put (hk : k ≤ W.length) (hk2 : W.length ≤ k) (hm : m < k) (hV : OwnVec 11 113 sl (outE W e k true m).length ((outE W e k true m).flatMap Entry.cells) E) : OwnVec 11 113 sl (W.length + 1) ((insE W m e).flatMap Entry.cells) E := by
  have e1 : outE W e k true m = insE W m e := by unfold outE; rw [if_pos rfl, List.take_of_length_le hk2]
  rw [e1, insE_len (by omega)] at hV
  exact hV
end
theorem ag109 : aggOf Try.prog 109 = some false := by kernel_rfl
theorem ag184 : aggOf Try.prog 184 = some true := by kernel_rfl
theorem by184 : bytesOf Try.prog 184 = some 16 := by kernel_rfl
theorem cl117 : Callable Try.prog 117 := ⟨Try.f117, Try.func117, by kernel_rfl, by kernel_rfl⟩
theorem fd111_0 : fldOf Try.prog 111 0 = some (0, 89, 5) := by kernel_rfl
theorem fd111_1 : fldOf Try.prog 111 1 = some (5, 104, 1) := by kernel_rfl
theorem fd111_2 : fldOf Try.prog 111 2 = some (6, 109, 1) := by kernel_rfl
theorem fd184_0 : fldOf Try.prog 184 0 = some (0, 3, 1) := by kernel_rfl
theorem fd184_1 : fldOf Try.prog 184 1 = some (1, 3, 1) := by kernel_rfl
theorem fl184 : flds Try.prog 184 = some [(0, 1), (1, 1)] := by kernel_rfl
theorem sz109 : szOf Try.prog 109 = some 1 := by kernel_rfl
theorem sz184 : szOf Try.prog 184 = some 2 := by kernel_rfl
theorem zr184 : zeroOf Try.prog 184 = some (.agg #[.int .i64 0, .int .i64 0]) := by kernel_rfl
section
variable {W0 : World}
set_option maxRecDepth 100000 in
set_option maxHeartbeats 400000 in
theorem ptries_s (q : Nat) (r : Rule) (wsl : Value) (a : Option Addr) (cap : Nat) (ts : List Pair) (E G : SHeap) (V : OwnVec 2 184 (.slice a ts.length cap) ts.length (ts.flatMap Pair.cells) E) (hn : ts.length ≤ 1000) (id : Int) : AC Try.prog W0 117 [.pointer (some ⟨q, 0, none⟩), .int .i64 id] (plain q r wsl (.slice a ts.length cap) :: (E ++ G)) (fun v H' => ∃ sl' E', OwnVec 2 184 sl' (tdel id ts).length ((tdel id ts).flatMap Pair.cells) E' ∧ v = .int .i64 (triesN ts id) ∧ H' = plain q r wsl sl' :: (E' ++ G)) := by
  have hs : SlV W0 E 2 Pair.cells a cap ts := V.slv' (fun _ => rfl) rfl (Sub.refl _)
  have hle := hs.le
  have hcb := hs.capb
  refine ac_of Try.func117 rfl rfl rfl ?_
  refine aw_seq_region ?_
  refine sr_x rfl (wtd_none rfl) rfl (Rd.x (x_assign rfl)) ?_
  refine sr_nil ?_
  refine aw_keep (keep_cons (t := 0) rfl (keep_cons (t := 1) rfl (keep_cons (t := 4) rfl keep_nil))) ?_
  refine aw_seq_region ?_
  refine sr_x rfl (wtd_none rfl) rfl (Rd.x (x_assign rfl)) ?_
  refine sr_nil ?_
  refine aw_keep (keep_cons (t := 0) rfl (keep_cons (t := 1) rfl (keep_cons (t := 4) rfl (keep_cons (t := 5) rfl keep_nil)))) ?_
  refine aw_seq_region ?_
  refine sr_x rfl (wtd_none rfl) rfl (Rd.x (x_assign rfl)) ?_
  refine sr_nil ?_
  refine aw_keep (keep_cons (t := 0) rfl (keep_cons (t := 1) rfl (keep_cons (t := 4) rfl (keep_cons (t := 5) rfl (keep_cons (t := 6) rfl keep_nil))))) ?_
  refine aw_seq ?_
  refine aw_seq_region ?_
  refine sr_x rfl (wtd_none rfl) rfl (Rd.x (x_assign rfl)) ?_
  refine sr_nil ?_
  refine aw_keep (keep_cons (t := 0) rfl (keep_cons (t := 1) rfl (keep_cons (t := 4) rfl (keep_cons (t := 5) rfl (keep_cons (t := 6) rfl (keep_cons (t := 7) rfl keep_nil)))))) ?_
  refine aw_block ?_
  refine aw_loop (ι := TG) (fun s => s.k ≤ ts.length ∧ OwnVec 2 184 s.sl (kept (tne id) ts s.k).length ((kept (tne id) ts s.k).flatMap Pair.cells) s.E) (fun s => [(0, .pointer (some ⟨q, 0, none⟩)), (1, .int .i64 id), (4, .int .i64 0), (5, .int .i64 (triesN (ts.take s.k) id)), (6, s.sl), (7, .int .i64 s.k)]) (fun s => plain q r wsl (.slice a ts.length cap) :: (s.E ++ (E ++ G))) (fun s => ts.length - s.k) ⟨0, .slice none 0 0, []⟩ (⟨Nat.zero_le _, .nil⟩) (by repeat (first | exact keep_nil | refine keep_cons rfl ?_)) (by repeat (first | exact Sub.refl _ | refine Sub.take (by repeat (first | exact Take.here | apply Take.there | apply Take.app)) ?_ | refine Sub.takeE (by repeat (first | exact TakeE.here | apply TakeE.there | apply TakeE.app)) ?_ | exact Sub.nil _ | apply Sub.drop | apply Sub.dropE)) ?_
  intro s hs9
  obtain ⟨k, sl, E2⟩ := s
  dsimp only at hs9 ⊢
  obtain ⟨hk, V2⟩ := hs9
  have hkl := kept_len (p := tne id) (xs := ts) (k := k)
  obtain ⟨a2, c2, rfl⟩ := V2.isSl
  refine aw_seq ?_
  refine aw_seq_region ?_
  refine sr_x rfl (wtd_none rfl) rfl (Rd.x (x_move rfl)) ?_
  refine sr_x rfl (wtd_none rfl) rfl (Rd.x (x_move rfl)) ?_
  refine sr_x rfl (wtd_none rfl) rfl (Rd.x (x_nilCheck rfl)) ?_
  refine sr_x rfl (wtd_none rfl) rfl (Rd.x (x_fieldAddr fd111_2 rfl)) ?_
  refine sr_x rfl (wtd_none rfl) rfl (Rd.x (x_load ag109 rfl (cells_ext (by repeat (first | exact List.mem_cons_self | apply List.mem_cons_of_mem | apply List.mem_append_right)) (by repeat (first | exact Ext.all _ | exact Ext.done | apply Ext.take | apply Ext.skip))))) ?_
  refine sr_x rfl (wtd_none rfl) rfl (Rd.x (x_lenSlice Try.underlying109 rfl)) ?_
  refine sr_cmp rfl (wtd_none rfl) rfl (Rd.x (x_lt rfl rfl)) (fun h1 => ?_) (fun h1 => ?_)
  · refine sr_nil ?_
    refine aw_keep (keep_cons (t := 0) rfl (keep_cons (t := 1) rfl (keep_cons (t := 4) rfl (keep_cons (t := 5) rfl (keep_cons (t := 6) rfl (keep_cons (t := 7) rfl (keep_cons (t := 8) rfl (keep_cons (t := 9) rfl (keep_cons (t := 10) rfl (keep_cons (t := 11) rfl (keep_cons (t := 12) rfl (keep_cons (t := 13) rfl (keep_cons (t := 14) rfl keep_nil))))))))))))) ?_
    refine aw_true rfl ?_
    refine aw_skip ?_
    show AW _ _ _ _ _ _ _
    refine aw_seq ?_
    refine aw_block ?_
    refine aw_seq_region ?_
    obtain ⟨x, hx⟩ := get_ex (show k < ts.length by omega)
    obtain ⟨be, oe, hae, hce⟩ := hs.at_ k _ hx
    refine sr_x rfl (wtd_none rfl) rfl (Rd.x (x_move rfl)) ?_
    refine sr_x rfl (wtd_none rfl) rfl (Rd.x (x_nilCheck rfl)) ?_
    refine sr_x rfl (wtd_none rfl) rfl (Rd.x (x_fieldAddr fd111_2 rfl)) ?_
    refine sr_x rfl (wtd_none rfl) rfl (Rd.x (x_load ag109 rfl (cells_ext (by repeat (first | exact List.mem_cons_self | apply List.mem_cons_of_mem | apply List.mem_append_right)) (by repeat (first | exact Ext.all _ | exact Ext.done | apply Ext.take | apply Ext.skip))))) ?_
    refine sr_x rfl (wtd_none rfl) rfl (Rd.x (x_move rfl)) ?_
    refine sr_x rfl (wtd_none rfl) rfl (Rd.x (x_indexAddrN k Try.underlying109 sz184 rfl hae rfl (by omega) (by omega))) ?_
    refine sr_x rfl (wtd_none rfl) rfl (Rd.x (x_fieldAddr fd184_0 rfl)) ?_
    refine sr_x rfl (wtd_none rfl) rfl (Rd.x (x_load ag3 rfl (cells_get (Cells.mono hce (Sub.takeE0 (by repeat (first | exact TakeE.here | apply TakeE.there | apply TakeE.app)))) 0 rfl))) ?_
    refine sr_x rfl (wtd_none rfl) rfl (Rd.x (x_move rfl)) ?_
    refine sr_cmp rfl (wtd_none rfl) rfl (Rd.x (x_eq rfl rfl)) (fun h2 => ?_) (fun h2 => ?_)
    · refine sr_nil ?_
      refine aw_keep (keep_cons (t := 0) rfl (keep_cons (t := 1) rfl (keep_cons (t := 4) rfl (keep_cons (t := 5) rfl (keep_cons (t := 6) rfl (keep_cons (t := 7) rfl (keep_cons (t := 8) rfl (keep_cons (t := 9) rfl (keep_cons (t := 10) rfl (keep_cons (t := 11) rfl (keep_cons (t := 12) rfl (keep_cons (t := 13) rfl (keep_cons (t := 14) rfl (keep_cons (t := 17) rfl (keep_cons (t := 18) rfl (keep_cons (t := 19) rfl (keep_cons (t := 20) rfl (keep_cons (t := 21) rfl (keep_cons (t := 22) rfl (keep_cons (t := 23) rfl (keep_cons (t := 24) rfl (keep_cons (t := 25) rfl (keep_cons (t := 26) rfl keep_nil))))))))))))))))))))))) ?_
      refine aw_true rfl ?_
      refine aw_region ?_
      refine sr_x rfl (wtd_none rfl) rfl (Rd.x (x_move rfl)) ?_
      refine sr_x rfl (wtd_none rfl) rfl (Rd.x (x_nilCheck rfl)) ?_
      refine sr_x rfl (wtd_none rfl) rfl (Rd.x (x_fieldAddr fd111_2 rfl)) ?_
      refine sr_x rfl (wtd_none rfl) rfl (Rd.x (x_load ag109 rfl (cells_ext (by repeat (first | exact List.mem_cons_self | apply List.mem_cons_of_mem | apply List.mem_append_right)) (by repeat (first | exact Ext.all _ | exact Ext.done | apply Ext.take | apply Ext.skip))))) ?_
      refine sr_x rfl (wtd_none rfl) rfl (Rd.x (x_move rfl)) ?_
      refine sr_x rfl (wtd_none rfl) rfl (Rd.x (x_indexAddrN k Try.underlying109 sz184 rfl hae rfl (by omega) (by omega))) ?_
      refine sr_x rfl (wtd_none rfl) rfl (Rd.x (x_fieldAddr fd184_1 rfl)) ?_
      refine sr_x rfl (wtd_none rfl) rfl (Rd.x (x_load ag3 rfl (cells_get (Cells.mono hce (Sub.takeE0 (by repeat (first | exact TakeE.here | apply TakeE.there | apply TakeE.app)))) 1 rfl))) ?_
      refine sr_x rfl (wtd_none rfl) rfl (Rd.x (x_assign rfl)) ?_
      refine sr_nil ?_
      show AW _ _ _ _ _ _ _
      refine aw_region ?_
      refine sr_x rfl (wtd_none rfl) rfl (Rd.x (x_move rfl)) ?_
      refine sr_x rfl (wtd_none rfl) rfl (Rd.x (x_add' rfl rfl (i64w (by omega) (by omega)))) ?_
      refine sr_x rfl (wtd_none rfl) rfl (Rd.x (x_assign rfl)) ?_
      refine sr_nil ?_
      show ∃ s', _ ∧ _ ∧ _ ∧ _
      first | exact ⟨⟨k + 1, _, _⟩, ⟨by dsimp only; omega, by dsimp only; rw [kept_yes hx (tne_yes (by assumption))]; exact hV44.snoc⟩, by dsimp only; omega, (by rw [triesN_other hx (by assumption)]; exact (by repeat (first | exact keep_nil | refine keep_cons rfl ?_))), (by repeat (first | exact Sub.refl _ | refine Sub.take (by repeat (first | exact Take.here | apply Take.there | apply Take.app)) ?_ | refine Sub.takeE (by repeat (first | exact TakeE.here | apply TakeE.there | apply TakeE.app)) ?_ | exact Sub.nil _ | apply Sub.drop | apply Sub.dropE))⟩ | exact ⟨⟨k + 1, _, _⟩, ⟨by dsimp only; omega, by dsimp only; rw [kept_no hx (tne_no (by assumption))]; exact V2⟩, by dsimp only; omega, (by rw [triesN_own hx (by assumption)]; exact (by repeat (first | exact keep_nil | refine keep_cons rfl ?_))), (by repeat (first | exact Sub.refl _ | refine Sub.take (by repeat (first | exact Take.here | apply Take.there | apply Take.app)) ?_ | refine Sub.takeE (by repeat (first | exact TakeE.here | apply TakeE.there | apply TakeE.app)) ?_ | exact Sub.nil _ | apply Sub.drop | apply Sub.dropE))⟩
    · refine sr_nil ?_
      refine aw_keep (keep_cons (t := 0) rfl (keep_cons (t := 1) rfl (keep_cons (t := 4) rfl (keep_cons (t := 5) rfl (keep_cons (t := 6) rfl (keep_cons (t := 7) rfl (keep_cons (t := 8) rfl (keep_cons (t := 9) rfl (keep_cons (t := 10) rfl (keep_cons (t := 11) rfl (keep_cons (t := 12) rfl (keep_cons (t := 13) rfl (keep_cons (t := 14) rfl (keep_cons (t := 17) rfl (keep_cons (t := 18) rfl (keep_cons (t := 19) rfl (keep_cons (t := 20) rfl (keep_cons (t := 21) rfl (keep_cons (t := 22) rfl (keep_cons (t := 23) rfl (keep_cons (t := 24) rfl (keep_cons (t := 25) rfl (keep_cons (t := 26) rfl keep_nil))))))))))))))))))))))) ?_
      refine aw_false rfl ?_
      refine aw_region ?_
      refine sr_x rfl (wtd_none rfl) rfl (Rd.x (x_move rfl)) ?_
      refine sr_x rfl (wtd_none rfl) rfl (Rd.x (x_move rfl)) ?_
      refine sr_x rfl (wtd_none rfl) rfl (Rd.x (x_nilCheck rfl)) ?_
      refine sr_x rfl (wtd_none rfl) rfl (Rd.x (x_fieldAddr fd111_2 rfl)) ?_
      refine sr_x rfl (wtd_none rfl) rfl (Rd.x (x_load ag109 rfl (cells_ext (by repeat (first | exact List.mem_cons_self | apply List.mem_cons_of_mem | apply List.mem_append_right)) (by repeat (first | exact Ext.all _ | exact Ext.done | apply Ext.take | apply Ext.skip))))) ?_
      refine sr_x rfl (wtd_none rfl) rfl (Rd.x (x_move rfl)) ?_
      refine sr_x rfl (wtd_none rfl) rfl (Rd.x (x_indexAddrN k Try.underlying109 sz184 rfl hae rfl (by omega) (by omega))) ?_
      refine sr_x rfl (wtd_none rfl) rfl (Rd.x (x_loadN ag184 sz184 rfl (Cells.mono hce (Sub.takeE0 (by repeat (first | exact TakeE.here | apply TakeE.there | apply TakeE.app)))) rfl)) ?_
      refine sr_new rfl (wtd_none rfl) rfl (x_buildSlice Try.underlying109 sz184 zr184 rfl rfl rfl rfl (by repeat (first | exact Parts.nil | (apply Parts.cons; rfl))) (by repeat (first | exact Fill.done | (apply Fill.part; rfl; rfl; rfl; focus (repeat (first | exact Spl.done | exact Spl.all rfl | apply Spl.put | apply Spl.skip)))))) ?_
      intro r8_8 hr8_8 gr8_8
      refine sr_d rfl (wtd_none rfl) rfl (opS_append (G := plain q r wsl (.slice a ts.length cap) :: (E ++ G)) (N := x.cells) (m := 1) Try.underlying109 sz184 zr184 rfl by184 rfl rfl V2 (by repeat (first | exact Sub.refl _ | refine Sub.take (by repeat (first | exact Take.here | apply Take.there | apply Take.app)) ?_ | refine Sub.takeE (by repeat (first | exact TakeE.here | apply TakeE.there | apply TakeE.app)) ?_ | exact Sub.nil _ | apply Sub.drop | apply Sub.dropE)) (.inr ⟨_, _, rfl, (cells_ext (by repeat (first | exact List.mem_cons_self | apply List.mem_cons_of_mem | apply List.mem_append_right)) (by repeat (first | exact Ext.all _ | exact Ext.done | apply Ext.take | apply Ext.skip)))⟩) (rfl) rfl (by omega) (by omega)) ?_
      rintro v44 _ ⟨E44, hV44, rfl⟩
      obtain ⟨a44, cap44, rfl⟩ := hV44.isSl
      refine sr_x rfl (wtd_none rfl) rfl (Rd.x (x_assign rfl)) ?_
      refine sr_nil ?_
      show AW _ _ _ _ _ _ _
      refine aw_region ?_
      refine sr_x rfl (wtd_none rfl) rfl (Rd.x (x_move rfl)) ?_
      refine sr_x rfl (wtd_none rfl) rfl (Rd.x (x_add' rfl rfl (i64w (by omega) (by omega)))) ?_
      refine sr_x rfl (wtd_none rfl) rfl (Rd.x (x_assign rfl)) ?_
      refine sr_nil ?_
      show ∃ s', _ ∧ _ ∧ _ ∧ _
      first | exact ⟨⟨k + 1, _, _⟩, ⟨by dsimp only; omega, by dsimp only; rw [kept_yes hx (tne_yes (by assumption))]; exact hV44.snoc⟩, by dsimp only; omega, (by rw [triesN_other hx (by assumption)]; exact (by repeat (first | exact keep_nil | refine keep_cons rfl ?_))), (by repeat (first | exact Sub.refl _ | refine Sub.take (by repeat (first | exact Take.here | apply Take.there | apply Take.app)) ?_ | refine Sub.takeE (by repeat (first | exact TakeE.here | apply TakeE.there | apply TakeE.app)) ?_ | exact Sub.nil _ | apply Sub.drop | apply Sub.dropE))⟩ | exact ⟨⟨k + 1, _, _⟩, ⟨by dsimp only; omega, by dsimp only; rw [kept_no hx (tne_no (by assumption))]; exact V2⟩, by dsimp only; omega, (by rw [triesN_own hx (by assumption)]; exact (by repeat (first | exact keep_nil | refine keep_cons rfl ?_))), (by repeat (first | exact Sub.refl _ | refine Sub.take (by repeat (first | exact Take.here | apply Take.there | apply Take.app)) ?_ | refine Sub.takeE (by repeat (first | exact TakeE.here | apply TakeE.there | apply TakeE.app)) ?_ | exact Sub.nil _ | apply Sub.drop | apply Sub.dropE))⟩
  · refine sr_nil ?_
    refine aw_keep (keep_cons (t := 0) rfl (keep_cons (t := 1) rfl (keep_cons (t := 4) rfl (keep_cons (t := 5) rfl (keep_cons (t := 6) rfl (keep_cons (t := 7) rfl (keep_cons (t := 8) rfl (keep_cons (t := 9) rfl (keep_cons (t := 10) rfl (keep_cons (t := 11) rfl (keep_cons (t := 12) rfl (keep_cons (t := 13) rfl (keep_cons (t := 14) rfl keep_nil))))))))))))) ?_
    refine aw_false rfl ?_
    refine aw_exit ?_
    show AW _ _ _ _ _ _ _
    refine aw_seq_region ?_
    obtain rfl : k = ts.length := by omega
    rw [List.take_length]
    refine sr_x rfl (wtd_none rfl) rfl (Rd.x (x_move rfl)) ?_
    refine sr_x rfl (wtd_none rfl) rfl (Rd.x (x_move rfl)) ?_
    refine sr_x rfl (wtd_none rfl) rfl (Rd.x (x_nilCheck rfl)) ?_
    refine sr_x rfl (wtd_none rfl) rfl (Rd.x (x_fieldAddr fd111_2 rfl)) ?_
    refine sr_x0 rfl (wtd_none rfl) (x_store sz109 rfl rfl rfl rfl rfl (by repeat (first | exact Repl.here | apply Repl.there | apply Repl.app)) (by repeat (first | exact Spl.done | exact Spl.all rfl | apply Spl.put | apply Spl.skip))) ?_
    refine sr_nil ?_
    refine aw_keep (keep_cons (t := 4) rfl (keep_cons (t := 5) rfl keep_nil)) ?_
    refine aw_seq_region ?_
    refine sr_x rfl (wtd_none rfl) rfl (Rd.x (x_move rfl)) ?_
    refine sr_x rfl (wtd_none rfl) rfl (Rd.x (x_assign rfl)) ?_
    refine sr_nil ?_
    refine aw_keep (keep_cons (t := 4) rfl keep_nil) ?_
    refine aw_ret ?_
    show ∃ v H2, ResV _ _ _ _ _ _ v ∧ Sub H2 _ ∧ _
    exact ⟨_, plain q r wsl (.slice a2 (kept (tne id) ts ts.length).length c2) :: (E2 ++ G), resV rfl (.cons rfl .nil), (by (repeat (first | exact Sub.refl _ | refine Sub.take (by repeat (first | exact Take.here | apply Take.there | apply Take.app)) ?_ | refine Sub.takeE (by repeat (first | exact TakeE.here | apply TakeE.there | apply TakeE.app)) ?_ | exact Sub.nil _ | apply Sub.drop | apply Sub.dropE)); first | done | fail), _, E2, (by rw [show tdel id ts = kept (tne id) ts ts.length from (kept_all (Nat.le_refl _)).symm]; exact V2), rfl, rfl⟩
set_option maxRecDepth 100000 in
set_option maxHeartbeats 400000 in
theorem ptaken_s (q : Nat) (r : Rule) (wsl : Value) (a : Option Addr) (cap : Nat) (ts : List Pair) (E G : SHeap) (V : OwnVec 2 184 (.slice a ts.length cap) ts.length (ts.flatMap Pair.cells) E) (hn : ts.length ≤ 1000) (id : Int) (e : Entry) (he : 0 < e.tries) : AC Try.prog W0 68 [.pointer (some ⟨q, 0, none⟩), .int .i64 id, e.v] (plain q r wsl (.slice a ts.length cap) :: (E ++ G)) (fun v H' => ∃ sl' E', OwnVec 2 184 sl' (tput id e.tries ts).length ((tput id e.tries ts).flatMap Pair.cells) E' ∧ v = .tuple #[] ∧ H' = plain q r wsl sl' :: (E' ++ G)) := by
  refine ac_of Try.func68 rfl rfl rfl ?_
  refine aw_seq_region ?_
  refine sr_new rfl (wtd_none rfl) rfl (x_box rfl rfl) ?_
  intro r0_0 hr0_0 gr0_0
  refine sr_nil ?_
  refine aw_keep (keep_cons (t := 0) rfl (keep_cons (t := 1) rfl (keep_cons (t := 5) rfl keep_nil))) ?_
  refine aw_seq_region ?_
  refine sr_x rfl (wtd_none rfl) rfl (Rd.x (x_fieldAddr fd113_1 rfl)) ?_
  refine sr_x rfl (wtd_none rfl) rfl (Rd.x (x_load ag3 rfl (cells_ext (by repeat (first | exact List.mem_cons_self | apply List.mem_cons_of_mem | apply List.mem_append_right)) (by repeat (first | exact Ext.all _ | exact Ext.done | apply Ext.take | apply Ext.skip))))) ?_
  refine sr_cmp rfl (wtd_none rfl) rfl (Rd.x (x_gt rfl rfl)) (fun h1 => ?_) (fun h1 => absurd (by first | omega | decide) h1)
  refine sr_nil ?_
  refine aw_keep (keep_cons (t := 0) rfl (keep_cons (t := 1) rfl (keep_cons (t := 5) rfl (keep_cons (t := 8) rfl keep_nil)))) ?_
  refine aw_true rfl ?_
  refine aw_seq_region ?_
  refine sr_x rfl (wtd_none rfl) rfl (Rd.x (x_move rfl)) ?_
  refine sr_x rfl (wtd_none rfl) rfl (Rd.x (x_move rfl)) ?_
  refine sr_d rfl (wtd_none rfl) rfl (opS_call rfl rfl rfl rfl cl117 (AC.sub (by repeat (first | exact Sub.refl _ | refine Sub.take (by repeat (first | exact Take.here | apply Take.there | apply Take.app)) ?_ | refine Sub.takeE (by repeat (first | exact TakeE.here | apply TakeE.there | apply TakeE.app)) ?_ | exact Sub.nil _ | apply Sub.drop | apply Sub.dropE)) (ptries_s q r wsl a cap ts E ((r0_0, .cells (Entry.cells e).toArray 113 (0, 0)) :: G) V hn id))) ?_
  rintro _ _ ⟨sl2, E2, V2, rfl, rfl⟩
  obtain ⟨a2, c2, rfl⟩ := V2.isSl
  have htl := tdel_len (id := id) (ts := ts)
  refine sr_nil ?_
  refine aw_keep (keep_cons (t := 0) rfl (keep_cons (t := 1) rfl (keep_cons (t := 5) rfl keep_nil))) ?_
  refine aw_dr ⟨_, 14, 25, [[], [], [1], [1, 2], [1, 2, 3], [], [], [6], [5, 6, 7], [5, 6, 7, 8], [1, 2, 3, 4, 5, 6, 7, 8, 9], [0, 1, 2, 3, 4, 5, 6, 7, 8, 9, 10], [0, 1, 2, 3, 4, 5, 6, 7, 8, 9, 10, 11], [0, 1, 2, 3, 4, 5, 6, 7, 8, 9, 10, 11, 12]], [.light, .light, .light, .light, .mem, .light, .light, .mem, .light, .alloc, .eff, .light, .light, .eff]⟩ (by kernel_rfl) rfl rfl mix ?_
  refine dr_light rfl rfl (wtd_none rfl) (x_move rfl) ?_
  refine dr_light rfl rfl (wtd_none rfl) (x_move rfl) ?_
  refine dr_light rfl rfl (wtd_none rfl) (x_nilCheck rfl) ?_
  refine dr_light rfl rfl (wtd_none rfl) (x_fieldAddr fd111_2 rfl) ?_
  refine dr_mem0 rfl rfl (wtd_none rfl) (x_load ag109 rfl (cells_ext (by repeat (first | exact List.mem_cons_self | apply List.mem_cons_of_mem | apply List.mem_append_right)) (by repeat (first | exact Ext.all _ | exact Ext.done | apply Ext.take | apply Ext.skip)))) ?_
  refine dr_light rfl rfl (wtd_none rfl) (x_move rfl) ?_
  refine dr_light rfl rfl (wtd_none rfl) (x_fieldAddr fd113_1 rfl) ?_
  refine dr_mem0 rfl rfl (wtd_none rfl) (x_load ag3 rfl (cells_ext (by repeat (first | exact List.mem_cons_self | apply List.mem_cons_of_mem | apply List.mem_append_right)) (by repeat (first | exact Ext.all _ | exact Ext.done | apply Ext.take | apply Ext.skip)))) ?_
  refine dr_light rfl rfl (wtd_none rfl) (x_build zr184 rfl fl184 (by repeat (first | exact Parts.nil | (apply Parts.cons; rfl))) (by repeat (first | exact Fill.done | (apply Fill.part; rfl; rfl; rfl; focus (repeat (first | exact Spl.done | exact Spl.all rfl | apply Spl.put | apply Spl.skip)))))) ?_
  refine dr_alloc rfl rfl (wtd_none rfl) (x_buildSlice Try.underlying109 sz184 zr184 rfl rfl rfl rfl (by repeat (first | exact Parts.nil | (apply Parts.cons; rfl))) (by repeat (first | exact Fill.done | (apply Fill.part; rfl; rfl; rfl; focus (repeat (first | exact Spl.done | exact Spl.all rfl | apply Spl.put | apply Spl.skip)))))) ?_
  intro r3_9 hr3_9 gr3_9
  refine dr_eff rfl (V := [(r3_9, _)]) rfl (L' := []) (clear_all rfl) rfl (wtd_none rfl) (opSF_append (G := (r3_9, .cells [.int .i64 id, .int .i64 e.tries].toArray 184 (0, 0)) :: (r0_0, .cells (Entry.cells e).toArray 113 (0, 0)) :: plain q r wsl (.slice a2 (tdel id ts).length c2) :: G) (N := [.int .i64 id, .int .i64 e.tries]) (m := 1) Try.underlying109 sz184 zr184 rfl by184 rfl rfl V2 (by repeat (first | exact Sub.refl _ | refine Sub.take (by repeat (first | exact Take.here | apply Take.there | apply Take.app)) ?_ | refine Sub.takeE (by repeat (first | exact TakeE.here | apply TakeE.there | apply TakeE.app)) ?_ | exact Sub.nil _ | apply Sub.drop | apply Sub.dropE)) (.inr ⟨_, _, rfl, (cells_ext (by repeat (first | exact List.mem_cons_self | apply List.mem_cons_of_mem | apply List.mem_append_right)) (by repeat (first | exact Ext.all _ | exact Ext.done | apply Ext.take | apply Ext.skip)))⟩) (rfl) rfl (by omega) (by omega)) (append_fresh (G := (r3_9, .cells [.int .i64 id, .int .i64 e.tries].toArray 184 (0, 0)) :: (r0_0, .cells (Entry.cells e).toArray 113 (0, 0)) :: plain q r wsl (.slice a2 (tdel id ts).length c2) :: G) (N := [.int .i64 id, .int .i64 e.tries]) (m := 1) V2 (rfl) (by omega) (by repeat (first | exact Sub.refl _ | refine Sub.take (by repeat (first | exact Take.here | apply Take.there | apply Take.app)) ?_ | refine Sub.takeE (by repeat (first | exact TakeE.here | apply TakeE.there | apply TakeE.app)) ?_ | exact Sub.nil _ | apply Sub.drop | apply Sub.dropE))) ?_
  rintro v22 _ ⟨E22, hV22, rfl⟩
  obtain ⟨a22, cap22, rfl⟩ := hV22.isSl
  refine dr_light rfl rfl (wtd_none rfl) (x_nilCheck rfl) ?_
  refine dr_light rfl rfl (wtd_none rfl) (x_fieldAddr fd111_2 rfl) ?_
  refine dr_store0 rfl rfl (wtd_none rfl) (x_store sz109 rfl rfl rfl rfl rfl (by repeat (first | exact Repl.here | apply Repl.there | apply Repl.app)) (by repeat (first | exact Spl.done | exact Spl.all rfl | apply Spl.put | apply Spl.skip))) (by first | rfl | simp [keys_append, keys_cons]) ?_
  refine dr_nil0 ?_
  show ∃ v H2, ResV _ _ _ _ _ _ v ∧ Sub H2 _ ∧ _
  exact ⟨_, plain q r wsl (.slice a22 ((tdel id ts).length + 1) cap22) :: (E22 ++ G), resV rfl .nil, (by (repeat (first | exact Sub.refl _ | refine Sub.take (by repeat (first | exact Take.here | apply Take.there | apply Take.app)) ?_ | refine Sub.takeE (by repeat (first | exact TakeE.here | apply TakeE.there | apply TakeE.app)) ?_ | exact Sub.nil _ | apply Sub.drop | apply Sub.dropE)); first | done | fail), _, E22, (OwnVec.snoc (enc := Pair.cells) (x := ⟨id, e.tries⟩) (xs := tdel id ts) hV22), rfl, rfl⟩
set_option maxRecDepth 100000 in
set_option maxHeartbeats 400000 in
theorem ptaken0_s (q : Nat) (r : Rule) (wsl tsl : Value) (G : SHeap) (id : Int) (e : Entry) (he : ¬ 0 < e.tries) : AC Try.prog W0 68 [.pointer (some ⟨q, 0, none⟩), .int .i64 id, e.v] (plain q r wsl tsl :: G) (fun v H' => v = .tuple #[] ∧ H' = plain q r wsl tsl :: G) := by
  refine ac_of Try.func68 rfl rfl rfl ?_
  refine aw_seq_region ?_
  refine sr_new rfl (wtd_none rfl) rfl (x_box rfl rfl) ?_
  intro r0_0 hr0_0 gr0_0
  refine sr_nil ?_
  refine aw_keep (keep_cons (t := 0) rfl (keep_cons (t := 1) rfl (keep_cons (t := 5) rfl keep_nil))) ?_
  refine aw_seq_region ?_
  refine sr_x rfl (wtd_none rfl) rfl (Rd.x (x_fieldAddr fd113_1 rfl)) ?_
  refine sr_x rfl (wtd_none rfl) rfl (Rd.x (x_load ag3 rfl (cells_ext (by repeat (first | exact List.mem_cons_self | apply List.mem_cons_of_mem | apply List.mem_append_right)) (by repeat (first | exact Ext.all _ | exact Ext.done | apply Ext.take | apply Ext.skip))))) ?_
  refine sr_cmp rfl (wtd_none rfl) rfl (Rd.x (x_gt rfl rfl)) (fun h1 => absurd h1 (by first | omega | decide)) (fun h1 => ?_)
  refine sr_nil ?_
  refine aw_keep (keep_cons (t := 0) rfl (keep_cons (t := 1) rfl (keep_cons (t := 5) rfl (keep_cons (t := 8) rfl keep_nil)))) ?_
  refine aw_false rfl ?_
  refine aw_skip ?_
  show ∃ v H2, ResV _ _ _ _ _ _ v ∧ Sub H2 _ ∧ _
  exact ⟨_, _, resV rfl .nil, (by repeat (first | exact Sub.refl _ | refine Sub.take (by repeat (first | exact Take.here | apply Take.there | apply Take.app)) ?_ | refine Sub.takeE (by repeat (first | exact TakeE.here | apply TakeE.there | apply TakeE.app)) ?_ | exact Sub.nil _ | apply Sub.drop | apply Sub.dropE)), ⟨rfl, rfl⟩⟩
set_option maxRecDepth 100000 in
set_option maxHeartbeats 2000000 in
theorem pdue_s (q : Nat) (r : Rule) (tsl : Value) (a : Option Addr) (cap : Nat) (W : List Entry) (E G : SHeap) (V : OwnVec 11 113 (.slice a W.length cap) W.length (W.flatMap Entry.cells) E) (hn : W.length ≤ 1000) (t : Int) : AC Try.prog W0 66 [.pointer (some ⟨q, 0, none⟩), .int .i64 t] (plain q r (.slice a W.length cap) tsl :: (E ++ G)) (fun v H' => ∃ s1 E1 s2 E2, OwnVec 11 113 s1 (W.filter (duep t)).length ((W.filter (duep t)).flatMap Entry.cells) E1 ∧ OwnVec 11 113 s2 (W.filter (dueq t)).length ((W.filter (dueq t)).flatMap Entry.cells) E2 ∧ v = s1 ∧ H' = plain q r s2 tsl :: (E1 ++ (E2 ++ G))) := by
  have hs : SlV W0 E 11 Entry.cells a cap W := V.slv' (fun _ => rfl) rfl (Sub.refl _)
  have hle := hs.le
  have hcb := hs.capb
  refine ac_of Try.func66 rfl rfl rfl ?_
  refine aw_seq_region ?_
  refine sr_x rfl (wtd_none rfl) rfl (Rd.x (x_assign rfl)) ?_
  refine sr_nil ?_
  refine aw_keep (keep_cons (t := 0) rfl (keep_cons (t := 1) rfl (keep_cons (t := 4) rfl keep_nil))) ?_
  refine aw_seq_region ?_
  refine sr_x rfl (wtd_none rfl) rfl (Rd.x (x_assign rfl)) ?_
  refine sr_x rfl (wtd_none rfl) rfl (Rd.x (x_assign rfl)) ?_
  refine sr_nil ?_
  refine aw_keep (keep_cons (t := 0) rfl (keep_cons (t := 1) rfl (keep_cons (t := 4) rfl (keep_cons (t := 5) rfl (keep_cons (t := 6) rfl keep_nil))))) ?_
  refine aw_seq ?_
  refine aw_seq_region ?_
  refine sr_x rfl (wtd_none rfl) rfl (Rd.x (x_assign rfl)) ?_
  refine sr_nil ?_
  refine aw_keep (keep_cons (t := 0) rfl (keep_cons (t := 1) rfl (keep_cons (t := 4) rfl (keep_cons (t := 5) rfl (keep_cons (t := 6) rfl (keep_cons (t := 7) rfl keep_nil)))))) ?_
  refine aw_block ?_
  refine aw_loop (ι := DG) (fun s => s.k ≤ W.length ∧ OwnVec 11 113 s.s1 (kept (duep t) W s.k).length ((kept (duep t) W s.k).flatMap Entry.cells) s.E1 ∧ OwnVec 11 113 s.s2 (kept (dueq t) W s.k).length ((kept (dueq t) W s.k).flatMap Entry.cells) s.E2) (fun s => [(0, .pointer (some ⟨q, 0, none⟩)), (1, .int .i64 t), (4, .slice none 0 0), (5, s.s1), (6, s.s2), (7, .int .i64 s.k)]) (fun s => plain q r (.slice a W.length cap) tsl :: (s.E1 ++ (s.E2 ++ (E ++ G)))) (fun s => W.length - s.k) ⟨0, .slice none 0 0, [], .slice none 0 0, []⟩ (⟨Nat.zero_le _, .nil, .nil⟩) (by repeat (first | exact keep_nil | refine keep_cons rfl ?_)) (by repeat (first | exact Sub.refl _ | refine Sub.take (by repeat (first | exact Take.here | apply Take.there | apply Take.app)) ?_ | refine Sub.takeE (by repeat (first | exact TakeE.here | apply TakeE.there | apply TakeE.app)) ?_ | exact Sub.nil _ | apply Sub.drop | apply Sub.dropE)) ?_
  intro s hs9
  obtain ⟨k, s1, E1, s2, E2⟩ := s
  dsimp only at hs9 ⊢
  obtain ⟨hk, V1, V2⟩ := hs9
  have hk1 := kept_len (p := duep t) (xs := W) (k := k)
  have hk2 := kept_len (p := dueq t) (xs := W) (k := k)
  obtain ⟨a1, c1, rfl⟩ := V1.isSl
  obtain ⟨a2, c2, rfl⟩ := V2.isSl
  refine aw_seq ?_
  refine aw_seq_region ?_
  refine sr_x rfl (wtd_none rfl) rfl (Rd.x (x_move rfl)) ?_
  refine sr_x rfl (wtd_none rfl) rfl (Rd.x (x_move rfl)) ?_
  refine sr_x rfl (wtd_none rfl) rfl (Rd.x (x_nilCheck rfl)) ?_
  refine sr_x rfl (wtd_none rfl) rfl (Rd.x (x_fieldAddr fd111_1 rfl)) ?_
  refine sr_x rfl (wtd_none rfl) rfl (Rd.x (x_load ag104 rfl (cells_ext (by repeat (first | exact List.mem_cons_self | apply List.mem_cons_of_mem | apply List.mem_append_right)) (by repeat (first | exact Ext.all _ | exact Ext.done | apply Ext.take | apply Ext.skip))))) ?_
  refine sr_x rfl (wtd_none rfl) rfl (Rd.x (x_lenSlice Try.underlying104 rfl)) ?_
  refine sr_cmp rfl (wtd_none rfl) rfl (Rd.x (x_lt rfl rfl)) (fun h1 => ?_) (fun h1 => ?_)
  · refine sr_nil ?_
    refine aw_keep (keep_cons (t := 0) rfl (keep_cons (t := 1) rfl (keep_cons (t := 4) rfl (keep_cons (t := 5) rfl (keep_cons (t := 6) rfl (keep_cons (t := 7) rfl (keep_cons (t := 8) rfl (keep_cons (t := 9) rfl (keep_cons (t := 10) rfl (keep_cons (t := 11) rfl (keep_cons (t := 12) rfl (keep_cons (t := 13) rfl (keep_cons (t := 14) rfl keep_nil))))))))))))) ?_
    refine aw_true rfl ?_
    refine aw_skip ?_
    show AW _ _ _ _ _ _ _
    refine aw_seq ?_
    refine aw_block ?_
    refine aw_seq_region ?_
    obtain ⟨x, hx⟩ := get_ex (show k < W.length by omega)
    obtain ⟨be, oe, hae, hce⟩ := hs.at_ k _ hx
    refine sr_x rfl (wtd_none rfl) rfl (Rd.x (x_move rfl)) ?_
    refine sr_x rfl (wtd_none rfl) rfl (Rd.x (x_nilCheck rfl)) ?_
    refine sr_x rfl (wtd_none rfl) rfl (Rd.x (x_fieldAddr fd111_1 rfl)) ?_
    refine sr_x rfl (wtd_none rfl) rfl (Rd.x (x_load ag104 rfl (cells_ext (by repeat (first | exact List.mem_cons_self | apply List.mem_cons_of_mem | apply List.mem_append_right)) (by repeat (first | exact Ext.all _ | exact Ext.done | apply Ext.take | apply Ext.skip))))) ?_
    refine sr_x rfl (wtd_none rfl) rfl (Rd.x (x_move rfl)) ?_
    refine sr_x rfl (wtd_none rfl) rfl (Rd.x (x_indexAddrN k Try.underlying104 sz113 rfl hae rfl (by omega) (by omega))) ?_
    refine sr_x rfl (wtd_none rfl) rfl (Rd.x (x_fieldAddr fd113_0 rfl)) ?_
    refine sr_x rfl (wtd_none rfl) rfl (Rd.x (x_load ag2 rfl (cells_get (Cells.mono hce (Sub.takeE0 (by repeat (first | exact TakeE.here | apply TakeE.there | apply TakeE.app)))) 0 rfl))) ?_
    refine sr_x rfl (wtd_none rfl) rfl (Rd.x (x_move rfl)) ?_
    refine sr_cmp rfl (wtd_none rfl) rfl (Rd.x (x_le rfl rfl)) (fun h2 => ?_) (fun h2 => ?_)
    · refine sr_nil ?_
      refine aw_keep (keep_cons (t := 0) rfl (keep_cons (t := 1) rfl (keep_cons (t := 4) rfl (keep_cons (t := 5) rfl (keep_cons (t := 6) rfl (keep_cons (t := 7) rfl (keep_cons (t := 8) rfl (keep_cons (t := 9) rfl (keep_cons (t := 10) rfl (keep_cons (t := 11) rfl (keep_cons (t := 12) rfl (keep_cons (t := 13) rfl (keep_cons (t := 14) rfl (keep_cons (t := 17) rfl (keep_cons (t := 18) rfl (keep_cons (t := 19) rfl (keep_cons (t := 20) rfl (keep_cons (t := 21) rfl (keep_cons (t := 22) rfl (keep_cons (t := 23) rfl (keep_cons (t := 24) rfl (keep_cons (t := 25) rfl (keep_cons (t := 26) rfl keep_nil))))))))))))))))))))))) ?_
      refine aw_true rfl ?_
      refine aw_region ?_
      refine sr_x rfl (wtd_none rfl) rfl (Rd.x (x_move rfl)) ?_
      refine sr_x rfl (wtd_none rfl) rfl (Rd.x (x_move rfl)) ?_
      refine sr_x rfl (wtd_none rfl) rfl (Rd.x (x_nilCheck rfl)) ?_
      refine sr_x rfl (wtd_none rfl) rfl (Rd.x (x_fieldAddr fd111_1 rfl)) ?_
      refine sr_x rfl (wtd_none rfl) rfl (Rd.x (x_load ag104 rfl (cells_ext (by repeat (first | exact List.mem_cons_self | apply List.mem_cons_of_mem | apply List.mem_append_right)) (by repeat (first | exact Ext.all _ | exact Ext.done | apply Ext.take | apply Ext.skip))))) ?_
      refine sr_x rfl (wtd_none rfl) rfl (Rd.x (x_move rfl)) ?_
      refine sr_x rfl (wtd_none rfl) rfl (Rd.x (x_indexAddrN k Try.underlying104 sz113 rfl hae rfl (by omega) (by omega))) ?_
      refine sr_x rfl (wtd_none rfl) rfl (Rd.x (x_loadN ag113 sz113 rfl (Cells.mono hce (Sub.takeE0 (by repeat (first | exact TakeE.here | apply TakeE.there | apply TakeE.app)))) rfl)) ?_
      refine sr_new rfl (wtd_none rfl) rfl (x_buildSlice Try.underlying104 sz113 zr113 rfl rfl rfl rfl (by repeat (first | exact Parts.nil | (apply Parts.cons; rfl))) (by repeat (first | exact Fill.done | (apply Fill.part; rfl; rfl; rfl; focus (repeat (first | exact Spl.done | exact Spl.all rfl | apply Spl.put | apply Spl.skip)))))) ?_
      intro r6_8 hr6_8 gr6_8
      refine sr_d rfl (wtd_none rfl) rfl (opS_append (G := plain q r (.slice a W.length cap) tsl :: (E2 ++ (E ++ G))) (N := x.cells) (m := 1) Try.underlying104 sz113 zr113 rfl by113 rfl rfl V1 (by repeat (first | exact Sub.refl _ | refine Sub.take (by repeat (first | exact Take.here | apply Take.there | apply Take.app)) ?_ | refine Sub.takeE (by repeat (first | exact TakeE.here | apply TakeE.there | apply TakeE.app)) ?_ | exact Sub.nil _ | apply Sub.drop | apply Sub.dropE)) (.inr ⟨_, _, rfl, (cells_ext (by repeat (first | exact List.mem_cons_self | apply List.mem_cons_of_mem | apply List.mem_append_right)) (by repeat (first | exact Ext.all _ | exact Ext.done | apply Ext.take | apply Ext.skip)))⟩) (rfl) rfl (by omega) (by omega)) ?_
      rintro v36 _ ⟨E36, hV36, rfl⟩
      obtain ⟨a36, cap36, rfl⟩ := hV36.isSl
      refine sr_x rfl (wtd_none rfl) rfl (Rd.x (x_assign rfl)) ?_
      refine sr_nil ?_
      show AW _ _ _ _ _ _ _
      refine aw_region ?_
      refine sr_x rfl (wtd_none rfl) rfl (Rd.x (x_move rfl)) ?_
      refine sr_x rfl (wtd_none rfl) rfl (Rd.x (x_add' rfl rfl (i64w (by omega) (by omega)))) ?_
      refine sr_x rfl (wtd_none rfl) rfl (Rd.x (x_assign rfl)) ?_
      refine sr_nil ?_
      show ∃ s', _ ∧ _ ∧ _ ∧ _
      first | exact ⟨⟨k + 1, _, _, _, _⟩, ⟨by dsimp only; omega, by dsimp only; rw [kept_yes hx (duep_yes (by omega))]; exact hV36.snoc, by dsimp only; rw [kept_no hx (dueq_no (by omega))]; exact V2⟩, by dsimp only; omega, (by repeat (first | exact keep_nil | refine keep_cons rfl ?_)), (by repeat (first | exact Sub.refl _ | refine Sub.take (by repeat (first | exact Take.here | apply Take.there | apply Take.app)) ?_ | refine Sub.takeE (by repeat (first | exact TakeE.here | apply TakeE.there | apply TakeE.app)) ?_ | exact Sub.nil _ | apply Sub.drop | apply Sub.dropE))⟩ | exact ⟨⟨k + 1, _, _, _, _⟩, ⟨by dsimp only; omega, by dsimp only; rw [kept_no hx (duep_no (by omega))]; exact V1, by dsimp only; rw [kept_yes hx (dueq_yes (by omega))]; exact hV46.snoc⟩, by dsimp only; omega, (by repeat (first | exact keep_nil | refine keep_cons rfl ?_)), (by repeat (first | exact Sub.refl _ | refine Sub.take (by repeat (first | exact Take.here | apply Take.there | apply Take.app)) ?_ | refine Sub.takeE (by repeat (first | exact TakeE.here | apply TakeE.there | apply TakeE.app)) ?_ | exact Sub.nil _ | apply Sub.drop | apply Sub.dropE))⟩
    · refine sr_nil ?_
      refine aw_keep (keep_cons (t := 0) rfl (keep_cons (t := 1) rfl (keep_cons (t := 4) rfl (keep_cons (t := 5) rfl (keep_cons (t := 6) rfl (keep_cons (t := 7) rfl (keep_cons (t := 8) rfl (keep_cons (t := 9) rfl (keep_cons (t := 10) rfl (keep_cons (t := 11) rfl (keep_cons (t := 12) rfl (keep_cons (t := 13) rfl (keep_cons (t := 14) rfl (keep_cons (t := 17) rfl (keep_cons (t := 18) rfl (keep_cons (t := 19) rfl (keep_cons (t := 20) rfl (keep_cons (t := 21) rfl (keep_cons (t := 22) rfl (keep_cons (t := 23) rfl (keep_cons (t := 24) rfl (keep_cons (t := 25) rfl (keep_cons (t := 26) rfl keep_nil))))))))))))))))))))))) ?_
      refine aw_false rfl ?_
      refine aw_region ?_
      refine sr_x rfl (wtd_none rfl) rfl (Rd.x (x_move rfl)) ?_
      refine sr_x rfl (wtd_none rfl) rfl (Rd.x (x_move rfl)) ?_
      refine sr_x rfl (wtd_none rfl) rfl (Rd.x (x_nilCheck rfl)) ?_
      refine sr_x rfl (wtd_none rfl) rfl (Rd.x (x_fieldAddr fd111_1 rfl)) ?_
      refine sr_x rfl (wtd_none rfl) rfl (Rd.x (x_load ag104 rfl (cells_ext (by repeat (first | exact List.mem_cons_self | apply List.mem_cons_of_mem | apply List.mem_append_right)) (by repeat (first | exact Ext.all _ | exact Ext.done | apply Ext.take | apply Ext.skip))))) ?_
      refine sr_x rfl (wtd_none rfl) rfl (Rd.x (x_move rfl)) ?_
      refine sr_x rfl (wtd_none rfl) rfl (Rd.x (x_indexAddrN k Try.underlying104 sz113 rfl hae rfl (by omega) (by omega))) ?_
      refine sr_x rfl (wtd_none rfl) rfl (Rd.x (x_loadN ag113 sz113 rfl (Cells.mono hce (Sub.takeE0 (by repeat (first | exact TakeE.here | apply TakeE.there | apply TakeE.app)))) rfl)) ?_
      refine sr_new rfl (wtd_none rfl) rfl (x_buildSlice Try.underlying104 sz113 zr113 rfl rfl rfl rfl (by repeat (first | exact Parts.nil | (apply Parts.cons; rfl))) (by repeat (first | exact Fill.done | (apply Fill.part; rfl; rfl; rfl; focus (repeat (first | exact Spl.done | exact Spl.all rfl | apply Spl.put | apply Spl.skip)))))) ?_
      intro r7_8 hr7_8 gr7_8
      refine sr_d rfl (wtd_none rfl) rfl (opS_append (G := plain q r (.slice a W.length cap) tsl :: (E1 ++ (E ++ G))) (N := x.cells) (m := 1) Try.underlying104 sz113 zr113 rfl by113 rfl rfl V2 (by repeat (first | exact Sub.refl _ | refine Sub.take (by repeat (first | exact Take.here | apply Take.there | apply Take.app)) ?_ | refine Sub.takeE (by repeat (first | exact TakeE.here | apply TakeE.there | apply TakeE.app)) ?_ | exact Sub.nil _ | apply Sub.drop | apply Sub.dropE)) (.inr ⟨_, _, rfl, (cells_ext (by repeat (first | exact List.mem_cons_self | apply List.mem_cons_of_mem | apply List.mem_append_right)) (by repeat (first | exact Ext.all _ | exact Ext.done | apply Ext.take | apply Ext.skip)))⟩) (rfl) rfl (by omega) (by omega)) ?_
      rintro v46 _ ⟨E46, hV46, rfl⟩
      obtain ⟨a46, cap46, rfl⟩ := hV46.isSl
      refine sr_x rfl (wtd_none rfl) rfl (Rd.x (x_assign rfl)) ?_
      refine sr_nil ?_
      show AW _ _ _ _ _ _ _
      refine aw_region ?_
      refine sr_x rfl (wtd_none rfl) rfl (Rd.x (x_move rfl)) ?_
      refine sr_x rfl (wtd_none rfl) rfl (Rd.x (x_add' rfl rfl (i64w (by omega) (by omega)))) ?_
      refine sr_x rfl (wtd_none rfl) rfl (Rd.x (x_assign rfl)) ?_
      refine sr_nil ?_
      show ∃ s', _ ∧ _ ∧ _ ∧ _
      first | exact ⟨⟨k + 1, _, _, _, _⟩, ⟨by dsimp only; omega, by dsimp only; rw [kept_yes hx (duep_yes (by omega))]; exact hV36.snoc, by dsimp only; rw [kept_no hx (dueq_no (by omega))]; exact V2⟩, by dsimp only; omega, (by repeat (first | exact keep_nil | refine keep_cons rfl ?_)), (by repeat (first | exact Sub.refl _ | refine Sub.take (by repeat (first | exact Take.here | apply Take.there | apply Take.app)) ?_ | refine Sub.takeE (by repeat (first | exact TakeE.here | apply TakeE.there | apply TakeE.app)) ?_ | exact Sub.nil _ | apply Sub.drop | apply Sub.dropE))⟩ | exact ⟨⟨k + 1, _, _, _, _⟩, ⟨by dsimp only; omega, by dsimp only; rw [kept_no hx (duep_no (by omega))]; exact V1, by dsimp only; rw [kept_yes hx (dueq_yes (by omega))]; exact hV46.snoc⟩, by dsimp only; omega, (by repeat (first | exact keep_nil | refine keep_cons rfl ?_)), (by repeat (first | exact Sub.refl _ | refine Sub.take (by repeat (first | exact Take.here | apply Take.there | apply Take.app)) ?_ | refine Sub.takeE (by repeat (first | exact TakeE.here | apply TakeE.there | apply TakeE.app)) ?_ | exact Sub.nil _ | apply Sub.drop | apply Sub.dropE))⟩
  · refine sr_nil ?_
    refine aw_keep (keep_cons (t := 0) rfl (keep_cons (t := 1) rfl (keep_cons (t := 4) rfl (keep_cons (t := 5) rfl (keep_cons (t := 6) rfl (keep_cons (t := 7) rfl (keep_cons (t := 8) rfl (keep_cons (t := 9) rfl (keep_cons (t := 10) rfl (keep_cons (t := 11) rfl (keep_cons (t := 12) rfl (keep_cons (t := 13) rfl (keep_cons (t := 14) rfl keep_nil))))))))))))) ?_
    refine aw_false rfl ?_
    refine aw_exit ?_
    show AW _ _ _ _ _ _ _
    refine aw_seq_region ?_
    obtain rfl : k = W.length := by omega
    refine sr_x rfl (wtd_none rfl) rfl (Rd.x (x_move rfl)) ?_
    refine sr_x rfl (wtd_none rfl) rfl (Rd.x (x_move rfl)) ?_
    refine sr_x rfl (wtd_none rfl) rfl (Rd.x (x_nilCheck rfl)) ?_
    refine sr_x rfl (wtd_none rfl) rfl (Rd.x (x_fieldAddr fd111_1 rfl)) ?_
    refine sr_x0 rfl (wtd_none rfl) (x_store sz104 rfl rfl rfl rfl rfl (by repeat (first | exact Repl.here | apply Repl.there | apply Repl.app)) (by repeat (first | exact Spl.done | exact Spl.all rfl | apply Spl.put | apply Spl.skip))) ?_
    refine sr_nil ?_
    refine aw_keep (keep_cons (t := 4) rfl (keep_cons (t := 5) rfl keep_nil)) ?_
    refine aw_seq_region ?_
    refine sr_x rfl (wtd_none rfl) rfl (Rd.x (x_move rfl)) ?_
    refine sr_x rfl (wtd_none rfl) rfl (Rd.x (x_assign rfl)) ?_
    refine sr_nil ?_
    refine aw_keep (keep_cons (t := 4) rfl keep_nil) ?_
    refine aw_ret ?_
    show ∃ v H2, ResV _ _ _ _ _ _ v ∧ Sub H2 _ ∧ _
    exact ⟨_, plain q r (.slice a2 (kept (dueq t) W W.length).length c2) tsl :: (E1 ++ (E2 ++ G)), resV rfl (.cons rfl .nil), (by (repeat (first | exact Sub.refl _ | refine Sub.take (by repeat (first | exact Take.here | apply Take.there | apply Take.app)) ?_ | refine Sub.takeE (by repeat (first | exact TakeE.here | apply TakeE.there | apply TakeE.app)) ?_ | exact Sub.nil _ | apply Sub.drop | apply Sub.dropE)); first | done | fail), _, E1, _, E2, (by rw [show W.filter (duep t) = kept (duep t) W W.length from (kept_all (Nat.le_refl _)).symm]; exact V1), (by rw [show W.filter (dueq t) = kept (dueq t) W W.length from (kept_all (Nat.le_refl _)).symm]; exact V2), rfl, rfl⟩
set_option maxRecDepth 100000 in
set_option maxHeartbeats 400000 in
theorem pended_no (q : Nat) (r : Rule) (aw : Option Addr) (cw : Nat) (W : List Entry) (Ew : SHeap) (a : Option Addr) (cap : Nat) (ts : List Pair) (E G : SHeap) (VW : OwnVec 11 113 (.slice aw W.length cw) W.length (W.flatMap Entry.cells) Ew) (hnw : W.length ≤ 1000) (V : OwnVec 2 184 (.slice a ts.length cap) ts.length (ts.flatMap Pair.cells) E) (hn : ts.length ≤ 1000) (j : Job) (hno : ¬ AgainP r j (triesN ts j.id)) : AC Try.prog W0 70 [.pointer (some ⟨q, 0, none⟩), j.v] (plain q r (.slice aw W.length cw) (.slice a ts.length cap) :: (Ew ++ (E ++ G))) (fun v H' => ∃ sl' E', OwnVec 2 184 sl' (tdel j.id ts).length ((tdel j.id ts).flatMap Pair.cells) E' ∧ v = .bool false ∧ H' = plain q r (.slice aw W.length cw) sl' :: (Ew ++ (E' ++ G))) := by
  refine ac_of Try.func70 rfl rfl rfl ?_
  refine aw_seq_region ?_
  refine sr_new rfl (wtd_none rfl) rfl (x_box rfl rfl) ?_
  intro r0_0 hr0_0 gr0_0
  refine sr_x rfl (wtd_none rfl) rfl (Rd.x (x_assign rfl)) ?_
  refine sr_nil ?_
  refine aw_keep (keep_cons (t := 0) rfl (keep_cons (t := 3) rfl (keep_cons (t := 4) rfl keep_nil))) ?_
  refine aw_seq_region ?_
  refine sr_x rfl (wtd_none rfl) rfl (Rd.x (x_move rfl)) ?_
  refine sr_x rfl (wtd_none rfl) rfl (Rd.x (x_fieldAddr fd91_0 rfl)) ?_
  refine sr_x rfl (wtd_none rfl) rfl (Rd.x (x_load ag3 rfl (cells_ext (by repeat (first | exact List.mem_cons_self | apply List.mem_cons_of_mem | apply List.mem_append_right)) (by repeat (first | exact Ext.all _ | exact Ext.done | apply Ext.take | apply Ext.skip))))) ?_
  refine sr_d rfl (wtd_none rfl) rfl (opS_call rfl rfl rfl rfl cl117 (AC.sub (by repeat (first | exact Sub.refl _ | refine Sub.take (by repeat (first | exact Take.here | apply Take.there | apply Take.app)) ?_ | refine Sub.takeE (by repeat (first | exact TakeE.here | apply TakeE.there | apply TakeE.app)) ?_ | exact Sub.nil _ | apply Sub.drop | apply Sub.dropE)) (ptries_s q r (.slice aw W.length cw) a cap ts E ((r0_0, .cells (Job.cells j).toArray 91 (0, 0)) :: (Ew ++ G)) V hn j.id))) ?_
  rintro _ _ ⟨sl2, E2, V2, rfl, rfl⟩
  obtain ⟨a2, c2, rfl⟩ := V2.isSl
  have htl := tdel_len (id := j.id) (ts := ts)
  refine sr_x rfl (wtd_none rfl) rfl (Rd.x (x_assign rfl)) ?_
  refine sr_nil ?_
  refine aw_keep (keep_cons (t := 0) rfl (keep_cons (t := 3) rfl (keep_cons (t := 4) rfl (keep_cons (t := 5) rfl keep_nil)))) ?_
  refine aw_seq ?_
  refine aw_seq_dr ⟨_, 8, 98, [[], [0], [0, 1], [0, 1, 2], [], [], [0, 1, 2, 3, 4, 5], [0, 1, 2, 3, 4, 5, 6]], [.light, .light, .light, .mem, .mem, .light, .call, .light]⟩ (by kernel_rfl) rfl rfl mix ?_
  refine dr_light rfl rfl (wtd_none rfl) (x_move rfl) ?_
  refine dr_light rfl rfl (wtd_none rfl) (x_nilCheck rfl) ?_
  refine dr_light rfl rfl (wtd_none rfl) (x_fieldAddr fd111_0 rfl) ?_
  refine dr_mem0 rfl rfl (wtd_none rfl) (x_loadN ag89 sz89 rfl (cells_ext (vs := r.cells) (n := 5) (by repeat (first | exact List.mem_cons_self | apply List.mem_cons_of_mem | apply List.mem_append_right)) (by repeat (first | exact Ext.done | apply Ext.take | apply Ext.skip))) rfl) ?_
  refine dr_mem0 rfl rfl (wtd_none rfl) (x_loadN ag91 sz91 rfl (cells_ext (by repeat (first | exact List.mem_cons_self | apply List.mem_cons_of_mem | apply List.mem_append_right)) (by repeat (first | exact Ext.all _ | exact Ext.done | apply Ext.take | apply Ext.skip))) rfl) ?_
  refine dr_light rfl rfl (wtd_none rfl) (x_move rfl) ?_
  refine dr_callq0 rfl rfl (wtd_none rfl) (opS_F rfl rfl rfl rfl cl57 ((again57_s r j _ _))) (⟨_, rfl⟩) ?_
  rintro _ rfl
  rw [decide_eq_false hno]
  refine dr_light rfl rfl (wtd_none rfl) (x_not rfl) ?_
  refine dr_nil0 ?_
  refine aw_keep (keep_cons (t := 0) rfl (keep_cons (t := 3) rfl (keep_cons (t := 4) rfl (keep_cons (t := 5) rfl (keep_cons (t := 21) rfl keep_nil))))) ?_
  refine aw_true rfl ?_
  refine aw_seq_region ?_
  refine sr_x rfl (wtd_none rfl) rfl (Rd.x (x_assign rfl)) ?_
  refine sr_nil ?_
  refine aw_keep (keep_cons (t := 0) rfl (keep_cons (t := 3) rfl (keep_cons (t := 4) rfl (keep_cons (t := 5) rfl keep_nil)))) ?_
  refine aw_ret ?_
  show ∃ v H2, ResV _ _ _ _ _ _ v ∧ Sub H2 _ ∧ _
  exact ⟨_, plain q r (.slice aw W.length cw) (.slice a2 (tdel j.id ts).length c2) :: (Ew ++ (E2 ++ G)), resV rfl (.cons rfl .nil), (by (repeat (first | exact Sub.refl _ | refine Sub.take (by repeat (first | exact Take.here | apply Take.there | apply Take.app)) ?_ | refine Sub.takeE (by repeat (first | exact TakeE.here | apply TakeE.there | apply TakeE.app)) ?_ | exact Sub.nil _ | apply Sub.drop | apply Sub.dropE)); first | done | fail), _, E2, V2, rfl, rfl⟩
set_option maxRecDepth 100000 in
set_option maxHeartbeats 4000000 in
theorem pended_yes (q : Nat) (r : Rule) (aw : Option Addr) (cw : Nat) (W : List Entry) (Ew : SHeap) (a : Option Addr) (cap : Nat) (ts : List Pair) (E G : SHeap) (VW : OwnVec 11 113 (.slice aw W.length cw) W.length (W.flatMap Entry.cells) Ew) (hnw : W.length ≤ 1000) (V : OwnVec 2 184 (.slice a ts.length cap) ts.length (ts.flatMap Pair.cells) E) (hn : ts.length ≤ 1000) (j : Job) (hsrt : SrtE W) (hyes : AgainP r j (triesN ts j.id)) : AC Try.prog W0 70 [.pointer (some ⟨q, 0, none⟩), j.v] (plain q r (.slice aw W.length cw) (.slice a ts.length cap) :: (Ew ++ (E ++ G))) (fun v H' => ∃ i ws Ew' sl' E', AtE W (satAdd [j.fin, waitL r (triesN ts j.id)]) i ∧ OwnVec 11 113 ws (W.length + 1) ((insE W i (⟨(satAdd [j.fin, waitL r (triesN ts j.id)]), (triesN ts j.id) + 1, ⟨1, 0, j.user, j.width, limitL r j.limit (triesN ts j.id), j.prio, false, 0, 0⟩⟩ : Entry)).flatMap Entry.cells) Ew' ∧ OwnVec 2 184 sl' (tdel j.id ts).length ((tdel j.id ts).flatMap Pair.cells) E' ∧ v = .bool true ∧ H' = plain q r ws sl' :: (Ew' ++ (E' ++ G))) := by
  have hs : SlV W0 Ew 11 Entry.cells aw cw W := VW.slv' (fun _ => rfl) rfl (Sub.refl _)
  have hle := hs.le
  have hcb := hs.capb
  have hnb := hyes.2.1
  have hmb := hyes.1.1
  refine ac_of Try.func70 rfl rfl rfl ?_
  refine aw_seq_region ?_
  refine sr_new rfl (wtd_none rfl) rfl (x_box rfl rfl) ?_
  intro r0_0 hr0_0 gr0_0
  refine sr_x rfl (wtd_none rfl) rfl (Rd.x (x_assign rfl)) ?_
  refine sr_nil ?_
  refine aw_keep (keep_cons (t := 0) rfl (keep_cons (t := 3) rfl (keep_cons (t := 4) rfl keep_nil))) ?_
  refine aw_seq_region ?_
  refine sr_x rfl (wtd_none rfl) rfl (Rd.x (x_move rfl)) ?_
  refine sr_x rfl (wtd_none rfl) rfl (Rd.x (x_fieldAddr fd91_0 rfl)) ?_
  refine sr_x rfl (wtd_none rfl) rfl (Rd.x (x_load ag3 rfl (cells_ext (by repeat (first | exact List.mem_cons_self | apply List.mem_cons_of_mem | apply List.mem_append_right)) (by repeat (first | exact Ext.all _ | exact Ext.done | apply Ext.take | apply Ext.skip))))) ?_
  refine sr_d rfl (wtd_none rfl) rfl (opS_call rfl rfl rfl rfl cl117 (AC.sub (by repeat (first | exact Sub.refl _ | refine Sub.take (by repeat (first | exact Take.here | apply Take.there | apply Take.app)) ?_ | refine Sub.takeE (by repeat (first | exact TakeE.here | apply TakeE.there | apply TakeE.app)) ?_ | exact Sub.nil _ | apply Sub.drop | apply Sub.dropE)) (ptries_s q r (.slice aw W.length cw) a cap ts E ((r0_0, .cells (Job.cells j).toArray 91 (0, 0)) :: (Ew ++ G)) V hn j.id))) ?_
  rintro _ _ ⟨sl2, E2, V2, rfl, rfl⟩
  obtain ⟨a2, c2, rfl⟩ := V2.isSl
  have htl := tdel_len (id := j.id) (ts := ts)
  refine sr_x rfl (wtd_none rfl) rfl (Rd.x (x_assign rfl)) ?_
  refine sr_nil ?_
  refine aw_keep (keep_cons (t := 0) rfl (keep_cons (t := 3) rfl (keep_cons (t := 4) rfl (keep_cons (t := 5) rfl keep_nil)))) ?_
  refine aw_seq ?_
  refine aw_seq_dr ⟨_, 8, 98, [[], [0], [0, 1], [0, 1, 2], [], [], [0, 1, 2, 3, 4, 5], [0, 1, 2, 3, 4, 5, 6]], [.light, .light, .light, .mem, .mem, .light, .call, .light]⟩ (by kernel_rfl) rfl rfl mix ?_
  refine dr_light rfl rfl (wtd_none rfl) (x_move rfl) ?_
  refine dr_light rfl rfl (wtd_none rfl) (x_nilCheck rfl) ?_
  refine dr_light rfl rfl (wtd_none rfl) (x_fieldAddr fd111_0 rfl) ?_
  refine dr_mem0 rfl rfl (wtd_none rfl) (x_loadN ag89 sz89 rfl (cells_ext (vs := r.cells) (n := 5) (by repeat (first | exact List.mem_cons_self | apply List.mem_cons_of_mem | apply List.mem_append_right)) (by repeat (first | exact Ext.done | apply Ext.take | apply Ext.skip))) rfl) ?_
  refine dr_mem0 rfl rfl (wtd_none rfl) (x_loadN ag91 sz91 rfl (cells_ext (by repeat (first | exact List.mem_cons_self | apply List.mem_cons_of_mem | apply List.mem_append_right)) (by repeat (first | exact Ext.all _ | exact Ext.done | apply Ext.take | apply Ext.skip))) rfl) ?_
  refine dr_light rfl rfl (wtd_none rfl) (x_move rfl) ?_
  refine dr_callq0 rfl rfl (wtd_none rfl) (opS_F rfl rfl rfl rfl cl57 ((again57_s r j _ _))) (⟨_, rfl⟩) ?_
  rintro _ rfl
  rw [decide_eq_true hyes]
  refine dr_light rfl rfl (wtd_none rfl) (x_not rfl) ?_
  refine dr_nil0 ?_
  refine aw_keep (keep_cons (t := 0) rfl (keep_cons (t := 3) rfl (keep_cons (t := 4) rfl (keep_cons (t := 5) rfl (keep_cons (t := 21) rfl keep_nil))))) ?_
  refine aw_false rfl ?_
  refine aw_skip ?_
  show AW _ _ _ _ _ _ _
  refine aw_seq_dr ⟨_, 30, 98, [[], [0], [], [2], [2, 3], [2, 3, 4], [], [2, 3, 4, 5, 6], [0, 1, 2, 3, 4, 5, 6, 7], [0, 1, 2, 3, 4, 5, 6, 7, 8], [], [10], [], [12], [], [14], [], [16], [16, 17], [16, 17, 18], [], [20], [], [0, 1, 2, 3, 4, 5, 6, 7, 8, 9, 16, 17, 18, 19, 20, 21, 22], [], [24], [0, 1, 2, 3, 4, 5, 6, 7, 8, 9, 12, 13, 14, 15, 16, 17, 18, 19, 20, 21, 22, 23, 24, 25], [0, 1, 2, 3, 4, 5, 6, 7, 8, 9, 10, 11, 12, 13, 14, 15, 16, 17, 18, 19, 20, 21, 22, 23, 24, 25, 26], [], [0, 1, 2, 3, 4, 5, 6, 7, 8, 9, 10, 11, 12, 13, 14, 15, 16, 17, 18, 19, 20, 21, 22, 23, 24, 25, 26, 27, 28]], [.light, .mem, .light, .light, .light, .mem, .light, .call, .alloc, .call, .light, .light, .light, .mem, .light, .mem, .light, .light, .light, .mem, .light, .mem, .light, .call, .light, .mem, .light, .light, .alloc, .loc 28]⟩ (by kernel_rfl) rfl rfl mix ?_
  refine dr_light rfl rfl (wtd_none rfl) (x_fieldAddr fd91_7 rfl) ?_
  refine dr_mem0 rfl rfl (wtd_none rfl) (x_load ag2 rfl (cells_ext (by repeat (first | exact List.mem_cons_self | apply List.mem_cons_of_mem | apply List.mem_append_right)) (by repeat (first | exact Ext.all _ | exact Ext.done | apply Ext.take | apply Ext.skip)))) ?_
  refine dr_light rfl rfl (wtd_none rfl) (x_move rfl) ?_
  refine dr_light rfl rfl (wtd_none rfl) (x_nilCheck rfl) ?_
  refine dr_light rfl rfl (wtd_none rfl) (x_fieldAddr fd111_0 rfl) ?_
  refine dr_mem0 rfl rfl (wtd_none rfl) (x_loadN ag89 sz89 rfl (cells_ext (vs := r.cells) (n := 5) (by repeat (first | exact List.mem_cons_self | apply List.mem_cons_of_mem | apply List.mem_append_right)) (by repeat (first | exact Ext.done | apply Ext.take | apply Ext.skip))) rfl) ?_
  refine dr_light rfl rfl (wtd_none rfl) (x_move rfl) ?_
  refine dr_callq0 rfl rfl (wtd_none rfl) (opS_F rfl rfl rfl rfl cl60 ((wait60_s _ _ _))) (⟨_, rfl⟩) ?_
  rintro _ rfl
  refine dr_alloc rfl rfl (wtd_none rfl) (x_buildSlice Try.underlying178 sz2 zr2 rfl rfl rfl rfl (by repeat (first | exact Parts.nil | (apply Parts.cons; rfl))) (by repeat (first | exact Fill.done | (apply Fill.part; rfl; rfl; rfl; focus (repeat (first | exact Spl.done | exact Spl.all rfl | apply Spl.put | apply Spl.skip)))))) ?_
  intro r4_8 hr4_8 gr4_8
  refine dr_callq rfl (V := [(r4_8, _)]) rfl rfl rfl (wtd_none rfl) (opS_F rfl rfl rfl rfl cl59 ((satAdd_s _ 2 [_, _] _ rfl (by omega) (cells_ext (by repeat (first | exact List.mem_cons_self | apply List.mem_cons_of_mem | apply List.mem_append_right)) (by repeat (first | exact Ext.all _ | exact Ext.done | apply Ext.take | apply Ext.skip)))))) (⟨_, rfl⟩) ?_
  rintro _ rfl
  refine dr_light rfl rfl (wtd_none rfl) (x_move rfl) ?_
  refine dr_light rfl rfl (wtd_none rfl) (x_add' rfl rfl (i64w (by omega) (by omega))) ?_
  refine dr_light rfl rfl (wtd_none rfl) (x_fieldAddr fd91_1 rfl) ?_
  refine dr_mem rfl (V := []) rfl rfl (wtd_none rfl) (x_load ag3 rfl (cells_ext (by repeat (first | exact List.mem_cons_self | apply List.mem_cons_of_mem | apply List.mem_append_right)) (by repeat (first | exact Ext.all _ | exact Ext.done | apply Ext.take | apply Ext.skip)))) ?_
  refine dr_light rfl rfl (wtd_none rfl) (x_fieldAddr fd91_2 rfl) ?_
  refine dr_mem rfl (V := []) rfl rfl (wtd_none rfl) (x_load ag3 rfl (cells_ext (by repeat (first | exact List.mem_cons_self | apply List.mem_cons_of_mem | apply List.mem_append_right)) (by repeat (first | exact Ext.all _ | exact Ext.done | apply Ext.take | apply Ext.skip)))) ?_
  refine dr_light rfl rfl (wtd_none rfl) (x_move rfl) ?_
  refine dr_light rfl rfl (wtd_none rfl) (x_nilCheck rfl) ?_
  refine dr_light rfl rfl (wtd_none rfl) (x_fieldAddr fd111_0 rfl) ?_
  refine dr_mem rfl (V := []) rfl rfl (wtd_none rfl) (x_loadN ag89 sz89 rfl (cells_ext (vs := r.cells) (n := 5) (by repeat (first | exact List.mem_cons_self | apply List.mem_cons_of_mem | apply List.mem_append_right)) (by repeat (first | exact Ext.done | apply Ext.take | apply Ext.skip))) rfl) ?_
  refine dr_light rfl rfl (wtd_none rfl) (x_fieldAddr fd91_3 rfl) ?_
  refine dr_mem rfl (V := []) rfl rfl (wtd_none rfl) (x_load ag2 rfl (cells_ext (by repeat (first | exact List.mem_cons_self | apply List.mem_cons_of_mem | apply List.mem_append_right)) (by repeat (first | exact Ext.all _ | exact Ext.done | apply Ext.take | apply Ext.skip)))) ?_
  refine dr_light rfl rfl (wtd_none rfl) (x_move rfl) ?_
  refine dr_callq rfl (V := [(r4_8, _)]) rfl rfl rfl (wtd_none rfl) (opS_F rfl rfl rfl rfl cl61 ((limit61_s _ _ _ _ hyes.1))) (⟨_, rfl⟩) ?_
  rintro _ rfl
  refine dr_light rfl rfl (wtd_none rfl) (x_fieldAddr fd91_4 rfl) ?_
  refine dr_mem rfl (V := []) rfl rfl (wtd_none rfl) (x_load ag3 rfl (cells_ext (by repeat (first | exact List.mem_cons_self | apply List.mem_cons_of_mem | apply List.mem_append_right)) (by repeat (first | exact Ext.all _ | exact Ext.done | apply Ext.take | apply Ext.skip)))) ?_
  refine dr_light rfl rfl (wtd_none rfl) (x_build zr36 rfl fl36 (by repeat (first | exact Parts.nil | (apply Parts.cons; rfl))) (by repeat (first | exact Fill.done | (apply Fill.part; rfl; rfl; rfl; focus (repeat (first | exact Spl.done | exact Spl.all rfl | apply Spl.put | apply Spl.skip)))))) ?_
  refine dr_light rfl rfl (wtd_none rfl) (x_build zr113 rfl fl113 (by repeat (first | exact Parts.nil | (apply Parts.cons; rfl))) (by repeat (first | exact Fill.done | (apply Fill.part; rfl; rfl; rfl; focus (repeat (first | exact Spl.done | exact Spl.all rfl | apply Spl.put | apply Spl.skip)))))) ?_
  refine dr_alloc rfl rfl (wtd_none rfl) (x_alloc zr113 rfl) ?_
  intro r4_28 hr4_28 gr4_28
  refine dr_loc rfl rfl rfl (wtd_none rfl) (x_store sz113 rfl rfl rfl rfl rfl (by repeat (first | exact Repl.here | apply Repl.there | apply Repl.app)) (by repeat (first | exact Spl.done | exact Spl.all rfl | apply Spl.put | apply Spl.skip))) (by first | rfl | simp [keys_append, keys_cons]) ?_
  refine dr_nil (E := [(r4_8, _), (r4_28, .cells (Entry.cells (⟨(satAdd [j.fin, waitL r (triesN ts j.id)]), (triesN ts j.id) + 1, ⟨1, 0, j.user, j.width, limitL r j.limit (triesN ts j.id), j.prio, false, 0, 0⟩⟩ : Entry)).toArray 113 (0, 0))]) rfl ?_
  refine aw_keep (keep_cons (t := 0) rfl (keep_cons (t := 4) rfl (keep_cons (t := 6) rfl keep_nil))) ?_
  refine aw_seq_region ?_
  refine sr_x rfl (wtd_none rfl) rfl (Rd.x (x_assign rfl)) ?_
  refine sr_nil ?_
  refine aw_keep (keep_cons (t := 0) rfl (keep_cons (t := 4) rfl (keep_cons (t := 6) rfl (keep_cons (t := 7) rfl keep_nil)))) ?_
  refine aw_seq_region ?_
  refine sr_x rfl (wtd_none rfl) rfl (Rd.x (x_assign rfl)) ?_
  refine sr_nil ?_
  refine aw_keep (keep_cons (t := 0) rfl (keep_cons (t := 4) rfl (keep_cons (t := 6) rfl (keep_cons (t := 7) rfl (keep_cons (t := 8) rfl keep_nil))))) ?_
  refine aw_seq ?_
  refine aw_seq_region ?_
  refine sr_x rfl (wtd_none rfl) rfl (Rd.x (x_assign rfl)) ?_
  refine sr_nil ?_
  refine aw_keep (keep_cons (t := 0) rfl (keep_cons (t := 4) rfl (keep_cons (t := 6) rfl (keep_cons (t := 7) rfl (keep_cons (t := 8) rfl (keep_cons (t := 9) rfl keep_nil)))))) ?_
  refine aw_block ?_
  refine aw_loop (ι := PG) (fun s => PInv W (⟨(satAdd [j.fin, waitL r (triesN ts j.id)]), (triesN ts j.id) + 1, ⟨1, 0, j.user, j.width, limitL r j.limit (triesN ts j.id), j.prio, false, 0, 0⟩⟩ : Entry) s) (fun s => [(0, .pointer (some ⟨q, 0, none⟩)), (4, .bool false), (6, .pointer (some ⟨r4_28, 0, none⟩)), (7, s.sl), (8, .bool s.put), (9, .int .i64 s.k)]) (fun s => s.E ++ ((r4_28, .cells (Entry.cells (⟨(satAdd [j.fin, waitL r (triesN ts j.id)]), (triesN ts j.id) + 1, ⟨1, 0, j.user, j.width, limitL r j.limit (triesN ts j.id), j.prio, false, 0, 0⟩⟩ : Entry)).toArray 113 (0, 0)) :: plain q r (.slice aw W.length cw) (.slice a2 (tdel j.id ts).length c2) :: (Ew ++ (E2 ++ G)))) (fun s => W.length - s.k) ⟨0, false, 0, .slice none 0 0, []⟩ (⟨Nat.zero_le _, fun _ k y h => absurd h (Nat.not_lt_zero k), (fun h => by cases h), .nil⟩) (by repeat (first | exact keep_nil | refine keep_cons rfl ?_)) (by repeat (first | exact Sub.refl _ | refine Sub.take (by repeat (first | exact Take.here | apply Take.there | apply Take.app)) ?_ | refine Sub.takeE (by repeat (first | exact TakeE.here | apply TakeE.there | apply TakeE.app)) ?_ | exact Sub.nil _ | apply Sub.drop | apply Sub.dropE)) ?_
  intro s hs9
  obtain ⟨k, put, m, sl5, E5⟩ := s
  unfold PInv at hs9
  dsimp only at hs9 ⊢
  obtain ⟨hk, hlt, hpt, V5⟩ := hs9
  cases put
  · have hol1 := outE_len (W := W) (e := (⟨(satAdd [j.fin, waitL r (triesN ts j.id)]), (triesN ts j.id) + 1, ⟨1, 0, j.user, j.width, limitL r j.limit (triesN ts j.id), j.prio, false, 0, 0⟩⟩ : Entry)) (m := m) (put := true) hk
    have hol2 := outE_len (W := W) (e := (⟨(satAdd [j.fin, waitL r (triesN ts j.id)]), (triesN ts j.id) + 1, ⟨1, 0, j.user, j.width, limitL r j.limit (triesN ts j.id), j.prio, false, 0, 0⟩⟩ : Entry)) (m := m) (put := false) hk
    obtain ⟨a5, c5, rfl⟩ := V5.isSl
    refine aw_seq ?_
    refine aw_seq_region ?_
    refine sr_x rfl (wtd_none rfl) rfl (Rd.x (x_move rfl)) ?_
    refine sr_x rfl (wtd_none rfl) rfl (Rd.x (x_move rfl)) ?_
    refine sr_x rfl (wtd_none rfl) rfl (Rd.x (x_nilCheck rfl)) ?_
    refine sr_x rfl (wtd_none rfl) rfl (Rd.x (x_fieldAddr fd111_1 rfl)) ?_
    refine sr_x rfl (wtd_none rfl) rfl (Rd.x (x_load ag104 rfl (cells_ext (by repeat (first | exact List.mem_cons_self | apply List.mem_cons_of_mem | apply List.mem_append_right)) (by repeat (first | exact Ext.all _ | exact Ext.done | apply Ext.take | apply Ext.skip))))) ?_
    refine sr_x rfl (wtd_none rfl) rfl (Rd.x (x_lenSlice Try.underlying104 rfl)) ?_
    refine sr_cmp rfl (wtd_none rfl) rfl (Rd.x (x_lt rfl rfl)) (fun h1 => ?_) (fun h1 => ?_)
    · refine sr_nil ?_
      refine aw_keep (keep_cons (t := 0) rfl (keep_cons (t := 4) rfl (keep_cons (t := 6) rfl (keep_cons (t := 7) rfl (keep_cons (t := 8) rfl (keep_cons (t := 9) rfl (keep_cons (t := 50) rfl (keep_cons (t := 51) rfl (keep_cons (t := 52) rfl (keep_cons (t := 53) rfl (keep_cons (t := 54) rfl (keep_cons (t := 55) rfl (keep_cons (t := 56) rfl keep_nil))))))))))))) ?_
      refine aw_true rfl ?_
      refine aw_skip ?_
      show AW _ _ _ _ _ _ _
      refine aw_seq ?_
      refine aw_block ?_
      refine aw_seq ?_
      refine aw_seq_dr ⟨_, 15, 98, [[], [0], [0, 1], [0, 1, 2], [0, 1, 2, 3], [0, 1, 2, 3, 4], [0, 1, 2, 3, 4, 5], [0, 1, 2], [0, 1, 2, 3, 4, 5, 6, 7], [0, 1, 2, 3, 4, 5, 6, 7, 8], [0, 1, 2, 3, 4, 5, 6, 7, 8, 9], [0, 1, 2], [0, 1, 2, 11], [0, 1, 2, 3, 4, 5, 6, 7, 8, 9, 10, 11, 12], [0, 1, 2, 3, 4, 5, 6, 7, 8, 9, 10, 11, 12, 13]], [.light, .light, .light, .light, .light, .light, .mem, .light, .light, .light, .mem, .light, .mem, .light, .light]⟩ (by kernel_rfl) rfl rfl mix ?_
      obtain ⟨x, hx⟩ := get_ex (show k < W.length by omega)
      obtain ⟨be, oe, hae, hce⟩ := hs.at_ k _ hx
      refine dr_light rfl rfl (wtd_none rfl) (x_move rfl) ?_
      refine dr_light rfl rfl (wtd_none rfl) (x_not rfl) ?_
      refine dr_light rfl rfl (wtd_none rfl) (x_move rfl) ?_
      refine dr_light rfl rfl (wtd_yes rfl rfl rfl) (x_move rfl) ?_
      refine dr_light rfl rfl (wtd_yes rfl rfl rfl) (x_nilCheck rfl) ?_
      refine dr_light rfl rfl (wtd_yes rfl rfl rfl) (x_fieldAddr fd111_1 rfl) ?_
      refine dr_mem0 rfl rfl (wtd_yes rfl rfl rfl) (x_load ag104 rfl (cells_ext (by repeat (first | exact List.mem_cons_self | apply List.mem_cons_of_mem | apply List.mem_append_right)) (by repeat (first | exact Ext.all _ | exact Ext.done | apply Ext.take | apply Ext.skip)))) ?_
      refine dr_light rfl rfl (wtd_yes rfl rfl rfl) (x_move rfl) ?_
      refine dr_light rfl rfl (wtd_yes rfl rfl rfl) (x_indexAddrN k Try.underlying104 sz113 rfl hae rfl (by omega) (by omega)) ?_
      refine dr_light rfl rfl (wtd_yes rfl rfl rfl) (x_fieldAddr fd113_0 rfl) ?_
      refine dr_mem0 rfl rfl (wtd_yes rfl rfl rfl) (x_load ag2 rfl (cells_get (Cells.mono hce (Sub.takeE0 (by repeat (first | exact TakeE.here | apply TakeE.there | apply TakeE.app)))) 0 rfl)) ?_
      refine dr_light rfl rfl (wtd_yes rfl rfl rfl) (x_fieldAddr fd113_0 rfl) ?_
      refine dr_mem0 rfl rfl (wtd_yes rfl rfl rfl) (x_load ag2 rfl (cells_ext (by repeat (first | exact List.mem_cons_self | apply List.mem_cons_of_mem | apply List.mem_append_right)) (by repeat (first | exact Ext.all _ | exact Ext.done | apply Ext.take | apply Ext.skip)))) ?_
      refine dr_cmp rfl rfl (wtd_yes rfl rfl rfl) (x_gt rfl rfl) (fun h2 => ?_) (fun h2 => ?_)
      · refine dr_light rfl rfl (wtd_none rfl) (x_pick_t rfl rfl rfl) ?_
        refine dr_nil0 ?_
        refine aw_keep (keep_cons (t := 0) rfl (keep_cons (t := 4) rfl (keep_cons (t := 6) rfl (keep_cons (t := 7) rfl (keep_cons (t := 8) rfl (keep_cons (t := 9) rfl (keep_cons (t := 50) rfl (keep_cons (t := 51) rfl (keep_cons (t := 52) rfl (keep_cons (t := 53) rfl (keep_cons (t := 54) rfl (keep_cons (t := 55) rfl (keep_cons (t := 56) rfl (keep_cons (t := 59) rfl (keep_cons (t := 60) rfl (keep_cons (t := 61) rfl (keep_cons (t := 62) rfl (keep_cons (t := 63) rfl (keep_cons (t := 64) rfl (keep_cons (t := 65) rfl (keep_cons (t := 66) rfl (keep_cons (t := 67) rfl (keep_cons (t := 68) rfl (keep_cons (t := 69) rfl (keep_cons (t := 70) rfl (keep_cons (t := 71) rfl (keep_cons (t := 72) rfl (keep_cons (t := 73) rfl keep_nil)))))))))))))))))))))))))))) ?_
        refine aw_true rfl ?_
        refine aw_seq_region ?_
        refine sr_x rfl (wtd_none rfl) rfl (Rd.x (x_move rfl)) ?_
        refine sr_x rfl (wtd_none rfl) rfl (Rd.x (x_loadN ag113 sz113 rfl (cells_ext (by repeat (first | exact List.mem_cons_self | apply List.mem_cons_of_mem | apply List.mem_append_right)) (by repeat (first | exact Ext.all _ | exact Ext.done | apply Ext.take | apply Ext.skip))) rfl)) ?_
        refine sr_new rfl (wtd_none rfl) rfl (x_buildSlice Try.underlying104 sz113 zr113 rfl rfl rfl rfl (by repeat (first | exact Parts.nil | (apply Parts.cons; rfl))) (by repeat (first | exact Fill.done | (apply Fill.part; rfl; rfl; rfl; focus (repeat (first | exact Spl.done | exact Spl.all rfl | apply Spl.put | apply Spl.skip)))))) ?_
        intro r11_2 hr11_2 gr11_2
        refine sr_d rfl (wtd_none rfl) rfl (opS_append (G := (r4_28, .cells (Entry.cells (⟨(satAdd [j.fin, waitL r (triesN ts j.id)]), (triesN ts j.id) + 1, ⟨1, 0, j.user, j.width, limitL r j.limit (triesN ts j.id), j.prio, false, 0, 0⟩⟩ : Entry)).toArray 113 (0, 0)) :: plain q r (.slice aw W.length cw) (.slice a2 (tdel j.id ts).length c2) :: (Ew ++ (E2 ++ G))) (N := (Entry.cells (⟨(satAdd [j.fin, waitL r (triesN ts j.id)]), (triesN ts j.id) + 1, ⟨1, 0, j.user, j.width, limitL r j.limit (triesN ts j.id), j.prio, false, 0, 0⟩⟩ : Entry))) (m := 1) Try.underlying104 sz113 zr113 rfl by113 rfl rfl V5 (by repeat (first | exact Sub.refl _ | refine Sub.take (by repeat (first | exact Take.here | apply Take.there | apply Take.app)) ?_ | refine Sub.takeE (by repeat (first | exact TakeE.here | apply TakeE.there | apply TakeE.app)) ?_ | exact Sub.nil _ | apply Sub.drop | apply Sub.dropE)) (.inr ⟨_, _, rfl, (cells_ext (by repeat (first | exact List.mem_cons_self | apply List.mem_cons_of_mem | apply List.mem_append_right)) (by repeat (first | exact Ext.all _ | exact Ext.done | apply Ext.take | apply Ext.skip)))⟩) (rfl) rfl (by omega) (by omega)) ?_
        rintro v77 _ ⟨E77, hV77, rfl⟩
        obtain ⟨a77, cap77, rfl⟩ := hV77.isSl
        refine sr_x rfl (wtd_none rfl) rfl (Rd.x (x_assign rfl)) ?_
        refine sr_nil ?_
        refine aw_keep (keep_cons (t := 0) rfl (keep_cons (t := 4) rfl (keep_cons (t := 6) rfl (keep_cons (t := 7) rfl (keep_cons (t := 8) rfl (keep_cons (t := 9) rfl (keep_cons (t := 50) rfl (keep_cons (t := 51) rfl (keep_cons (t := 52) rfl (keep_cons (t := 53) rfl (keep_cons (t := 54) rfl (keep_cons (t := 55) rfl (keep_cons (t := 56) rfl (keep_cons (t := 59) rfl (keep_cons (t := 60) rfl (keep_cons (t := 61) rfl (keep_cons (t := 62) rfl (keep_cons (t := 63) rfl (keep_cons (t := 64) rfl (keep_cons (t := 65) rfl (keep_cons (t := 66) rfl (keep_cons (t := 67) rfl (keep_cons (t := 68) rfl (keep_cons (t := 69) rfl (keep_cons (t := 70) rfl (keep_cons (t := 71) rfl (keep_cons (t := 72) rfl (keep_cons (t := 73) rfl (keep_cons (t := 74) rfl (keep_cons (t := 75) rfl (keep_cons (t := 76) rfl (keep_cons (t := 77) rfl keep_nil)))))))))))))))))))))))))))))))) ?_
        refine aw_region ?_
        refine sr_x rfl (wtd_none rfl) rfl (Rd.x (x_assign rfl)) ?_
        refine sr_nil ?_
        show AW _ _ _ _ _ _ _
        refine aw_region ?_
        refine sr_x rfl (wtd_none rfl) rfl (Rd.x (x_move rfl)) ?_
        refine sr_x rfl (wtd_none rfl) rfl (Rd.x (x_move rfl)) ?_
        refine sr_x rfl (wtd_none rfl) rfl (Rd.x (x_nilCheck rfl)) ?_
        refine sr_x rfl (wtd_none rfl) rfl (Rd.x (x_fieldAddr fd111_1 rfl)) ?_
        refine sr_x rfl (wtd_none rfl) rfl (Rd.x (x_load ag104 rfl (cells_ext (by repeat (first | exact List.mem_cons_self | apply List.mem_cons_of_mem | apply List.mem_append_right)) (by repeat (first | exact Ext.all _ | exact Ext.done | apply Ext.take | apply Ext.skip))))) ?_
        refine sr_x rfl (wtd_none rfl) rfl (Rd.x (x_move rfl)) ?_
        refine sr_x rfl (wtd_none rfl) rfl (Rd.x (x_indexAddrN k Try.underlying104 sz113 rfl hae rfl (by omega) (by omega))) ?_
        refine sr_x rfl (wtd_none rfl) rfl (Rd.x (x_loadN ag113 sz113 rfl (Cells.mono hce (Sub.takeE0 (by repeat (first | exact TakeE.here | apply TakeE.there | apply TakeE.app)))) rfl)) ?_
        refine sr_new rfl (wtd_none rfl) rfl (x_buildSlice Try.underlying104 sz113 zr113 rfl rfl rfl rfl (by repeat (first | exact Parts.nil | (apply Parts.cons; rfl))) (by repeat (first | exact Fill.done | (apply Fill.part; rfl; rfl; rfl; focus (repeat (first | exact Spl.done | exact Spl.all rfl | apply Spl.put | apply Spl.skip)))))) ?_
        intro r13_8 hr13_8 gr13_8
        refine sr_d rfl (wtd_none rfl) rfl (opS_append (G := (r4_28, .cells (Entry.cells (⟨(satAdd [j.fin, waitL r (triesN ts j.id)]), (triesN ts j.id) + 1, ⟨1, 0, j.user, j.width, limitL r j.limit (triesN ts j.id), j.prio, false, 0, 0⟩⟩ : Entry)).toArray 113 (0, 0)) :: plain q r (.slice aw W.length cw) (.slice a2 (tdel j.id ts).length c2) :: (Ew ++ (E2 ++ G))) (N := x.cells) (m := 1) Try.underlying104 sz113 zr113 rfl by113 rfl rfl hV77 (by repeat (first | exact Sub.refl _ | refine Sub.take (by repeat (first | exact Take.here | apply Take.there | apply Take.app)) ?_ | refine Sub.takeE (by repeat (first | exact TakeE.here | apply TakeE.there | apply TakeE.app)) ?_ | exact Sub.nil _ | apply Sub.drop | apply Sub.dropE)) (.inr ⟨_, _, rfl, (cells_ext (by repeat (first | exact List.mem_cons_self | apply List.mem_cons_of_mem | apply List.mem_append_right)) (by repeat (first | exact Ext.all _ | exact Ext.done | apply Ext.take | apply Ext.skip)))⟩) (rfl) rfl (by omega) (by omega)) ?_
        rintro v87 _ ⟨E87, hV87, rfl⟩
        obtain ⟨a87, cap87, rfl⟩ := hV87.isSl
        refine sr_x rfl (wtd_none rfl) rfl (Rd.x (x_assign rfl)) ?_
        refine sr_nil ?_
        show AW _ _ _ _ _ _ _
        refine aw_region ?_
        refine sr_x rfl (wtd_none rfl) rfl (Rd.x (x_move rfl)) ?_
        refine sr_x rfl (wtd_none rfl) rfl (Rd.x (x_add' rfl rfl (i64w (by omega) (by omega)))) ?_
        refine sr_x rfl (wtd_none rfl) rfl (Rd.x (x_assign rfl)) ?_
        refine sr_nil ?_
        show ∃ s', _ ∧ _ ∧ _ ∧ _
        first | exact ⟨⟨k + 1, true, k, _, _⟩, pin_now hsrt hx (hlt rfl) (by omega) hV87, by dsimp only; omega, (by repeat (first | exact keep_nil | refine keep_cons rfl ?_)), (by repeat (first | exact Sub.refl _ | refine Sub.take (by repeat (first | exact Take.here | apply Take.there | apply Take.app)) ?_ | refine Sub.takeE (by repeat (first | exact TakeE.here | apply TakeE.there | apply TakeE.app)) ?_ | exact Sub.nil _ | apply Sub.drop | apply Sub.dropE))⟩ | exact ⟨⟨k + 1, true, m, _, _⟩, pin_put hx (hpt rfl) hV87, by dsimp only; omega, (by repeat (first | exact keep_nil | refine keep_cons rfl ?_)), (by repeat (first | exact Sub.refl _ | refine Sub.take (by repeat (first | exact Take.here | apply Take.there | apply Take.app)) ?_ | refine Sub.takeE (by repeat (first | exact TakeE.here | apply TakeE.there | apply TakeE.app)) ?_ | exact Sub.nil _ | apply Sub.drop | apply Sub.dropE))⟩ | exact ⟨⟨k + 1, false, m, _, _⟩, pin_not hx (hlt rfl) (by omega) hV87, by dsimp only; omega, (by repeat (first | exact keep_nil | refine keep_cons rfl ?_)), (by repeat (first | exact Sub.refl _ | refine Sub.take (by repeat (first | exact Take.here | apply Take.there | apply Take.app)) ?_ | refine Sub.takeE (by repeat (first | exact TakeE.here | apply TakeE.there | apply TakeE.app)) ?_ | exact Sub.nil _ | apply Sub.drop | apply Sub.dropE))⟩
      · refine dr_light rfl rfl (wtd_none rfl) (x_pick_t rfl rfl rfl) ?_
        refine dr_nil0 ?_
        refine aw_keep (keep_cons (t := 0) rfl (keep_cons (t := 4) rfl (keep_cons (t := 6) rfl (keep_cons (t := 7) rfl (keep_cons (t := 8) rfl (keep_cons (t := 9) rfl (keep_cons (t := 50) rfl (keep_cons (t := 51) rfl (keep_cons (t := 52) rfl (keep_cons (t := 53) rfl (keep_cons (t := 54) rfl (keep_cons (t := 55) rfl (keep_cons (t := 56) rfl (keep_cons (t := 59) rfl (keep_cons (t := 60) rfl (keep_cons (t := 61) rfl (keep_cons (t := 62) rfl (keep_cons (t := 63) rfl (keep_cons (t := 64) rfl (keep_cons (t := 65) rfl (keep_cons (t := 66) rfl (keep_cons (t := 67) rfl (keep_cons (t := 68) rfl (keep_cons (t := 69) rfl (keep_cons (t := 70) rfl (keep_cons (t := 71) rfl (keep_cons (t := 72) rfl (keep_cons (t := 73) rfl keep_nil)))))))))))))))))))))))))))) ?_
        refine aw_false rfl ?_
        refine aw_skip ?_
        show AW _ _ _ _ _ _ _
        refine aw_region ?_
        refine sr_x rfl (wtd_none rfl) rfl (Rd.x (x_move rfl)) ?_
        refine sr_x rfl (wtd_none rfl) rfl (Rd.x (x_move rfl)) ?_
        refine sr_x rfl (wtd_none rfl) rfl (Rd.x (x_nilCheck rfl)) ?_
        refine sr_x rfl (wtd_none rfl) rfl (Rd.x (x_fieldAddr fd111_1 rfl)) ?_
        refine sr_x rfl (wtd_none rfl) rfl (Rd.x (x_load ag104 rfl (cells_ext (by repeat (first | exact List.mem_cons_self | apply List.mem_cons_of_mem | apply List.mem_append_right)) (by repeat (first | exact Ext.all _ | exact Ext.done | apply Ext.take | apply Ext.skip))))) ?_
        refine sr_x rfl (wtd_none rfl) rfl (Rd.x (x_move rfl)) ?_
        refine sr_x rfl (wtd_none rfl) rfl (Rd.x (x_indexAddrN k Try.underlying104 sz113 rfl hae rfl (by omega) (by omega))) ?_
        refine sr_x rfl (wtd_none rfl) rfl (Rd.x (x_loadN ag113 sz113 rfl (Cells.mono hce (Sub.takeE0 (by repeat (first | exact TakeE.here | apply TakeE.there | apply TakeE.app)))) rfl)) ?_
        refine sr_new rfl (wtd_none rfl) rfl (x_buildSlice Try.underlying104 sz113 zr113 rfl rfl rfl rfl (by repeat (first | exact Parts.nil | (apply Parts.cons; rfl))) (by repeat (first | exact Fill.done | (apply Fill.part; rfl; rfl; rfl; focus (repeat (first | exact Spl.done | exact Spl.all rfl | apply Spl.put | apply Spl.skip)))))) ?_
        intro r13_8 hr13_8 gr13_8
        refine sr_d rfl (wtd_none rfl) rfl (opS_append (G := (r4_28, .cells (Entry.cells (⟨(satAdd [j.fin, waitL r (triesN ts j.id)]), (triesN ts j.id) + 1, ⟨1, 0, j.user, j.width, limitL r j.limit (triesN ts j.id), j.prio, false, 0, 0⟩⟩ : Entry)).toArray 113 (0, 0)) :: plain q r (.slice aw W.length cw) (.slice a2 (tdel j.id ts).length c2) :: (Ew ++ (E2 ++ G))) (N := x.cells) (m := 1) Try.underlying104 sz113 zr113 rfl by113 rfl rfl V5 (by repeat (first | exact Sub.refl _ | refine Sub.take (by repeat (first | exact Take.here | apply Take.there | apply Take.app)) ?_ | refine Sub.takeE (by repeat (first | exact TakeE.here | apply TakeE.there | apply TakeE.app)) ?_ | exact Sub.nil _ | apply Sub.drop | apply Sub.dropE)) (.inr ⟨_, _, rfl, (cells_ext (by repeat (first | exact List.mem_cons_self | apply List.mem_cons_of_mem | apply List.mem_append_right)) (by repeat (first | exact Ext.all _ | exact Ext.done | apply Ext.take | apply Ext.skip)))⟩) (rfl) rfl (by omega) (by omega)) ?_
        rintro v87 _ ⟨E87, hV87, rfl⟩
        obtain ⟨a87, cap87, rfl⟩ := hV87.isSl
        refine sr_x rfl (wtd_none rfl) rfl (Rd.x (x_assign rfl)) ?_
        refine sr_nil ?_
        show AW _ _ _ _ _ _ _
        refine aw_region ?_
        refine sr_x rfl (wtd_none rfl) rfl (Rd.x (x_move rfl)) ?_
        refine sr_x rfl (wtd_none rfl) rfl (Rd.x (x_add' rfl rfl (i64w (by omega) (by omega)))) ?_
        refine sr_x rfl (wtd_none rfl) rfl (Rd.x (x_assign rfl)) ?_
        refine sr_nil ?_
        show ∃ s', _ ∧ _ ∧ _ ∧ _
        first | exact ⟨⟨k + 1, true, k, _, _⟩, pin_now hsrt hx (hlt rfl) (by omega) hV87, by dsimp only; omega, (by repeat (first | exact keep_nil | refine keep_cons rfl ?_)), (by repeat (first | exact Sub.refl _ | refine Sub.take (by repeat (first | exact Take.here | apply Take.there | apply Take.app)) ?_ | refine Sub.takeE (by repeat (first | exact TakeE.here | apply TakeE.there | apply TakeE.app)) ?_ | exact Sub.nil _ | apply Sub.drop | apply Sub.dropE))⟩ | exact ⟨⟨k + 1, true, m, _, _⟩, pin_put hx (hpt rfl) hV87, by dsimp only; omega, (by repeat (first | exact keep_nil | refine keep_cons rfl ?_)), (by repeat (first | exact Sub.refl _ | refine Sub.take (by repeat (first | exact Take.here | apply Take.there | apply Take.app)) ?_ | refine Sub.takeE (by repeat (first | exact TakeE.here | apply TakeE.there | apply TakeE.app)) ?_ | exact Sub.nil _ | apply Sub.drop | apply Sub.dropE))⟩ | exact ⟨⟨k + 1, false, m, _, _⟩, pin_not hx (hlt rfl) (by omega) hV87, by dsimp only; omega, (by repeat (first | exact keep_nil | refine keep_cons rfl ?_)), (by repeat (first | exact Sub.refl _ | refine Sub.take (by repeat (first | exact Take.here | apply Take.there | apply Take.app)) ?_ | refine Sub.takeE (by repeat (first | exact TakeE.here | apply TakeE.there | apply TakeE.app)) ?_ | exact Sub.nil _ | apply Sub.drop | apply Sub.dropE))⟩
    · refine sr_nil ?_
      refine aw_keep (keep_cons (t := 0) rfl (keep_cons (t := 4) rfl (keep_cons (t := 6) rfl (keep_cons (t := 7) rfl (keep_cons (t := 8) rfl (keep_cons (t := 9) rfl (keep_cons (t := 50) rfl (keep_cons (t := 51) rfl (keep_cons (t := 52) rfl (keep_cons (t := 53) rfl (keep_cons (t := 54) rfl (keep_cons (t := 55) rfl (keep_cons (t := 56) rfl keep_nil))))))))))))) ?_
      refine aw_false rfl ?_
      refine aw_exit ?_
      show AW _ _ _ _ _ _ _
      refine aw_seq ?_
      refine aw_seq_region ?_
      refine sr_x rfl (wtd_none rfl) rfl (Rd.x (x_move rfl)) ?_
      refine sr_x rfl (wtd_none rfl) rfl (Rd.x (x_not rfl)) ?_
      refine sr_nil ?_
      refine aw_keep (keep_cons (t := 0) rfl (keep_cons (t := 4) rfl (keep_cons (t := 6) rfl (keep_cons (t := 7) rfl (keep_cons (t := 89) rfl keep_nil))))) ?_
      refine aw_true rfl ?_
      refine aw_region ?_
      refine sr_x rfl (wtd_none rfl) rfl (Rd.x (x_move rfl)) ?_
      refine sr_x rfl (wtd_none rfl) rfl (Rd.x (x_loadN ag113 sz113 rfl (cells_ext (by repeat (first | exact List.mem_cons_self | apply List.mem_cons_of_mem | apply List.mem_append_right)) (by repeat (first | exact Ext.all _ | exact Ext.done | apply Ext.take | apply Ext.skip))) rfl)) ?_
      refine sr_new rfl (wtd_none rfl) rfl (x_buildSlice Try.underlying104 sz113 zr113 rfl rfl rfl rfl (by repeat (first | exact Parts.nil | (apply Parts.cons; rfl))) (by repeat (first | exact Fill.done | (apply Fill.part; rfl; rfl; rfl; focus (repeat (first | exact Spl.done | exact Spl.all rfl | apply Spl.put | apply Spl.skip)))))) ?_
      intro r15_2 hr15_2 gr15_2
      refine sr_d rfl (wtd_none rfl) rfl (opS_append (G := (r4_28, .cells (Entry.cells (⟨(satAdd [j.fin, waitL r (triesN ts j.id)]), (triesN ts j.id) + 1, ⟨1, 0, j.user, j.width, limitL r j.limit (triesN ts j.id), j.prio, false, 0, 0⟩⟩ : Entry)).toArray 113 (0, 0)) :: plain q r (.slice aw W.length cw) (.slice a2 (tdel j.id ts).length c2) :: (Ew ++ (E2 ++ G))) (N := (Entry.cells (⟨(satAdd [j.fin, waitL r (triesN ts j.id)]), (triesN ts j.id) + 1, ⟨1, 0, j.user, j.width, limitL r j.limit (triesN ts j.id), j.prio, false, 0, 0⟩⟩ : Entry))) (m := 1) Try.underlying104 sz113 zr113 rfl by113 rfl rfl V5 (by repeat (first | exact Sub.refl _ | refine Sub.take (by repeat (first | exact Take.here | apply Take.there | apply Take.app)) ?_ | refine Sub.takeE (by repeat (first | exact TakeE.here | apply TakeE.there | apply TakeE.app)) ?_ | exact Sub.nil _ | apply Sub.drop | apply Sub.dropE)) (.inr ⟨_, _, rfl, (cells_ext (by repeat (first | exact List.mem_cons_self | apply List.mem_cons_of_mem | apply List.mem_append_right)) (by repeat (first | exact Ext.all _ | exact Ext.done | apply Ext.take | apply Ext.skip)))⟩) (rfl) rfl (by omega) (by omega)) ?_
      rintro v93 _ ⟨E93, hV93, rfl⟩
      obtain ⟨a93, cap93, rfl⟩ := hV93.isSl
      refine sr_x rfl (wtd_none rfl) rfl (Rd.x (x_assign rfl)) ?_
      refine sr_nil ?_
      show AW _ _ _ _ _ _ _
      refine aw_seq_region ?_
      refine sr_x rfl (wtd_none rfl) rfl (Rd.x (x_move rfl)) ?_
      refine sr_x rfl (wtd_none rfl) rfl (Rd.x (x_move rfl)) ?_
      refine sr_x rfl (wtd_none rfl) rfl (Rd.x (x_nilCheck rfl)) ?_
      refine sr_x rfl (wtd_none rfl) rfl (Rd.x (x_fieldAddr fd111_1 rfl)) ?_
      refine sr_x0 rfl (wtd_none rfl) (x_store sz104 rfl rfl rfl rfl rfl (by repeat (first | exact Repl.here | apply Repl.there | apply Repl.app)) (by repeat (first | exact Spl.done | exact Spl.all rfl | apply Spl.put | apply Spl.skip))) ?_
      refine sr_nil ?_
      refine aw_keep (keep_cons (t := 4) rfl keep_nil) ?_
      refine aw_seq_region ?_
      refine sr_x rfl (wtd_none rfl) rfl (Rd.x (x_assign rfl)) ?_
      refine sr_nil ?_
      refine aw_keep (keep_cons (t := 4) rfl keep_nil) ?_
      refine aw_ret ?_
      show ∃ v H2, ResV _ _ _ _ _ _ v ∧ Sub H2 _ ∧ _
      first | exact ⟨_, plain q r (.slice a93 _ cap93) (.slice a2 (tdel j.id ts).length c2) :: (E93 ++ (E2 ++ G)), resV rfl (.cons rfl .nil), (by (repeat (first | exact Sub.refl _ | refine Sub.take (by repeat (first | exact Take.here | apply Take.there | apply Take.app)) ?_ | refine Sub.takeE (by repeat (first | exact TakeE.here | apply TakeE.there | apply TakeE.app)) ?_ | exact Sub.nil _ | apply Sub.drop | apply Sub.dropE)); first | done | fail), _, _, E93, _, E2, (pout_end hk (by omega) (hlt rfl) hV93).1, (pout_end hk (by omega) (hlt rfl) hV93).2, V2, rfl, rfl⟩ | exact ⟨_, plain q r (.slice a5 _ c5) (.slice a2 (tdel j.id ts).length c2) :: (E5 ++ (E2 ++ G)), resV rfl (.cons rfl .nil), (by (repeat (first | exact Sub.refl _ | refine Sub.take (by repeat (first | exact Take.here | apply Take.there | apply Take.app)) ?_ | refine Sub.takeE (by repeat (first | exact TakeE.here | apply TakeE.there | apply TakeE.app)) ?_ | exact Sub.nil _ | apply Sub.drop | apply Sub.dropE)); first | done | fail), m, _, E5, _, E2, (hpt rfl).2, pout_put hk (by omega) (hpt rfl).1 V5, V2, rfl, rfl⟩
  · have hol1 := outE_len (W := W) (e := (⟨(satAdd [j.fin, waitL r (triesN ts j.id)]), (triesN ts j.id) + 1, ⟨1, 0, j.user, j.width, limitL r j.limit (triesN ts j.id), j.prio, false, 0, 0⟩⟩ : Entry)) (m := m) (put := true) hk
    have hol2 := outE_len (W := W) (e := (⟨(satAdd [j.fin, waitL r (triesN ts j.id)]), (triesN ts j.id) + 1, ⟨1, 0, j.user, j.width, limitL r j.limit (triesN ts j.id), j.prio, false, 0, 0⟩⟩ : Entry)) (m := m) (put := false) hk
    obtain ⟨a5, c5, rfl⟩ := V5.isSl
    refine aw_seq ?_
    refine aw_seq_region ?_
    refine sr_x rfl (wtd_none rfl) rfl (Rd.x (x_move rfl)) ?_
    refine sr_x rfl (wtd_none rfl) rfl (Rd.x (x_move rfl)) ?_
    refine sr_x rfl (wtd_none rfl) rfl (Rd.x (x_nilCheck rfl)) ?_
    refine sr_x rfl (wtd_none rfl) rfl (Rd.x (x_fieldAddr fd111_1 rfl)) ?_
    refine sr_x rfl (wtd_none rfl) rfl (Rd.x (x_load ag104 rfl (cells_ext (by repeat (first | exact List.mem_cons_self | apply List.mem_cons_of_mem | apply List.mem_append_right)) (by repeat (first | exact Ext.all _ | exact Ext.done | apply Ext.take | apply Ext.skip))))) ?_
    refine sr_x rfl (wtd_none rfl) rfl (Rd.x (x_lenSlice Try.underlying104 rfl)) ?_
    refine sr_cmp rfl (wtd_none rfl) rfl (Rd.x (x_lt rfl rfl)) (fun h3 => ?_) (fun h3 => ?_)
    · refine sr_nil ?_
      refine aw_keep (keep_cons (t := 0) rfl (keep_cons (t := 4) rfl (keep_cons (t := 6) rfl (keep_cons (t := 7) rfl (keep_cons (t := 8) rfl (keep_cons (t := 9) rfl (keep_cons (t := 50) rfl (keep_cons (t := 51) rfl (keep_cons (t := 52) rfl (keep_cons (t := 53) rfl (keep_cons (t := 54) rfl (keep_cons (t := 55) rfl (keep_cons (t := 56) rfl keep_nil))))))))))))) ?_
      refine aw_true rfl ?_
      refine aw_skip ?_
      show AW _ _ _ _ _ _ _
      refine aw_seq ?_
      refine aw_block ?_
      refine aw_seq ?_
      refine aw_seq_dr ⟨_, 15, 98, [[], [0], [0, 1], [0, 1, 2], [0, 1, 2, 3], [0, 1, 2, 3, 4], [0, 1, 2, 3, 4, 5], [0, 1, 2], [0, 1, 2, 3, 4, 5, 6, 7], [0, 1, 2, 3, 4, 5, 6, 7, 8], [0, 1, 2, 3, 4, 5, 6, 7, 8, 9], [0, 1, 2], [0, 1, 2, 11], [0, 1, 2, 3, 4, 5, 6, 7, 8, 9, 10, 11, 12], [0, 1, 2, 3, 4, 5, 6, 7, 8, 9, 10, 11, 12, 13]], [.light, .light, .light, .light, .light, .light, .mem, .light, .light, .light, .mem, .light, .mem, .light, .light]⟩ (by kernel_rfl) rfl rfl mix ?_
      obtain ⟨x, hx⟩ := get_ex (show k < W.length by omega)
      obtain ⟨be, oe, hae, hce⟩ := hs.at_ k _ hx
      refine dr_light rfl rfl (wtd_none rfl) (x_move rfl) ?_
      refine dr_light rfl rfl (wtd_none rfl) (x_not rfl) ?_
      refine dr_light rfl rfl (wtd_none rfl) (x_move rfl) ?_
      refine dr_skip rfl (wtd_no rfl rfl rfl rfl) ?_
      refine dr_skip rfl (wtd_no rfl rfl rfl rfl) ?_
      refine dr_skip rfl (wtd_no rfl rfl rfl rfl) ?_
      refine dr_skip rfl (wtd_no rfl rfl rfl rfl) ?_
      refine dr_skip rfl (wtd_no rfl rfl rfl rfl) ?_
      refine dr_skip rfl (wtd_no rfl rfl rfl rfl) ?_
      refine dr_skip rfl (wtd_no rfl rfl rfl rfl) ?_
      refine dr_skip rfl (wtd_no rfl rfl rfl rfl) ?_
      refine dr_skip rfl (wtd_no rfl rfl rfl rfl) ?_
      refine dr_skip rfl (wtd_no rfl rfl rfl rfl) ?_
      refine dr_skip rfl (wtd_no rfl rfl rfl rfl) ?_
      refine dr_light rfl rfl (wtd_none rfl) (x_pick_f rfl rfl rfl) ?_
      refine dr_nil0 ?_
      refine aw_keep (keep_cons (t := 0) rfl (keep_cons (t := 4) rfl (keep_cons (t := 6) rfl (keep_cons (t := 7) rfl (keep_cons (t := 8) rfl (keep_cons (t := 9) rfl (keep_cons (t := 50) rfl (keep_cons (t := 51) rfl (keep_cons (t := 52) rfl (keep_cons (t := 53) rfl (keep_cons (t := 54) rfl (keep_cons (t := 55) rfl (keep_cons (t := 56) rfl (keep_cons (t := 59) rfl (keep_cons (t := 60) rfl (keep_cons (t := 61) rfl (keep_cons (t := 62) rfl (keep_cons (t := 63) rfl (keep_cons (t := 64) rfl (keep_cons (t := 65) rfl (keep_cons (t := 66) rfl (keep_cons (t := 67) rfl (keep_cons (t := 68) rfl (keep_cons (t := 69) rfl (keep_cons (t := 70) rfl (keep_cons (t := 71) rfl (keep_cons (t := 72) rfl (keep_cons (t := 73) rfl keep_nil)))))))))))))))))))))))))))) ?_
      refine aw_false rfl ?_
      refine aw_skip ?_
      show AW _ _ _ _ _ _ _
      refine aw_region ?_
      refine sr_x rfl (wtd_none rfl) rfl (Rd.x (x_move rfl)) ?_
      refine sr_x rfl (wtd_none rfl) rfl (Rd.x (x_move rfl)) ?_
      refine sr_x rfl (wtd_none rfl) rfl (Rd.x (x_nilCheck rfl)) ?_
      refine sr_x rfl (wtd_none rfl) rfl (Rd.x (x_fieldAddr fd111_1 rfl)) ?_
      refine sr_x rfl (wtd_none rfl) rfl (Rd.x (x_load ag104 rfl (cells_ext (by repeat (first | exact List.mem_cons_self | apply List.mem_cons_of_mem | apply List.mem_append_right)) (by repeat (first | exact Ext.all _ | exact Ext.done | apply Ext.take | apply Ext.skip))))) ?_
      refine sr_x rfl (wtd_none rfl) rfl (Rd.x (x_move rfl)) ?_
      refine sr_x rfl (wtd_none rfl) rfl (Rd.x (x_indexAddrN k Try.underlying104 sz113 rfl hae rfl (by omega) (by omega))) ?_
      refine sr_x rfl (wtd_none rfl) rfl (Rd.x (x_loadN ag113 sz113 rfl (Cells.mono hce (Sub.takeE0 (by repeat (first | exact TakeE.here | apply TakeE.there | apply TakeE.app)))) rfl)) ?_
      refine sr_new rfl (wtd_none rfl) rfl (x_buildSlice Try.underlying104 sz113 zr113 rfl rfl rfl rfl (by repeat (first | exact Parts.nil | (apply Parts.cons; rfl))) (by repeat (first | exact Fill.done | (apply Fill.part; rfl; rfl; rfl; focus (repeat (first | exact Spl.done | exact Spl.all rfl | apply Spl.put | apply Spl.skip)))))) ?_
      intro r13_8 hr13_8 gr13_8
      refine sr_d rfl (wtd_none rfl) rfl (opS_append (G := (r4_28, .cells (Entry.cells (⟨(satAdd [j.fin, waitL r (triesN ts j.id)]), (triesN ts j.id) + 1, ⟨1, 0, j.user, j.width, limitL r j.limit (triesN ts j.id), j.prio, false, 0, 0⟩⟩ : Entry)).toArray 113 (0, 0)) :: plain q r (.slice aw W.length cw) (.slice a2 (tdel j.id ts).length c2) :: (Ew ++ (E2 ++ G))) (N := x.cells) (m := 1) Try.underlying104 sz113 zr113 rfl by113 rfl rfl V5 (by repeat (first | exact Sub.refl _ | refine Sub.take (by repeat (first | exact Take.here | apply Take.there | apply Take.app)) ?_ | refine Sub.takeE (by repeat (first | exact TakeE.here | apply TakeE.there | apply TakeE.app)) ?_ | exact Sub.nil _ | apply Sub.drop | apply Sub.dropE)) (.inr ⟨_, _, rfl, (cells_ext (by repeat (first | exact List.mem_cons_self | apply List.mem_cons_of_mem | apply List.mem_append_right)) (by repeat (first | exact Ext.all _ | exact Ext.done | apply Ext.take | apply Ext.skip)))⟩) (rfl) rfl (by omega) (by omega)) ?_
      rintro v87 _ ⟨E87, hV87, rfl⟩
      obtain ⟨a87, cap87, rfl⟩ := hV87.isSl
      refine sr_x rfl (wtd_none rfl) rfl (Rd.x (x_assign rfl)) ?_
      refine sr_nil ?_
      show AW _ _ _ _ _ _ _
      refine aw_region ?_
      refine sr_x rfl (wtd_none rfl) rfl (Rd.x (x_move rfl)) ?_
      refine sr_x rfl (wtd_none rfl) rfl (Rd.x (x_add' rfl rfl (i64w (by omega) (by omega)))) ?_
      refine sr_x rfl (wtd_none rfl) rfl (Rd.x (x_assign rfl)) ?_
      refine sr_nil ?_
      show ∃ s', _ ∧ _ ∧ _ ∧ _
      first | exact ⟨⟨k + 1, true, k, _, _⟩, pin_now hsrt hx (hlt rfl) (by omega) hV87, by dsimp only; omega, (by repeat (first | exact keep_nil | refine keep_cons rfl ?_)), (by repeat (first | exact Sub.refl _ | refine Sub.take (by repeat (first | exact Take.here | apply Take.there | apply Take.app)) ?_ | refine Sub.takeE (by repeat (first | exact TakeE.here | apply TakeE.there | apply TakeE.app)) ?_ | exact Sub.nil _ | apply Sub.drop | apply Sub.dropE))⟩ | exact ⟨⟨k + 1, true, m, _, _⟩, pin_put hx (hpt rfl) hV87, by dsimp only; omega, (by repeat (first | exact keep_nil | refine keep_cons rfl ?_)), (by repeat (first | exact Sub.refl _ | refine Sub.take (by repeat (first | exact Take.here | apply Take.there | apply Take.app)) ?_ | refine Sub.takeE (by repeat (first | exact TakeE.here | apply TakeE.there | apply TakeE.app)) ?_ | exact Sub.nil _ | apply Sub.drop | apply Sub.dropE))⟩ | exact ⟨⟨k + 1, false, m, _, _⟩, pin_not hx (hlt rfl) (by omega) hV87, by dsimp only; omega, (by repeat (first | exact keep_nil | refine keep_cons rfl ?_)), (by repeat (first | exact Sub.refl _ | refine Sub.take (by repeat (first | exact Take.here | apply Take.there | apply Take.app)) ?_ | refine Sub.takeE (by repeat (first | exact TakeE.here | apply TakeE.there | apply TakeE.app)) ?_ | exact Sub.nil _ | apply Sub.drop | apply Sub.dropE))⟩
    · refine sr_nil ?_
      refine aw_keep (keep_cons (t := 0) rfl (keep_cons (t := 4) rfl (keep_cons (t := 6) rfl (keep_cons (t := 7) rfl (keep_cons (t := 8) rfl (keep_cons (t := 9) rfl (keep_cons (t := 50) rfl (keep_cons (t := 51) rfl (keep_cons (t := 52) rfl (keep_cons (t := 53) rfl (keep_cons (t := 54) rfl (keep_cons (t := 55) rfl (keep_cons (t := 56) rfl keep_nil))))))))))))) ?_
      refine aw_false rfl ?_
      refine aw_exit ?_
      show AW _ _ _ _ _ _ _
      refine aw_seq ?_
      refine aw_seq_region ?_
      refine sr_x rfl (wtd_none rfl) rfl (Rd.x (x_move rfl)) ?_
      refine sr_x rfl (wtd_none rfl) rfl (Rd.x (x_not rfl)) ?_
      refine sr_nil ?_
      refine aw_keep (keep_cons (t := 0) rfl (keep_cons (t := 4) rfl (keep_cons (t := 6) rfl (keep_cons (t := 7) rfl (keep_cons (t := 89) rfl keep_nil))))) ?_
      refine aw_false rfl ?_
      refine aw_skip ?_
      show AW _ _ _ _ _ _ _
      refine aw_seq_region ?_
      refine sr_x rfl (wtd_none rfl) rfl (Rd.x (x_move rfl)) ?_
      refine sr_x rfl (wtd_none rfl) rfl (Rd.x (x_move rfl)) ?_
      refine sr_x rfl (wtd_none rfl) rfl (Rd.x (x_nilCheck rfl)) ?_
      refine sr_x rfl (wtd_none rfl) rfl (Rd.x (x_fieldAddr fd111_1 rfl)) ?_
      refine sr_x0 rfl (wtd_none rfl) (x_store sz104 rfl rfl rfl rfl rfl (by repeat (first | exact Repl.here | apply Repl.there | apply Repl.app)) (by repeat (first | exact Spl.done | exact Spl.all rfl | apply Spl.put | apply Spl.skip))) ?_
      refine sr_nil ?_
      refine aw_keep (keep_cons (t := 4) rfl keep_nil) ?_
      refine aw_seq_region ?_
      refine sr_x rfl (wtd_none rfl) rfl (Rd.x (x_assign rfl)) ?_
      refine sr_nil ?_
      refine aw_keep (keep_cons (t := 4) rfl keep_nil) ?_
      refine aw_ret ?_
      show ∃ v H2, ResV _ _ _ _ _ _ v ∧ Sub H2 _ ∧ _
      first | exact ⟨_, plain q r (.slice a93 _ cap93) (.slice a2 (tdel j.id ts).length c2) :: (E93 ++ (E2 ++ G)), resV rfl (.cons rfl .nil), (by (repeat (first | exact Sub.refl _ | refine Sub.take (by repeat (first | exact Take.here | apply Take.there | apply Take.app)) ?_ | refine Sub.takeE (by repeat (first | exact TakeE.here | apply TakeE.there | apply TakeE.app)) ?_ | exact Sub.nil _ | apply Sub.drop | apply Sub.dropE)); first | done | fail), _, _, E93, _, E2, (pout_end hk (by omega) (hlt rfl) hV93).1, (pout_end hk (by omega) (hlt rfl) hV93).2, V2, rfl, rfl⟩ | exact ⟨_, plain q r (.slice a5 _ c5) (.slice a2 (tdel j.id ts).length c2) :: (E5 ++ (E2 ++ G)), resV rfl (.cons rfl .nil), (by (repeat (first | exact Sub.refl _ | refine Sub.take (by repeat (first | exact Take.here | apply Take.there | apply Take.app)) ?_ | refine Sub.takeE (by repeat (first | exact TakeE.here | apply TakeE.there | apply TakeE.app)) ?_ | exact Sub.nil _ | apply Sub.drop | apply Sub.dropE)); first | done | fail), m, _, E5, _, E2, (hpt rfl).2, pout_put hk (by omega) (hpt rfl).1 V5, V2, rfl, rfl⟩
end
end Go.Proofs.Yteilocpjikmmdaa
