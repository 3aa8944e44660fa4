/- Whatever jobs end, and are asked for again, a pool tells what the document's tells: the walk of the law. -/
import Derived.Test.YteilocpjikmmdaaRetPlain
import Derived.Test.YteilocpjikmmdaaRetEx
namespace Go.Proofs.Yteilocpjikmmdaa
open Go.Proofs.Yteilocpjikmmdaa.Sym
open Go.RowKit (Below)
set_option linter.unusedVariables false
set_option linter.unusedSimpArgs false
structure ROp where
  kind : Int
  j : Job
  t : Int
  id : Int
  e : Entry
@[reducible] def ROp.cells (j : ROp) : List Value := [.int .i64 j.kind, .int .i64 j.j.id, .int .i64 j.j.user, .int .i64 j.j.width, .int .i64 j.j.limit, .int .i64 j.j.prio, .int .i64 j.j.state, .int .i64 j.j.start, .int .i64 j.j.fin, .int .i64 j.j.plan, .int .u64 j.j.nodes, .int .i64 j.t, .int .i64 j.id, .int .i64 j.e.at_, .int .i64 j.e.tries, .int .i64 j.e.req.kind, .int .i64 j.e.req.id, .int .i64 j.e.req.user, .int .i64 j.e.req.width, .int .i64 j.e.req.limit, .int .i64 j.e.req.prio, .bool j.e.req.held, .int .i64 j.e.req.node, .int .i64 j.e.req.by_]
@[reducible] def ROp.v (j : ROp) : Value := .agg (ROp.cells j).toArray
def ROp.Wf (j : ROp) : Prop := (IntKind.min .i64 ≤ j.kind ∧ j.kind ≤ IntKind.max .i64) ∧ j.j.Wf ∧ (IntKind.min .i64 ≤ j.t ∧ j.t ≤ IntKind.max .i64) ∧ (IntKind.min .i64 ≤ j.id ∧ j.id ≤ IntKind.max .i64) ∧ j.e.Wf
structure RG where
  i : Nat
  W : List Entry
  ts : List Pair
  es : List MapEntry
  clk : Nat
  a : Option Addr
  cap : Nat
  E : SHeap
  aw : Option Addr
  cw : Nat
  Ew : SHeap
  at_ : Option Addr
  ct : Nat
  Et : SHeap
def Rel (es : List MapEntry) (ts : List Pair) : Prop := IntKeys .i64 es ∧ Once es ∧ ∀ id, (mget id es).getD (.int .i64 0) = .int .i64 (triesN ts id)
theorem Rel.nil : Rel [] [] := ⟨IntKeys.nil, Once.nil, fun _ => rfl⟩
theorem triesN_snoc (ts : List Pair) (x : Pair) (id : Int) : triesN (ts ++ [x]) id = if x.id = id then x.tries else triesN ts id := by
  unfold triesN; rw [List.foldl_append]; rfl
theorem triesN_fold (id i2 : Int) (n : Int) (ts : List Pair) : (ts.filter (tne id)).foldl (fun n p => if p.id = i2 then p.tries else n) n = if i2 = id then n else ts.foldl (fun n p => if p.id = i2 then p.tries else n) n := by
  induction ts generalizing n with
  | nil => simp
  | cons x ts ih =>
    by_cases h : x.id = id
    · rw [List.filter_cons_of_neg (by rw [tne_no h]; decide), ih, List.foldl_cons]
      by_cases h2 : i2 = id
      · rw [if_pos h2, if_pos h2]
      · rw [if_neg h2, if_neg h2, if_neg (fun e => h2 (e.symm.trans h))]
    · rw [List.filter_cons_of_pos (tne_yes h), List.foldl_cons, List.foldl_cons, ih]
      by_cases h2 : i2 = id
      · rw [if_pos h2, if_pos h2, if_neg (fun e => h (e.trans h2))]
      · rw [if_neg h2, if_neg h2]
theorem triesN_del (id i2 : Int) (ts : List Pair) : triesN (tdel id ts) i2 = if i2 = id then 0 else triesN ts i2 := triesN_fold id i2 0 ts
theorem Rel.del {es : List MapEntry} {ts : List Pair} (h : Rel es ts) (id : Int) : Rel (mdel id es) (tdel id ts) := by
  refine ⟨h.1.del, h.2.1.del, fun i2 => ?_⟩
  rw [mget_del h.2.1, triesN_del]
  by_cases h2 : i2 = id
  · rw [if_pos h2, if_pos h2]; rfl
  · rw [if_neg h2, if_neg h2]; exact h.2.2 i2
def tkE (id n : Int) (es : List MapEntry) (clk : Nat) : List MapEntry := if 0 < n then mset .i64 id (.int .i64 n) clk es else es
def tkC (id n : Int) (es : List MapEntry) (clk : Nat) : Nat := if 0 < n then mclk id es clk else clk
def tkT (id n : Int) (ts : List Pair) : List Pair := if 0 < n then tput id n ts else ts
theorem tkT_len {id n : Int} {ts : List Pair} : (tkT id n ts).length ≤ ts.length + 1 := by
  unfold tkT tput
  split
  · rw [List.length_append]
    have := tdel_len (id := id) (ts := ts)
    simp; omega
  · omega
theorem Rel.take {es : List MapEntry} {ts : List Pair} (h : Rel es ts) (id n : Int) (clk : Nat) : Rel (tkE id n es clk) (tkT id n ts) := by
  unfold tkE tkT
  split
  · refine ⟨h.1.set, h.2.1.set, fun i2 => ?_⟩
    unfold tput
    rw [mget_set, triesN_snoc, triesN_del]
    by_cases h2 : i2 = id
    · rw [if_pos h2, if_pos h2.symm]; rfl
    · rw [if_neg h2, if_neg (fun e => h2 e.symm), if_neg h2]; exact h.2.2 i2
  · exact h
theorem AtE.uniq {W : List Entry} {t : Int} {i k : Nat} (h : AtE W t i) (h2 : AtE W t k) : i = k := by
  rcases Nat.lt_trichotomy i k with hl | hl | hl
  · have hlt : i < W.length := Nat.lt_of_lt_of_le hl h2.1
    have a1 := h.2.2 i _ (Nat.le_refl _) (List.getElem?_eq_getElem hlt)
    have a2 := h2.2.1 i _ hl (List.getElem?_eq_getElem hlt)
    omega
  · exact hl
  · have hlt : k < W.length := Nat.lt_of_lt_of_le hl h.1
    have a1 := h2.2.2 k _ (Nat.le_refl _) (List.getElem?_eq_getElem hlt)
    have a2 := h.2.1 k _ hl (List.getElem?_eq_getElem hlt)
    omega
theorem srtE_ins {W : List Entry} {e : Entry} {i : Nat} (hs : SrtE W) (h : AtE W e.at_ i) : SrtE (insE W i e) := by
  unfold insE SrtE
  rw [List.pairwise_append, List.pairwise_cons]
  have hp : ∀ x ∈ W.take i, x.at_ ≤ e.at_ := fun x hx => by
    obtain ⟨k, hk⟩ := List.mem_iff_getElem?.1 hx
    have hki : k < i := by have := get_lt hk; rw [List.length_take] at this; omega
    rw [List.getElem?_take_of_lt hki] at hk
    exact h.2.1 k x hki hk
  have hq : ∀ x ∈ W.drop i, e.at_ < x.at_ := fun x hx => by
    obtain ⟨k, hk⟩ := List.mem_iff_getElem?.1 hx
    rw [List.getElem?_drop] at hk
    exact h.2.2 (i + k) x (Nat.le_add_right _ _) hk
  refine ⟨hs.take, ⟨fun x hx => Int.le_of_lt (hq x hx), hs.drop⟩, fun x hx y hy => ?_⟩
  rcases List.mem_cons.1 hy with rfl | hy
  · exact hp x hx
  · have := hp x hx; have := hq y hy; omega
theorem dueN_le : ∀ {W : List Entry} {t : Int}, dueN W t ≤ W.length
  | [], _ => Nat.le_refl _
  | e :: W, t => by unfold dueN; have := dueN_le (W := W) (t := t); split <;> simp <;> omega
theorem off_nil {W : List Entry} {cap n : Nat} {E : SHeap} (V : OffVec 11 113 (.slice none n cap) W.length (W.flatMap Entry.cells) E) : W = [] ∧ cap = 0 ∧ E = [] := by
  generalize hL : W.flatMap Entry.cells = L at V
  generalize hn : W.length = k at V
  cases V
  exact ⟨List.length_eq_zero_iff.1 hn, rfl, rfl⟩
theorem off_spot {W : List Entry} {b o n cap : Nat} {sp : Option Nat} {E : SHeap} (V : OffVec 11 113 (.slice (some ⟨b, o, sp⟩) n cap) W.length (W.flatMap Entry.cells) E) : sp = none := by
  generalize hL : W.flatMap Entry.cells = L at V
  generalize hn : W.length = k at V
  cases V
  rfl
theorem drop_flat {α : Type} {enc : α → List Value} {n : Nat} (hn : ∀ x, (enc x).length = n) : ∀ (xs : List α) (k : Nat), (xs.flatMap enc).drop (k * n) = (xs.drop k).flatMap enc
  | [], k => by simp
  | x :: xs, 0 => by simp
  | x :: xs, k + 1 => by
    have e : (k + 1) * n = (enc x).length + k * n := by rw [hn, Nat.succ_mul]; omega
    rw [List.flatMap_cons, e, List.drop_length_add_append, drop_flat hn xs k]; rfl
def RInv (xs : List ROp) (s : RG) : Prop := s.i ≤ xs.length ∧ s.i ≤ 60 ∧ s.W.length ≤ s.i ∧ s.ts.length ≤ s.i ∧ SrtE s.W ∧ Rel s.es s.ts ∧ OffVec 11 113 (.slice s.a s.W.length s.cap) s.W.length (s.W.flatMap Entry.cells) s.E ∧ OwnVec 11 113 (.slice s.aw s.W.length s.cw) s.W.length (s.W.flatMap Entry.cells) s.Ew ∧ OwnVec 2 184 (.slice s.at_ s.ts.length s.ct) s.ts.length (s.ts.flatMap Pair.cells) s.Et
theorem ag115 : aggOf Try.prog 115 = some true := by kernel_rfl
theorem cells113 : Try.prog.cellsOf 113 = 11 := by kernel_rfl
theorem cells115 : Try.prog.cellsOf 115 = 24 := by kernel_rfl
theorem cl66 : Callable Try.prog 66 := ⟨Try.f66, Try.func66, by kernel_rfl, by kernel_rfl⟩
theorem cl68 : Callable Try.prog 68 := ⟨Try.f68, Try.func68, by kernel_rfl, by kernel_rfl⟩
theorem cl70 : Callable Try.prog 70 := ⟨Try.f70, Try.func70, by kernel_rfl, by kernel_rfl⟩
theorem fd115_0 : fldOf Try.prog 115 0 = some (0, 3, 1) := by kernel_rfl
theorem fd115_1 : fldOf Try.prog 115 1 = some (1, 91, 10) := by kernel_rfl
theorem fd115_2 : fldOf Try.prog 115 2 = some (11, 2, 1) := by kernel_rfl
theorem fd115_3 : fldOf Try.prog 115 3 = some (12, 3, 1) := by kernel_rfl
theorem fd115_4 : fldOf Try.prog 115 4 = some (13, 113, 11) := by kernel_rfl
theorem fl111 : flds Try.prog 111 = some [(0, 5), (5, 1), (6, 1)] := by kernel_rfl
theorem kn113 : kindsOfN Try.prog 100 113 = some [.int, .int, .int, .int, .int, .int, .int, .int, .bool, .int, .int] := by kernel_rfl
theorem sz115 : szOf Try.prog 115 = some 24 := by kernel_rfl
theorem zr111 : zeroOf Try.prog 111 = some (.agg #[.int .i64 0, .bool false, .bool false, .int .i64 0, .int .i64 0, .slice none 0 0, .slice none 0 0]) := by kernel_rfl
theorem zr115 : zeroOf Try.prog 115 = some (.agg #[.int .i64 0, .int .i64 0, .int .i64 0, .int .i64 0, .int .i64 0, .int .i64 0, .int .i64 0, .int .i64 0, .int .i64 0, .int .i64 0, .int .u64 0, .int .i64 0, .int .i64 0, .int .i64 0, .int .i64 0, .int .i64 0, .int .i64 0, .int .i64 0, .int .i64 0, .int .i64 0, .int .i64 0, .bool false, .int .i64 0, .int .i64 0]) := by kernel_rfl
section
variable {W0 : World}
set_option maxRecDepth 100000 in
set_option maxHeartbeats 400000 in
theorem rdueNil_s (p : Nat) (r : Rule) (m : Nat) (G : SHeap) (t : Int) : AC Try.prog W0 65 [.pointer (some ⟨p, 0, none⟩), .int .i64 t] (pool p r (.slice none 0 0) m :: G) (fun v H' => ∃ E2 a2 cap2, OwnVec 11 113 (.slice a2 0 cap2) 0 [] E2 ∧ v = .slice a2 0 cap2 ∧ H' = E2 ++ (pool p r (.slice none 0 0) m :: G)) := by
  refine ac_of Try.func65 rfl rfl rfl ?_
  refine aw_seq_region ?_
  refine sr_x rfl (wtd_none rfl) rfl (Rd.x (x_assign rfl)) ?_
  refine sr_nil ?_
  refine aw_keep (keep_cons (t := 0) rfl (keep_cons (t := 1) rfl (keep_cons (t := 4) rfl keep_nil))) ?_
  refine aw_seq ?_
  refine aw_seq_region ?_
  refine sr_x rfl (wtd_none rfl) rfl (Rd.x (x_move rfl)) ?_
  refine sr_d rfl (wtd_none rfl) rfl (opS_call rfl rfl rfl rfl cl115 (rnone_s p r _ m _ (cells_ext (by repeat (first | exact List.mem_cons_self | apply List.mem_cons_of_mem | apply List.mem_append_right)) (by repeat (first | exact Ext.all _ | exact Ext.done | apply Ext.take | apply Ext.skip))))) ?_
  rintro _ H9 ⟨rfl, rfl⟩
  refine sr_nil ?_
  refine aw_keep (keep_cons (t := 0) rfl (keep_cons (t := 1) rfl (keep_cons (t := 4) rfl (keep_cons (t := 8) rfl keep_nil)))) ?_
  refine aw_false rfl ?_
  refine aw_skip ?_
  show AW _ _ _ _ _ _ _
  refine aw_seq_region ?_
  refine sr_x rfl (wtd_none rfl) rfl (Rd.x (x_assign rfl)) ?_
  refine sr_nil ?_
  refine aw_keep (keep_cons (t := 0) rfl (keep_cons (t := 1) rfl (keep_cons (t := 4) rfl (keep_cons (t := 5) rfl keep_nil)))) ?_
  refine aw_seq ?_
  refine aw_block ?_
  refine aw_loop (ι := Unit) (fun _ => True) (fun _ => [(0, .pointer (some ⟨p, 0, none⟩)), (1, .int .i64 t), (5, .int .i64 0)]) (fun _ => pool p r (.slice none 0 0) m :: G) (fun _ => 0) () (trivial) (by repeat (first | exact keep_nil | refine keep_cons rfl ?_)) (by repeat (first | exact Sub.refl _ | apply Sub.drop)) ?_
  intro _ _
  refine aw_seq ?_
  refine aw_seq_region ?_
  refine sr_x rfl (wtd_none rfl) rfl (Rd.x (x_move rfl)) ?_
  refine sr_x rfl (wtd_none rfl) rfl (Rd.x (x_move rfl)) ?_
  refine sr_x rfl (wtd_none rfl) rfl (Rd.x (x_nilCheck rfl)) ?_
  refine sr_x rfl (wtd_none rfl) rfl (Rd.x (x_fieldAddr fd107_1 rfl)) ?_
  refine sr_x rfl (wtd_none rfl) rfl (Rd.x (x_load ag104 rfl (cells_ext (by repeat (first | exact List.mem_cons_self | apply List.mem_cons_of_mem | apply List.mem_append_right)) (by repeat (first | exact Ext.all _ | exact Ext.done | apply Ext.take | apply Ext.skip))))) ?_
  refine sr_x rfl (wtd_none rfl) rfl (Rd.x (x_lenSlice Try.underlying104 rfl)) ?_
  refine sr_cmp rfl (wtd_none rfl) rfl (Rd.x (x_lt rfl rfl)) (fun h1 => absurd h1 (by first | omega | decide)) (fun h1 => ?_)
  refine sr_x rfl (wtd_none rfl) rfl (Rd.x (x_move rfl)) ?_
  refine sr_skip rfl (wtd_no rfl rfl rfl rfl) rfl ?_
  refine sr_skip rfl (wtd_no rfl rfl rfl rfl) rfl ?_
  refine sr_skip rfl (wtd_no rfl rfl rfl rfl) rfl ?_
  refine sr_skip rfl (wtd_no rfl rfl rfl rfl) rfl ?_
  refine sr_skip rfl (wtd_no rfl rfl rfl rfl) rfl ?_
  refine sr_skip rfl (wtd_no rfl rfl rfl rfl) rfl ?_
  refine sr_skip rfl (wtd_no rfl rfl rfl rfl) rfl ?_
  refine sr_skip rfl (wtd_no rfl rfl rfl rfl) rfl ?_
  refine sr_skip rfl (wtd_no rfl rfl rfl rfl) rfl ?_
  refine sr_skip rfl (wtd_no rfl rfl rfl rfl) rfl ?_
  refine sr_x rfl (wtd_none rfl) rfl (Rd.x (x_pick_f rfl rfl rfl)) ?_
  refine sr_nil ?_
  refine aw_keep (keep_cons (t := 0) rfl (keep_cons (t := 1) rfl (keep_cons (t := 5) rfl (keep_cons (t := 9) rfl (keep_cons (t := 10) rfl (keep_cons (t := 11) rfl (keep_cons (t := 12) rfl (keep_cons (t := 13) rfl (keep_cons (t := 14) rfl (keep_cons (t := 15) rfl (keep_cons (t := 16) rfl (keep_cons (t := 17) rfl (keep_cons (t := 18) rfl (keep_cons (t := 19) rfl (keep_cons (t := 20) rfl (keep_cons (t := 21) rfl (keep_cons (t := 22) rfl (keep_cons (t := 23) rfl (keep_cons (t := 24) rfl (keep_cons (t := 25) rfl (keep_cons (t := 26) rfl (keep_cons (t := 27) rfl keep_nil)))))))))))))))))))))) ?_
  refine aw_false rfl ?_
  refine aw_exit ?_
  show AW _ _ _ _ _ _ _
  refine aw_seq_region ?_
  refine sr_x rfl (wtd_none rfl) rfl (Rd.x (x_move rfl)) ?_
  refine sr_x rfl (wtd_none rfl) rfl (Rd.x (x_nilCheck rfl)) ?_
  refine sr_x rfl (wtd_none rfl) rfl (Rd.x (x_fieldAddr fd107_1 rfl)) ?_
  refine sr_x rfl (wtd_none rfl) rfl (Rd.x (x_load ag104 rfl (cells_ext (by repeat (first | exact List.mem_cons_self | apply List.mem_cons_of_mem | apply List.mem_append_right)) (by repeat (first | exact Ext.all _ | exact Ext.done | apply Ext.take | apply Ext.skip))))) ?_
  refine sr_x rfl (wtd_none rfl) rfl (Rd.x (x_move rfl)) ?_
  refine sr_x rfl (wtd_none rfl) rfl (Rd.x (x_sliceHiK 0 Try.underlying104 sz113 rfl rfl rfl (by omega))) ?_
  refine sr_d rfl (wtd_none rfl) rfl (opS_call rfl rfl rfl rfl cl116 (rclone_s none 0 [] _ slv_nil (by decide))) ?_
  rintro _ _ ⟨E2, ⟨a2, cap2, V2, rfl⟩, rfl⟩
  refine sr_x rfl (wtd_none rfl) rfl (Rd.x (x_assign rfl)) ?_
  refine sr_nil ?_
  refine aw_keep (keep_cons (t := 0) rfl (keep_cons (t := 5) rfl (keep_cons (t := 6) rfl keep_nil))) ?_
  refine aw_seq_region ?_
  refine sr_x rfl (wtd_none rfl) rfl (Rd.x (x_move rfl)) ?_
  refine sr_x rfl (wtd_none rfl) rfl (Rd.x (x_move rfl)) ?_
  refine sr_x rfl (wtd_none rfl) rfl (Rd.x (x_nilCheck rfl)) ?_
  refine sr_x rfl (wtd_none rfl) rfl (Rd.x (x_fieldAddr fd107_1 rfl)) ?_
  refine sr_x rfl (wtd_none rfl) rfl (Rd.x (x_load ag104 rfl (cells_ext (by repeat (first | exact List.mem_cons_self | apply List.mem_cons_of_mem | apply List.mem_append_right)) (by repeat (first | exact Ext.all _ | exact Ext.done | apply Ext.take | apply Ext.skip))))) ?_
  refine sr_x rfl (wtd_none rfl) rfl (Rd.x (x_move rfl)) ?_
  refine sr_x rfl (wtd_none rfl) rfl (Rd.x (x_sliceLo0 Try.underlying104 sz113 rfl rfl rfl)) ?_
  refine sr_x rfl (wtd_none rfl) rfl (Rd.x (x_nilCheck rfl)) ?_
  refine sr_x rfl (wtd_none rfl) rfl (Rd.x (x_fieldAddr fd107_1 rfl)) ?_
  refine sr_x0 rfl (wtd_none rfl) (x_store sz104 rfl rfl rfl rfl rfl (by repeat (first | exact Repl.here | apply Repl.there | apply Repl.app)) (by repeat (first | exact Spl.done | exact Spl.all rfl | apply Spl.put | apply Spl.skip))) ?_
  refine sr_nil ?_
  refine aw_keep (keep_cons (t := 6) rfl keep_nil) ?_
  refine aw_seq_region ?_
  refine sr_x rfl (wtd_none rfl) rfl (Rd.x (x_move rfl)) ?_
  refine sr_x rfl (wtd_none rfl) rfl (Rd.x (x_assign rfl)) ?_
  refine sr_nil ?_
  refine aw_keep (keep_cons (t := 4) rfl keep_nil) ?_
  refine aw_ret ?_
  show ∃ v H2, ResV _ _ _ _ _ _ v ∧ Sub H2 _ ∧ _
  exact ⟨_, _, resV rfl (.cons rfl .nil), Sub.refl _, E2, a2, cap2, V2, rfl, rfl⟩
theorem rdueP_s (p : Nat) (r : Rule) (a : Option Addr) (cap : Nat) (W : List Entry) (m : Nat) (E G : SHeap) (V : OffVec 11 113 (.slice a W.length cap) W.length (W.flatMap Entry.cells) E) (hn : W.length ≤ 1000) (t : Int) : AC Try.prog W0 65 [.pointer (some ⟨p, 0, none⟩), .int .i64 t] (pool p r (.slice a W.length cap) m :: (E ++ G)) (fun v H' => ∃ a2 c2 E2 a3 c3 E3, OwnVec 11 113 (.slice a2 (W.take (dueN W t)).length c2) (W.take (dueN W t)).length ((W.take (dueN W t)).flatMap Entry.cells) E2 ∧ OffVec 11 113 (.slice a3 (W.drop (dueN W t)).length c3) (W.drop (dueN W t)).length ((W.drop (dueN W t)).flatMap Entry.cells) E3 ∧ v = .slice a2 (W.take (dueN W t)).length c2 ∧ H' = E2 ++ (pool p r (.slice a3 (W.drop (dueN W t)).length c3) m :: (E3 ++ G))) := by
  have hle : dueN W t ≤ W.length := dueN_le
  have hl1 : (W.take (dueN W t)).length = dueN W t := by rw [List.length_take]; omega
  have hl2 : (W.drop (dueN W t)).length = W.length - dueN W t := List.length_drop
  rw [hl1, hl2]
  rcases a with _ | ⟨b, o, sp⟩
  · have h0 : W = [] ∧ cap = 0 ∧ E = [] := off_nil V
    obtain ⟨rfl, rfl, rfl⟩ := h0
    exact (rdueNil_s p r m G t).mono fun v H' h => by
      obtain ⟨E2, a2, c2, V2, rfl, rfl⟩ := h
      exact ⟨a2, c2, E2, none, 0, [], V2, .nil, rfl, rfl⟩
  · obtain rfl : sp = none := off_spot V
    exact (rdue_s p r b o cap W m (E ++ G) t (V.slv' (fun _ => rfl) rfl ⟨_, List.Perm.refl _⟩) (by omega)).mono fun v H' h => by
      obtain ⟨E2, a2, c2, V2, rfl, rfl⟩ := h
      have V3 := V.cut (k := dueN W t) hle
      rw [drop_flat (n := 11) (fun _ => rfl)] at V3
      exact ⟨a2, c2, E2, _, _, E, V2, V3, rfl, rfl⟩
theorem rtakenP_s (p : Nat) (r : Rule) (sl : Value) (m : Nat) (es : List MapEntry) (clk : Nat) (G : SHeap) (hk : IntKeys .i64 es) (id : Int) (e : Entry) : AC Try.prog W0 67 [.pointer (some ⟨p, 0, none⟩), .int .i64 id, e.v] (pool p r sl m :: rmap m es clk :: G) (fun v H' => v = .tuple #[] ∧ H' = pool p r sl m :: rmap m (tkE id e.tries es clk) (tkC id e.tries es clk) :: G) := by
  unfold tkE tkC
  split
  · next h => exact rtaken_s p r sl m es clk G hk id e h
  · next h => exact rtaken0_s p r sl m es clk G hk id e h
theorem ptakenP_s (q : Nat) (r : Rule) (wsl : Value) (a : Option Addr) (cap : Nat) (ts : List Pair) (E G : SHeap) (V : OwnVec 2 184 (.slice a ts.length cap) ts.length (ts.flatMap Pair.cells) E) (hn : ts.length ≤ 1000) (id : Int) (e : Entry) : AC Try.prog W0 68 [.pointer (some ⟨q, 0, none⟩), .int .i64 id, e.v] (plain q r wsl (.slice a ts.length cap) :: (E ++ G)) (fun v H' => ∃ a' c' E', OwnVec 2 184 (.slice a' (tkT id e.tries ts).length c') (tkT id e.tries ts).length ((tkT id e.tries ts).flatMap Pair.cells) E' ∧ v = .tuple #[] ∧ H' = plain q r wsl (.slice a' (tkT id e.tries ts).length c') :: (E' ++ G)) := by
  unfold tkT
  split
  · next h =>
    refine (ptaken_s q r wsl a cap ts E G V hn id e h).mono fun v H' k => ?_
    obtain ⟨sl, E', V', h1, h2⟩ := k
    obtain ⟨a', c', rfl⟩ := V'.isSl
    exact ⟨a', c', E', V', h1, h2⟩
  · next h => exact (ptaken0_s q r wsl (.slice a ts.length cap) (E ++ G) id e h).mono fun v H' k => ⟨a, cap, E, V, k.1, k.2⟩
theorem rendedP_s (p : Nat) (r : Rule) (m : Nat) (es : List MapEntry) (clk : Nat) (hk : IntKeys .i64 es) (j : Job) (n : Int) (hn : (mget j.id es).getD (.int .i64 0) = .int .i64 n) (a : Option Addr) (cap : Nat) (W : List Entry) (E G : SHeap) (V : OffVec 11 113 (.slice a W.length cap) W.length (W.flatMap Entry.cells) E) (hW : W.length ≤ 1000) (hsrt : SrtE W) : AC Try.prog W0 69 [.pointer (some ⟨p, 0, none⟩), j.v] (pool p r (.slice a W.length cap) m :: rmap m es clk :: (E ++ G)) (fun v H' => (AgainP r j n ∧ ∃ i a1 c1 E1, AtE W (satAdd [j.fin, waitL r n]) i ∧ OffVec 11 113 (.slice a1 (insE W i (⟨(satAdd [j.fin, waitL r n]), n + 1, ⟨1, 0, j.user, j.width, limitL r j.limit n, j.prio, false, 0, 0⟩⟩ : Entry)).length c1) (insE W i (⟨(satAdd [j.fin, waitL r n]), n + 1, ⟨1, 0, j.user, j.width, limitL r j.limit n, j.prio, false, 0, 0⟩⟩ : Entry)).length ((insE W i (⟨(satAdd [j.fin, waitL r n]), n + 1, ⟨1, 0, j.user, j.width, limitL r j.limit n, j.prio, false, 0, 0⟩⟩ : Entry)).flatMap Entry.cells) E1 ∧ v = .bool true ∧ H' = pool p r (.slice a1 (insE W i (⟨(satAdd [j.fin, waitL r n]), n + 1, ⟨1, 0, j.user, j.width, limitL r j.limit n, j.prio, false, 0, 0⟩⟩ : Entry)).length c1) m :: rmap m (mdel j.id es) clk :: (E1 ++ G)) ∨ (¬ AgainP r j n ∧ v = .bool false ∧ H' = pool p r (.slice a W.length cap) m :: rmap m (mdel j.id es) clk :: (E ++ G))) := by
  by_cases h : AgainP r j n
  · exact (rendedOkO_s p r m es clk hk j n hn a cap W E G V h (by have := h.1.1; have := h.2.1; omega) hW hsrt).mono fun v H' q => by
      obtain ⟨i, a1, c1, E1, h1, h2, h3, h4⟩ := q
      rw [← insE_len h1.1] at h2 h4
      exact .inl ⟨h, i, a1, c1, E1, h1, h2, h3, h4⟩
  · exact (rendedNo_s p r m es clk hk j n hn (.slice a W.length cap) (E ++ G) h).mono fun v H' q => .inr ⟨h, q⟩
set_option maxRecDepth 100000 in
set_option maxHeartbeats 400000 in
theorem retryPlays_bad (r : Rule) (sa : Option Addr) (scap : Nat) (xs : List ROp) (hs : ∀ G, SlV W0 G 24 ROp.cells sa scap xs) (hr : ¬ RRight r) : AC Try.prog W0 11 [r.v, .slice sa xs.length scap] [] (fun v _ => v = .bool true) := by
  refine ac_of Try.func11 rfl rfl rfl ?_
  refine aw_seq_region ?_
  refine sr_new rfl (wtd_none rfl) rfl (x_box rfl rfl) ?_
  intro r0_0 hr0_0 gr0_0
  refine sr_x rfl (wtd_none rfl) rfl (Rd.x (x_assign rfl)) ?_
  refine sr_nil ?_
  refine aw_keep (keep_cons (t := 1) rfl (keep_cons (t := 2) rfl (keep_cons (t := 4) rfl keep_nil))) ?_
  refine aw_seq_region ?_
  refine sr_x rfl (wtd_none rfl) rfl (Rd.x (x_loadN ag89 sz89 rfl (cells_ext (by repeat (first | exact List.mem_cons_self | apply List.mem_cons_of_mem | apply List.mem_append_right)) (by repeat (first | exact Ext.all _ | exact Ext.done | apply Ext.take | apply Ext.skip))) rfl)) ?_
  refine sr_d rfl (wtd_none rfl) rfl (opS_call rfl rfl rfl rfl cl64 (rnewBad_s r _ hr)) ?_
  rintro _ H ⟨rfl, rfl⟩
  refine sr_x rfl (wtd_none rfl) rfl (Rd.x (x_move rfl)) ?_
  refine sr_x rfl (wtd_none rfl) rfl (Rd.x (x_extract rfl rfl)) ?_
  refine sr_x rfl (wtd_none rfl) rfl (Rd.x (x_extract rfl rfl)) ?_
  refine sr_x rfl (wtd_none rfl) rfl (Rd.x (x_assign rfl)) ?_
  refine sr_x rfl (wtd_none rfl) rfl (Rd.x (x_assign rfl)) ?_
  refine sr_nil ?_
  refine aw_keep (keep_cons (t := 1) rfl (keep_cons (t := 2) rfl (keep_cons (t := 4) rfl (keep_cons (t := 5) rfl (keep_cons (t := 6) rfl keep_nil))))) ?_
  refine aw_seq ?_
  refine aw_seq_region ?_
  refine sr_x rfl (wtd_none rfl) rfl (Rd.x (x_loadN ag89 sz89 rfl (cells_ext (by repeat (first | exact List.mem_cons_self | apply List.mem_cons_of_mem | apply List.mem_append_right)) (by repeat (first | exact Ext.all _ | exact Ext.done | apply Ext.take | apply Ext.skip))) rfl)) ?_
  refine sr_d rfl (wtd_none rfl) rfl (opS_call rfl rfl rfl rfl cl55 (rright55_s r _)) ?_
  rintro _ H ⟨rfl, rfl⟩
  rw [decide_eq_false hr]
  refine sr_x rfl (wtd_none rfl) rfl (Rd.x (x_not rfl)) ?_
  refine sr_nil ?_
  refine aw_keep (keep_cons (t := 1) rfl (keep_cons (t := 2) rfl (keep_cons (t := 4) rfl (keep_cons (t := 5) rfl (keep_cons (t := 6) rfl (keep_cons (t := 21) rfl keep_nil)))))) ?_
  refine aw_true rfl ?_
  refine aw_seq_region ?_
  refine sr_x rfl (wtd_none rfl) rfl (Rd.x (x_move rfl)) ?_
  refine sr_x rfl (wtd_none rfl) rfl (Rd.x (x_eqnil Try.underlying101 rfl rfl)) ?_
  refine sr_x rfl (wtd_none rfl) rfl (Rd.x (x_move rfl)) ?_
  refine sr_x rfl (wtd_yes rfl rfl rfl) rfl (Rd.x (x_move rfl)) ?_
  refine sr_cmp rfl (wtd_yes rfl rfl rfl) rfl (Rd.x (x_eq rfl rfl)) (fun h1 => ?_) (fun h1 => absurd (by first | omega | decide) h1)
  refine sr_x rfl (wtd_none rfl) rfl (Rd.x (x_pick_t rfl rfl rfl)) ?_
  refine sr_x rfl (wtd_none rfl) rfl (Rd.x (x_move rfl)) ?_
  refine sr_d rfl (wtd_yes rfl rfl rfl) rfl (opS_call rfl rfl rfl rfl cl58 (awake46_s _)) ?_
  rintro _ H ⟨rfl, rfl⟩
  refine sr_x rfl (wtd_none rfl) rfl (Rd.x (x_pick_t rfl rfl rfl)) ?_
  refine sr_x rfl (wtd_none rfl) rfl (Rd.x (x_assign rfl)) ?_
  refine sr_nil ?_
  refine aw_keep (keep_cons (t := 1) rfl (keep_cons (t := 2) rfl (keep_cons (t := 4) rfl (keep_cons (t := 5) rfl (keep_cons (t := 6) rfl keep_nil))))) ?_
  refine aw_ret ?_
  show ∃ v H2, ResV _ _ _ _ _ _ v ∧ Sub H2 _ ∧ _
  exact ⟨_, [], resV rfl (.cons rfl .nil), (Sub.nil _), rfl⟩
set_option maxRecDepth 100000 in
set_option maxHeartbeats 8000000 in
theorem retryPlays_ok (r : Rule) (sa : Option Addr) (scap : Nat) (xs : List ROp) (hs : ∀ G, SlV W0 G 24 ROp.cells sa scap xs) (hr : RRight r) : AC Try.prog W0 11 [r.v, .slice sa xs.length scap] [] (fun v _ => v = .bool true) := by
  have hle := (hs []).le
  have hcb := (hs []).capb
  refine ac_of Try.func11 rfl rfl rfl ?_
  refine aw_seq_region ?_
  refine sr_new rfl (wtd_none rfl) rfl (x_box rfl rfl) ?_
  intro r0_0 hr0_0 gr0_0
  refine sr_x rfl (wtd_none rfl) rfl (Rd.x (x_assign rfl)) ?_
  refine sr_nil ?_
  refine aw_keep (keep_cons (t := 1) rfl (keep_cons (t := 2) rfl (keep_cons (t := 4) rfl keep_nil))) ?_
  refine aw_seq_region ?_
  refine sr_x rfl (wtd_none rfl) rfl (Rd.x (x_loadN ag89 sz89 rfl (cells_ext (by repeat (first | exact List.mem_cons_self | apply List.mem_cons_of_mem | apply List.mem_append_right)) (by repeat (first | exact Ext.all _ | exact Ext.done | apply Ext.take | apply Ext.skip))) rfl)) ?_
  refine sr_d rfl (wtd_none rfl) rfl (opS_call rfl rfl rfl rfl cl64 (rnew_s r _ hr)) ?_
  rintro _ _ ⟨p, m, rfl, rfl⟩
  refine sr_x rfl (wtd_none rfl) rfl (Rd.x (x_move rfl)) ?_
  refine sr_x rfl (wtd_none rfl) rfl (Rd.x (x_extract rfl rfl)) ?_
  refine sr_x rfl (wtd_none rfl) rfl (Rd.x (x_extract rfl rfl)) ?_
  refine sr_x rfl (wtd_none rfl) rfl (Rd.x (x_assign rfl)) ?_
  refine sr_x rfl (wtd_none rfl) rfl (Rd.x (x_assign rfl)) ?_
  refine sr_nil ?_
  refine aw_keep (keep_cons (t := 1) rfl (keep_cons (t := 2) rfl (keep_cons (t := 4) rfl (keep_cons (t := 5) rfl (keep_cons (t := 6) rfl keep_nil))))) ?_
  refine aw_seq ?_
  refine aw_seq_region ?_
  refine sr_x rfl (wtd_none rfl) rfl (Rd.x (x_loadN ag89 sz89 rfl (cells_ext (by repeat (first | exact List.mem_cons_self | apply List.mem_cons_of_mem | apply List.mem_append_right)) (by repeat (first | exact Ext.all _ | exact Ext.done | apply Ext.take | apply Ext.skip))) rfl)) ?_
  refine sr_d rfl (wtd_none rfl) rfl (opS_call rfl rfl rfl rfl cl55 (rright55_s r _)) ?_
  rintro _ H ⟨rfl, rfl⟩
  rw [decide_eq_true hr]
  refine sr_x rfl (wtd_none rfl) rfl (Rd.x (x_not rfl)) ?_
  refine sr_nil ?_
  refine aw_keep (keep_cons (t := 1) rfl (keep_cons (t := 2) rfl (keep_cons (t := 4) rfl (keep_cons (t := 5) rfl (keep_cons (t := 6) rfl (keep_cons (t := 21) rfl keep_nil)))))) ?_
  refine aw_false rfl ?_
  refine aw_skip ?_
  show AW _ _ _ _ _ _ _
  refine aw_seq ?_
  refine aw_seq_dr ⟨_, 16, 164, [[], [0], [0, 1], [0, 1, 2], [0, 1, 2, 3], [0, 1, 2, 3, 4], [0, 1, 2, 3, 4, 5], [0, 1, 2, 3, 4, 5, 6], [0, 1, 2, 3, 4, 5, 6, 7], [0, 1, 2, 3, 4, 5, 6, 7, 8], [0, 1, 2, 3, 4, 5, 6, 7, 8, 9], [0, 1, 2, 3, 4, 5, 6, 7, 8, 9, 10], [0, 1, 2, 3, 4, 5, 6], [0, 1, 2, 3, 4, 5, 6, 12], [0, 1, 2, 3, 4, 5, 6, 7, 8, 9, 10, 11, 12, 13], [0, 1, 2, 3, 4, 5, 6, 7, 8, 9, 10, 11, 12, 13, 14]], [.light, .light, .light, .light, .light, .light, .light, .light, .light, .light, .light, .mem, .light, .mem, .light, .light]⟩ (by kernel_rfl) rfl rfl mix ?_
  refine dr_light rfl rfl (wtd_none rfl) (x_move rfl) ?_
  refine dr_light rfl rfl (wtd_none rfl) (x_eqnil Try.underlying101 rfl rfl) ?_
  refine dr_light rfl rfl (wtd_none rfl) (x_move rfl) ?_
  refine dr_light rfl rfl (wtd_yes rfl rfl rfl) (x_move rfl) ?_
  refine dr_cmp rfl rfl (wtd_yes rfl rfl rfl) (x_ne rfl rfl) (fun h1 => absurd h1 (by first | omega | decide)) (fun h1 => ?_)
  refine dr_light rfl rfl (wtd_none rfl) (x_pick_f rfl rfl rfl) ?_
  refine dr_light rfl rfl (wtd_none rfl) (x_move rfl) ?_
  refine dr_light rfl rfl (wtd_yes rfl rfl rfl) (x_move rfl) ?_
  refine dr_light rfl rfl (wtd_yes rfl rfl rfl) (x_nilCheck rfl) ?_
  refine dr_light rfl rfl (wtd_yes rfl rfl rfl) (x_fieldAddr fd107_0 rfl) ?_
  refine dr_light rfl rfl (wtd_yes rfl rfl rfl) (x_fieldAddr fd89_0 rfl) ?_
  refine dr_mem0 rfl rfl (wtd_yes rfl rfl rfl) (x_load ag3 rfl (cells_ext (by repeat (first | exact List.mem_cons_self | apply List.mem_cons_of_mem | apply List.mem_append_right)) (by repeat (first | exact Ext.all _ | exact Ext.done | apply Ext.take | apply Ext.skip)))) ?_
  refine dr_light rfl rfl (wtd_yes rfl rfl rfl) (x_fieldAddr fd89_0 rfl) ?_
  refine dr_mem0 rfl rfl (wtd_yes rfl rfl rfl) (x_load ag3 rfl (cells_ext (by repeat (first | exact List.mem_cons_self | apply List.mem_cons_of_mem | apply List.mem_append_right)) (by repeat (first | exact Ext.all _ | exact Ext.done | apply Ext.take | apply Ext.skip)))) ?_
  refine dr_cmp rfl rfl (wtd_yes rfl rfl rfl) (x_ne rfl rfl) (fun h2 => absurd h2 (by first | omega | decide)) (fun h2 => ?_)
  refine dr_light rfl rfl (wtd_none rfl) (x_pick_f rfl rfl rfl) ?_
  refine dr_nil0 ?_
  refine aw_keep (keep_cons (t := 1) rfl (keep_cons (t := 2) rfl (keep_cons (t := 4) rfl (keep_cons (t := 5) rfl (keep_cons (t := 46) rfl keep_nil))))) ?_
  refine aw_false rfl ?_
  refine aw_skip ?_
  show AW _ _ _ _ _ _ _
  refine aw_seq_region ?_
  refine sr_x rfl (wtd_none rfl) rfl (Rd.x (x_loadN ag89 sz89 rfl (cells_ext (by repeat (first | exact List.mem_cons_self | apply List.mem_cons_of_mem | apply List.mem_append_right)) (by repeat (first | exact Ext.all _ | exact Ext.done | apply Ext.take | apply Ext.skip))) rfl)) ?_
  refine sr_x rfl (wtd_none rfl) rfl (Rd.x (x_build zr111 rfl fl111 (by repeat (first | exact Parts.nil | (apply Parts.cons; rfl))) (by repeat (first | exact Fill.done | (apply Fill.part; rfl; rfl; rfl; focus (repeat (first | exact Spl.done | exact Spl.all rfl | apply Spl.put | apply Spl.skip))))))) ?_
  refine sr_new rfl (wtd_none rfl) rfl (x_box rfl rfl) ?_
  intro r6_2 hr6_2 gr6_2
  refine sr_x rfl (wtd_none rfl) rfl (Rd.x (x_assign rfl)) ?_
  refine sr_nil ?_
  refine aw_keep (keep_cons (t := 1) rfl (keep_cons (t := 4) rfl (keep_cons (t := 5) rfl (keep_cons (t := 7) rfl keep_nil)))) ?_
  refine aw_seq ?_
  refine aw_seq_region ?_
  refine sr_x rfl (wtd_none rfl) rfl (Rd.x (x_assign rfl)) ?_
  refine sr_nil ?_
  refine aw_keep (keep_cons (t := 1) rfl (keep_cons (t := 4) rfl (keep_cons (t := 5) rfl (keep_cons (t := 7) rfl (keep_cons (t := 8) rfl keep_nil))))) ?_
  refine aw_block ?_
  refine aw_loop (ι := RG) (fun s => RInv xs s) (fun s => [(1, .slice sa xs.length scap), (4, .bool false), (5, .pointer (some ⟨p, 0, none⟩)), (7, .pointer (some ⟨r6_2, 0, none⟩)), (8, .int .i64 s.i)]) (fun s => pool p r (.slice s.a s.W.length s.cap) m :: rmap m s.es s.clk :: (s.E ++ (plain r6_2 r (.slice s.aw s.W.length s.cw) (.slice s.at_ s.ts.length s.ct) :: (s.Ew ++ (s.Et ++ []))))) (fun s => xs.length - s.i) ⟨0, [], [], [], 0, none, 0, [], none, 0, [], none, 0, []⟩ (⟨Nat.zero_le _, Nat.zero_le _, Nat.le_refl _, Nat.le_refl _, List.Pairwise.nil, Rel.nil, .nil, .nil, .nil⟩) (by repeat (first | exact keep_nil | refine keep_cons rfl ?_)) (by repeat (first | exact Sub.refl _ | refine Sub.take (by repeat (first | exact Take.here | apply Take.there | apply Take.app)) ?_ | refine Sub.takeE (by repeat (first | exact TakeE.here | apply TakeE.there | apply TakeE.app)) ?_ | exact Sub.nil _ | apply Sub.drop | apply Sub.dropE)) ?_
  intro s hs9
  obtain ⟨i, W, ts, es, clk, a, cap, E, aw, cw, Ew, at_, ct, Et⟩ := s
  unfold RInv at hs9
  dsimp only at hs9 ⊢
  obtain ⟨hi1, hi2, hWl, htl, hsrt, hrel, V, VW, VT⟩ := hs9
  generalize r6_2 = q
  refine aw_seq ?_
  refine aw_seq_region ?_
  refine sr_x rfl (wtd_none rfl) rfl (Rd.x (x_move rfl)) ?_
  refine sr_x rfl (wtd_none rfl) rfl (Rd.x (x_move rfl)) ?_
  refine sr_x rfl (wtd_none rfl) rfl (Rd.x (x_lenSlice Try.underlying100 rfl)) ?_
  refine sr_cmp rfl (wtd_none rfl) rfl (Rd.x (x_lt rfl rfl)) (fun h3 => ?_) (fun h3 => ?_)
  · refine sr_x rfl (wtd_none rfl) rfl (Rd.x (x_move rfl)) ?_
    refine sr_x rfl (wtd_yes rfl rfl rfl) rfl (Rd.x (x_move rfl)) ?_
    refine sr_cmp rfl (wtd_yes rfl rfl rfl) rfl (Rd.x (x_lt rfl rfl)) (fun h4 => ?_) (fun h4 => ?_)
    · refine sr_x rfl (wtd_none rfl) rfl (Rd.x (x_pick_t rfl rfl rfl)) ?_
      refine sr_nil ?_
      refine aw_keep (keep_cons (t := 1) rfl (keep_cons (t := 4) rfl (keep_cons (t := 5) rfl (keep_cons (t := 7) rfl (keep_cons (t := 8) rfl (keep_cons (t := 50) rfl (keep_cons (t := 51) rfl (keep_cons (t := 52) rfl (keep_cons (t := 53) rfl (keep_cons (t := 54) rfl (keep_cons (t := 55) rfl (keep_cons (t := 56) rfl (keep_cons (t := 57) rfl keep_nil))))))))))))) ?_
      refine aw_true rfl ?_
      refine aw_skip ?_
      show AW _ _ _ _ _ _ _
      refine aw_seq ?_
      refine aw_block ?_
      refine aw_seq_region ?_
      obtain ⟨o, ho⟩ := get_ex (show i < xs.length by omega)
      obtain ⟨bs, os, has, hcs⟩ := (hs []).at_ i _ ho
      refine sr_x rfl (wtd_none rfl) rfl (Rd.x (x_move rfl)) ?_
      refine sr_x rfl (wtd_none rfl) rfl (Rd.x (x_move rfl)) ?_
      refine sr_x rfl (wtd_none rfl) rfl (Rd.x (x_indexAddrN i Try.underlying100 sz115 rfl has rfl (by omega) (by omega))) ?_
      refine sr_x rfl (wtd_none rfl) rfl (Rd.x (x_loadN ag115 sz115 rfl (Cells.mono hcs (Sub.nil _)) rfl)) ?_
      refine sr_new rfl (wtd_none rfl) rfl (x_alloc zr115 rfl) ?_
      intro r10_4 hr10_4 gr10_4
      refine sr_x0 rfl (wtd_none rfl) (x_store sz115 rfl rfl rfl rfl rfl (by repeat (first | exact Repl.here | apply Repl.there | apply Repl.app)) (by repeat (first | exact Spl.done | exact Spl.all rfl | apply Spl.put | apply Spl.skip))) ?_
      refine sr_nil ?_
      refine aw_keep (keep_cons (t := 1) rfl (keep_cons (t := 4) rfl (keep_cons (t := 5) rfl (keep_cons (t := 7) rfl (keep_cons (t := 8) rfl (keep_cons (t := 9) rfl (keep_cons (t := 50) rfl (keep_cons (t := 51) rfl (keep_cons (t := 52) rfl (keep_cons (t := 53) rfl (keep_cons (t := 54) rfl (keep_cons (t := 55) rfl (keep_cons (t := 56) rfl (keep_cons (t := 57) rfl (keep_cons (t := 60) rfl (keep_cons (t := 61) rfl (keep_cons (t := 62) rfl (keep_cons (t := 63) rfl keep_nil)))))))))))))))))) ?_
      refine aw_seq ?_
      refine aw_seq_region ?_
      refine sr_x rfl (wtd_none rfl) rfl (Rd.x (x_fieldAddr fd115_0 rfl)) ?_
      refine sr_x rfl (wtd_none rfl) rfl (Rd.x (x_load ag3 rfl (cells_ext (by repeat (first | exact List.mem_cons_self | apply List.mem_cons_of_mem | apply List.mem_append_right)) (by repeat (first | exact Ext.all _ | exact Ext.done | apply Ext.take | apply Ext.skip))))) ?_
      refine sr_nil ?_
      refine aw_keep (keep_cons (t := 1) rfl (keep_cons (t := 4) rfl (keep_cons (t := 5) rfl (keep_cons (t := 7) rfl (keep_cons (t := 8) rfl (keep_cons (t := 9) rfl (keep_cons (t := 50) rfl (keep_cons (t := 51) rfl (keep_cons (t := 52) rfl (keep_cons (t := 53) rfl (keep_cons (t := 54) rfl (keep_cons (t := 55) rfl (keep_cons (t := 56) rfl (keep_cons (t := 57) rfl (keep_cons (t := 60) rfl (keep_cons (t := 61) rfl (keep_cons (t := 62) rfl (keep_cons (t := 63) rfl (keep_cons (t := 64) rfl (keep_cons (t := 65) rfl keep_nil)))))))))))))))))))) ?_
      refine aw_block ?_
      refine aw_seq_region ?_
      refine sr_cmp rfl (wtd_none rfl) rfl (Rd.x (x_eq rfl rfl)) (fun h5 => ?_) (fun h5 => ?_)
      · refine sr_x rfl (wtd_none rfl) rfl (Rd.x (x_assign rfl)) ?_
        refine sr_nil ?_
        refine aw_keep (keep_cons (t := 1) rfl (keep_cons (t := 4) rfl (keep_cons (t := 5) rfl (keep_cons (t := 7) rfl (keep_cons (t := 8) rfl (keep_cons (t := 9) rfl (keep_cons (t := 50) rfl (keep_cons (t := 51) rfl (keep_cons (t := 52) rfl (keep_cons (t := 53) rfl (keep_cons (t := 54) rfl (keep_cons (t := 55) rfl (keep_cons (t := 56) rfl (keep_cons (t := 57) rfl (keep_cons (t := 60) rfl (keep_cons (t := 61) rfl (keep_cons (t := 62) rfl (keep_cons (t := 63) rfl (keep_cons (t := 64) rfl (keep_cons (t := 65) rfl (keep_cons (t := 75) rfl (keep_cons (t := 76) rfl keep_nil)))))))))))))))))))))) ?_
        refine aw_true rfl ?_
        refine aw_seq_drX (G := pool p r (.slice a W.length cap) m :: rmap m es clk :: (E ++ (plain q r (.slice aw W.length cw) (.slice at_ ts.length ct) :: (Ew ++ (Et ++ []))))) (X := [(r10_4, .cells (ROp.cells o).toArray 115 (0, 0))]) ⟨_, 10, 164, [[], [], [1], [0, 1, 2], [], [], [5], [0, 1, 2, 3, 4, 5, 6], [0, 1, 2, 3, 4, 5, 6, 7], [0, 1, 2, 3, 4, 5, 6, 7, 8]], [.light, .light, .light, .eff, .light, .light, .light, .eff, .light, .light]⟩ (by kernel_rfl) rfl rfl mix (Sub.of_perm List.perm_append_comm) ?_
        refine dr_light rfl rfl (wtd_none rfl) (x_move rfl) ?_
        refine dr_light rfl rfl (wtd_none rfl) (x_fieldAddr fd115_2 rfl) ?_
        refine dr_fix rfl rfl (wtd_none rfl) (x_load ag2 rfl (cells_ext (by repeat (first | exact List.mem_cons_self | apply List.mem_cons_of_mem | apply List.mem_append_right)) (by repeat (first | exact Ext.all _ | exact Ext.done | apply Ext.take | apply Ext.skip)))) ?_
        refine dr_effC rfl (V := []) rfl (L' := []) (clear_all rfl) rfl (wtd_none rfl) rfl rfl rfl rfl cl65 (AC.sub (by repeat (first | exact Sub.refl _ | refine Sub.take (by repeat (first | exact Take.here | apply Take.there | apply Take.app)) ?_ | refine Sub.takeE (by repeat (first | exact TakeE.here | apply TakeE.there | apply TakeE.app)) ?_ | exact Sub.nil _ | apply Sub.drop | apply Sub.dropE)) (rdueP_s p r a cap W m E (rmap m es clk :: plain q r (.slice aw W.length cw) (.slice at_ ts.length ct) :: (Ew ++ (Et ++ []))) V (by omega) o.t)) ?_
        rintro _ _ ⟨a2, c2, E2, a3, c3, E3, V2, V3, rfl, rfl⟩
        refine dr_light rfl rfl (wtd_none rfl) (x_move rfl) ?_
        refine dr_light rfl rfl (wtd_none rfl) (x_fieldAddr fd115_2 rfl) ?_
        refine dr_fix rfl rfl (wtd_none rfl) (x_load ag2 rfl (cells_ext (by repeat (first | exact List.mem_cons_self | apply List.mem_cons_of_mem | apply List.mem_append_right)) (by repeat (first | exact Ext.all _ | exact Ext.done | apply Ext.take | apply Ext.skip)))) ?_
        refine dr_effC rfl (V := []) rfl (L' := []) (clear_all rfl) rfl (wtd_none rfl) rfl rfl rfl rfl cl66 (AC.sub (by repeat (first | exact Sub.refl _ | refine Sub.take (by repeat (first | exact Take.here | apply Take.there | apply Take.app)) ?_ | refine Sub.takeE (by repeat (first | exact TakeE.here | apply TakeE.there | apply TakeE.app)) ?_ | exact Sub.nil _ | apply Sub.drop | apply Sub.dropE)) (pdue_s q r (.slice at_ ts.length ct) aw cw W Ew (E2 ++ (pool p r (.slice a3 (W.drop (dueN W o.t)).length c3) m :: (E3 ++ (rmap m es clk :: (Et ++ []))))) VW (by omega) o.t)) ?_
        rintro _ _ ⟨s4, E4, s5, E5, V4, V5, rfl, rfl⟩
        rw [(due_filter hsrt).1] at V4
        rw [(due_filter hsrt).2] at V5
        have hs2 : SrtE (W.drop (dueN W o.t)) := hsrt.drop
        have hl2 : (W.drop (dueN W o.t)).length ≤ W.length := by rw [List.length_drop]; omega
        have hl1 : (W.take (dueN W o.t)).length ≤ W.length := by rw [List.length_take]; omega
        generalize W.drop (dueN W o.t) = W2 at V3 V5 hs2 hl2 ⊢
        generalize W.take (dueN W o.t) = W1 at V2 V4 hl1 ⊢
        obtain ⟨a4, c4, rfl⟩ := V4.isSl
        obtain ⟨a5, c5, rfl⟩ := V5.isSl
        refine dr_light rfl rfl (wtd_none rfl) (x_assign rfl) ?_
        refine dr_light rfl rfl (wtd_none rfl) (x_assign rfl) ?_
        refine dr_nilX1 ?_
        refine aw_keep (keep_cons (t := 1) rfl (keep_cons (t := 4) rfl (keep_cons (t := 5) rfl (keep_cons (t := 7) rfl (keep_cons (t := 8) rfl (keep_cons (t := 9) rfl (keep_cons (t := 10) rfl (keep_cons (t := 11) rfl (keep_cons (t := 50) rfl (keep_cons (t := 51) rfl (keep_cons (t := 52) rfl (keep_cons (t := 53) rfl (keep_cons (t := 54) rfl (keep_cons (t := 55) rfl (keep_cons (t := 56) rfl (keep_cons (t := 57) rfl (keep_cons (t := 60) rfl (keep_cons (t := 61) rfl (keep_cons (t := 62) rfl (keep_cons (t := 63) rfl (keep_cons (t := 64) rfl (keep_cons (t := 65) rfl (keep_cons (t := 75) rfl (keep_cons (t := 76) rfl (keep_cons (t := 77) rfl (keep_cons (t := 78) rfl (keep_cons (t := 79) rfl (keep_cons (t := 80) rfl (keep_cons (t := 81) rfl (keep_cons (t := 82) rfl (keep_cons (t := 83) rfl (keep_cons (t := 84) rfl keep_nil)))))))))))))))))))))))))))))))) ?_
        refine aw_seq ?_
        refine aw_seq_region ?_
        refine sr_x rfl (wtd_none rfl) rfl (Rd.x (x_move rfl)) ?_
        refine sr_x rfl (wtd_none rfl) rfl (Rd.x (x_lenSlice Try.underlying104 rfl)) ?_
        refine sr_x rfl (wtd_none rfl) rfl (Rd.x (x_move rfl)) ?_
        refine sr_x rfl (wtd_none rfl) rfl (Rd.x (x_lenSlice Try.underlying104 rfl)) ?_
        refine sr_cmp rfl (wtd_none rfl) rfl (Rd.x (x_ne rfl rfl)) (fun h6 => absurd h6 (by first | omega | decide)) (fun h6 => ?_)
        refine sr_nil ?_
        refine aw_keep (keep_cons (t := 1) rfl (keep_cons (t := 4) rfl (keep_cons (t := 5) rfl (keep_cons (t := 7) rfl (keep_cons (t := 8) rfl (keep_cons (t := 9) rfl (keep_cons (t := 10) rfl (keep_cons (t := 11) rfl (keep_cons (t := 50) rfl (keep_cons (t := 51) rfl (keep_cons (t := 52) rfl (keep_cons (t := 53) rfl (keep_cons (t := 54) rfl (keep_cons (t := 55) rfl (keep_cons (t := 56) rfl (keep_cons (t := 57) rfl (keep_cons (t := 60) rfl (keep_cons (t := 61) rfl (keep_cons (t := 62) rfl (keep_cons (t := 63) rfl (keep_cons (t := 64) rfl (keep_cons (t := 65) rfl (keep_cons (t := 75) rfl (keep_cons (t := 76) rfl (keep_cons (t := 77) rfl (keep_cons (t := 78) rfl (keep_cons (t := 79) rfl (keep_cons (t := 80) rfl (keep_cons (t := 81) rfl (keep_cons (t := 82) rfl (keep_cons (t := 83) rfl (keep_cons (t := 84) rfl (keep_cons (t := 85) rfl (keep_cons (t := 86) rfl (keep_cons (t := 87) rfl (keep_cons (t := 88) rfl (keep_cons (t := 89) rfl keep_nil))))))))))))))))))))))))))))))))))))) ?_
        refine aw_false rfl ?_
        refine aw_skip ?_
        show AW _ _ _ _ _ _ _
        refine aw_seq ?_
        refine aw_seq_region ?_
        refine sr_x rfl (wtd_none rfl) rfl (Rd.x (x_assign rfl)) ?_
        refine sr_nil ?_
        refine aw_keep (keep_cons (t := 1) rfl (keep_cons (t := 4) rfl (keep_cons (t := 5) rfl (keep_cons (t := 7) rfl (keep_cons (t := 8) rfl (keep_cons (t := 9) rfl (keep_cons (t := 10) rfl (keep_cons (t := 11) rfl (keep_cons (t := 12) rfl (keep_cons (t := 50) rfl (keep_cons (t := 51) rfl (keep_cons (t := 52) rfl (keep_cons (t := 53) rfl (keep_cons (t := 54) rfl (keep_cons (t := 55) rfl (keep_cons (t := 56) rfl (keep_cons (t := 57) rfl (keep_cons (t := 60) rfl (keep_cons (t := 61) rfl (keep_cons (t := 62) rfl (keep_cons (t := 63) rfl (keep_cons (t := 64) rfl (keep_cons (t := 65) rfl (keep_cons (t := 75) rfl (keep_cons (t := 76) rfl (keep_cons (t := 77) rfl (keep_cons (t := 78) rfl (keep_cons (t := 79) rfl (keep_cons (t := 80) rfl (keep_cons (t := 81) rfl (keep_cons (t := 82) rfl (keep_cons (t := 83) rfl (keep_cons (t := 84) rfl (keep_cons (t := 85) rfl (keep_cons (t := 86) rfl (keep_cons (t := 87) rfl (keep_cons (t := 88) rfl (keep_cons (t := 89) rfl keep_nil)))))))))))))))))))))))))))))))))))))) ?_
        refine aw_block ?_
        refine aw_loop (ι := Nat) (fun k => k ≤ W1.length) (fun k => [(1, .slice sa xs.length scap), (4, .bool false), (5, .pointer (some ⟨p, 0, none⟩)), (7, .pointer (some ⟨q, 0, none⟩)), (8, .int .i64 i), (9, .pointer (some ⟨r10_4, 0, none⟩)), (10, .slice a2 W1.length c2), (11, .slice a4 W1.length c4), (12, .int .i64 k)]) (fun _ => plain q r (.slice a5 W2.length c5) (.slice at_ ts.length ct) :: (E4 ++ (E5 ++ (E2 ++ (pool p r (.slice a3 W2.length c3) m :: (E3 ++ (rmap m es clk :: (Et ++ [(r10_4, .cells (ROp.cells o).toArray 115 (0, 0))])))))))) (fun k => W1.length - k) 0 (Nat.zero_le _) (by repeat (first | exact keep_nil | refine keep_cons rfl ?_)) (by repeat (first | exact Sub.refl _ | refine Sub.take (by repeat (first | exact Take.here | apply Take.there | apply Take.app)) ?_ | refine Sub.takeE (by repeat (first | exact TakeE.here | apply TakeE.there | apply TakeE.app)) ?_ | exact Sub.nil _ | apply Sub.drop | apply Sub.dropE)) ?_
        intro k hk
        refine aw_seq ?_
        refine aw_seq_region ?_
        refine sr_x rfl (wtd_none rfl) rfl (Rd.x (x_move rfl)) ?_
        refine sr_x rfl (wtd_none rfl) rfl (Rd.x (x_move rfl)) ?_
        refine sr_x rfl (wtd_none rfl) rfl (Rd.x (x_lenSlice Try.underlying104 rfl)) ?_
        refine sr_cmp rfl (wtd_none rfl) rfl (Rd.x (x_lt rfl rfl)) (fun h7 => ?_) (fun h7 => ?_)
        · refine sr_nil ?_
          refine aw_keep (keep_cons (t := 1) rfl (keep_cons (t := 4) rfl (keep_cons (t := 5) rfl (keep_cons (t := 7) rfl (keep_cons (t := 8) rfl (keep_cons (t := 9) rfl (keep_cons (t := 10) rfl (keep_cons (t := 11) rfl (keep_cons (t := 12) rfl (keep_cons (t := 90) rfl (keep_cons (t := 91) rfl (keep_cons (t := 92) rfl (keep_cons (t := 93) rfl keep_nil))))))))))))) ?_
          refine aw_true rfl ?_
          refine aw_skip ?_
          show AW _ _ _ _ _ _ _
          refine aw_seq ?_
          refine aw_block ?_
          refine aw_seq_dr ⟨_, 9, 164, [[], [], [0, 1], [0, 1, 2], [], [], [4, 5], [4, 5, 6], [0, 1, 2, 3, 4, 5, 6, 7]], [.light, .light, .light, .mem, .light, .light, .light, .mem, .light]⟩ (by kernel_rfl) rfl rfl mix ?_
          obtain ⟨x, hx⟩ := get_ex (show k < W1.length by omega)
          obtain ⟨b1, o1, ha1, hc1⟩ := (V2.slv' (W0 := W0) (fun _ => rfl) rfl (Sub.refl _)).at_ k _ hx
          obtain ⟨b3, o3, ha3, hc3⟩ := (V4.slv' (W0 := W0) (fun _ => rfl) rfl (Sub.refl _)).at_ k _ hx
          refine dr_light rfl rfl (wtd_none rfl) (x_move rfl) ?_
          refine dr_light rfl rfl (wtd_none rfl) (x_move rfl) ?_
          refine dr_light rfl rfl (wtd_none rfl) (x_indexAddrN k Try.underlying104 sz113 rfl ha1 rfl (by omega) (by omega)) ?_
          refine dr_mem0 rfl rfl (wtd_none rfl) (x_loadN ag113 sz113 rfl (Cells.mono hc1 (Sub.takeE0 (by repeat (first | exact TakeE.here | apply TakeE.there | apply TakeE.app)))) rfl) ?_
          refine dr_light rfl rfl (wtd_none rfl) (x_move rfl) ?_
          refine dr_light rfl rfl (wtd_none rfl) (x_move rfl) ?_
          refine dr_light rfl rfl (wtd_none rfl) (x_indexAddrN k Try.underlying104 sz113 rfl ha3 rfl (by omega) (by omega)) ?_
          refine dr_mem0 rfl rfl (wtd_none rfl) (x_loadN ag113 sz113 rfl (Cells.mono hc3 (Sub.takeE0 (by repeat (first | exact TakeE.here | apply TakeE.there | apply TakeE.app)))) rfl) ?_
          refine dr_cmp rfl rfl (wtd_none rfl) (x_neStructN kn113 rfl rfl rfl rfl rfl) (fun h8 => absurd h8 (by simp [eqC, sEq])) (fun h8 => ?_)
          refine dr_nil0 ?_
          refine aw_keep (keep_cons (t := 1) rfl (keep_cons (t := 4) rfl (keep_cons (t := 5) rfl (keep_cons (t := 7) rfl (keep_cons (t := 8) rfl (keep_cons (t := 9) rfl (keep_cons (t := 10) rfl (keep_cons (t := 11) rfl (keep_cons (t := 12) rfl (keep_cons (t := 90) rfl (keep_cons (t := 91) rfl (keep_cons (t := 92) rfl (keep_cons (t := 93) rfl (keep_cons (t := 96) rfl (keep_cons (t := 97) rfl (keep_cons (t := 98) rfl (keep_cons (t := 99) rfl (keep_cons (t := 100) rfl (keep_cons (t := 101) rfl (keep_cons (t := 102) rfl (keep_cons (t := 103) rfl (keep_cons (t := 104) rfl keep_nil)))))))))))))))))))))) ?_
          refine aw_false rfl ?_
          refine aw_skip ?_
          show AW _ _ _ _ _ _ _
          refine aw_region ?_
          refine sr_x rfl (wtd_none rfl) rfl (Rd.x (x_move rfl)) ?_
          refine sr_x rfl (wtd_none rfl) rfl (Rd.x (x_add' rfl rfl (i64w (by omega) (by omega)))) ?_
          refine sr_x rfl (wtd_none rfl) rfl (Rd.x (x_assign rfl)) ?_
          refine sr_nil ?_
          show ∃ s', _ ∧ _ ∧ _ ∧ _
          exact ⟨k + 1, by omega, by omega, (by repeat (first | exact keep_nil | refine keep_cons rfl ?_)), (by repeat (first | exact Sub.refl _ | refine Sub.take (by repeat (first | exact Take.here | apply Take.there | apply Take.app)) ?_ | refine Sub.takeE (by repeat (first | exact TakeE.here | apply TakeE.there | apply TakeE.app)) ?_ | exact Sub.nil _ | apply Sub.drop | apply Sub.dropE))⟩
        · refine sr_nil ?_
          refine aw_keep (keep_cons (t := 1) rfl (keep_cons (t := 4) rfl (keep_cons (t := 5) rfl (keep_cons (t := 7) rfl (keep_cons (t := 8) rfl (keep_cons (t := 9) rfl (keep_cons (t := 10) rfl (keep_cons (t := 11) rfl (keep_cons (t := 12) rfl (keep_cons (t := 90) rfl (keep_cons (t := 91) rfl (keep_cons (t := 92) rfl (keep_cons (t := 93) rfl keep_nil))))))))))))) ?_
          refine aw_false rfl ?_
          refine aw_exit ?_
          show AW _ _ _ _ _ _ _
          refine aw_seq_region ?_
          refine sr_x rfl (wtd_none rfl) rfl (Rd.x (x_move rfl)) ?_
          refine sr_x rfl (wtd_none rfl) rfl (Rd.x (x_lenSlice Try.underlying104 rfl)) ?_
          refine sr_cmp rfl (wtd_none rfl) rfl (Rd.x (x_gt rfl rfl)) (fun h9 => ?_) (fun h9 => ?_)
          · refine sr_nil ?_
            refine aw_keep (keep_cons (t := 1) rfl (keep_cons (t := 4) rfl (keep_cons (t := 5) rfl (keep_cons (t := 7) rfl (keep_cons (t := 8) rfl (keep_cons (t := 9) rfl (keep_cons (t := 10) rfl (keep_cons (t := 11) rfl (keep_cons (t := 12) rfl (keep_cons (t := 90) rfl (keep_cons (t := 91) rfl (keep_cons (t := 92) rfl (keep_cons (t := 93) rfl (keep_cons (t := 105) rfl (keep_cons (t := 106) rfl (keep_cons (t := 107) rfl keep_nil)))))))))))))))) ?_
            refine aw_true rfl ?_
            refine aw_seq_dr ⟨_, 7, 164, [[], [], [1], [], [3], [3, 4], [0, 1, 2, 3, 4, 5]], [.light, .light, .mem, .light, .light, .mem, .eff]⟩ (by kernel_rfl) rfl rfl mix ?_
            obtain ⟨e9, he9⟩ := get_ex (show 0 < W1.length by omega)
            obtain ⟨b9, o9, ha9, hc9⟩ := (V4.slv' (W0 := W0) (fun _ => rfl) rfl (Sub.refl _)).at_ 0 _ he9
            refine dr_light rfl rfl (wtd_none rfl) (x_move rfl) ?_
            refine dr_light rfl rfl (wtd_none rfl) (x_fieldAddr fd115_3 rfl) ?_
            refine dr_mem0 rfl rfl (wtd_none rfl) (x_load ag3 rfl (cells_ext (by repeat (first | exact List.mem_cons_self | apply List.mem_cons_of_mem | apply List.mem_append_right)) (by repeat (first | exact Ext.all _ | exact Ext.done | apply Ext.take | apply Ext.skip)))) ?_
            refine dr_light rfl rfl (wtd_none rfl) (x_move rfl) ?_
            refine dr_light rfl rfl (wtd_none rfl) (x_indexAddrN 0 Try.underlying104 sz113 rfl ha9 rfl (by omega) (by omega)) ?_
            refine dr_mem0 rfl rfl (wtd_none rfl) (x_loadN ag113 sz113 rfl (Cells.mono hc9 (Sub.takeE0 (by repeat (first | exact TakeE.here | apply TakeE.there | apply TakeE.app)))) rfl) ?_
            refine dr_effC rfl (V := []) rfl (L' := []) (clear_all rfl) rfl (wtd_none rfl) rfl rfl rfl rfl cl67 (AC.sub (by repeat (first | exact Sub.refl _ | refine Sub.take (by repeat (first | exact Take.here | apply Take.there | apply Take.app)) ?_ | refine Sub.takeE (by repeat (first | exact TakeE.here | apply TakeE.there | apply TakeE.app)) ?_ | exact Sub.nil _ | apply Sub.drop | apply Sub.dropE)) (rtakenP_s p r (.slice a3 W2.length c3) m es clk (plain q r (.slice a5 W2.length c5) (.slice at_ ts.length ct) :: (E4 ++ (E5 ++ (E3 ++ (Et ++ [(r10_4, .cells (ROp.cells o).toArray 115 (0, 0))]))))) hrel.1 o.id e9)) ?_
            rintro _ _ ⟨rfl, rfl⟩
            refine dr_nil0 ?_
            refine aw_keep (keep_cons (t := 1) rfl (keep_cons (t := 4) rfl (keep_cons (t := 5) rfl (keep_cons (t := 7) rfl (keep_cons (t := 8) rfl (keep_cons (t := 9) rfl (keep_cons (t := 10) rfl (keep_cons (t := 11) rfl (keep_cons (t := 12) rfl (keep_cons (t := 90) rfl (keep_cons (t := 91) rfl (keep_cons (t := 92) rfl (keep_cons (t := 93) rfl (keep_cons (t := 105) rfl (keep_cons (t := 106) rfl (keep_cons (t := 107) rfl (keep_cons (t := 108) rfl (keep_cons (t := 109) rfl (keep_cons (t := 110) rfl (keep_cons (t := 111) rfl (keep_cons (t := 112) rfl (keep_cons (t := 113) rfl keep_nil)))))))))))))))))))))) ?_
            refine aw_dr ⟨_, 7, 164, [[], [], [1], [], [3], [3, 4], [0, 1, 2, 3, 4, 5]], [.light, .light, .mem, .light, .light, .mem, .eff]⟩ (by kernel_rfl) rfl rfl mix ?_
            refine dr_light rfl rfl (wtd_none rfl) (x_move rfl) ?_
            refine dr_light rfl rfl (wtd_none rfl) (x_fieldAddr fd115_3 rfl) ?_
            refine dr_mem0 rfl rfl (wtd_none rfl) (x_load ag3 rfl (cells_ext (by repeat (first | exact List.mem_cons_self | apply List.mem_cons_of_mem | apply List.mem_append_right)) (by repeat (first | exact Ext.all _ | exact Ext.done | apply Ext.take | apply Ext.skip)))) ?_
            refine dr_light rfl rfl (wtd_none rfl) (x_move rfl) ?_
            refine dr_light rfl rfl (wtd_none rfl) (x_indexAddrN 0 Try.underlying104 sz113 rfl ha9 rfl (by omega) (by omega)) ?_
            refine dr_mem0 rfl rfl (wtd_none rfl) (x_loadN ag113 sz113 rfl (Cells.mono hc9 (Sub.takeE0 (by repeat (first | exact TakeE.here | apply TakeE.there | apply TakeE.app)))) rfl) ?_
            refine dr_effC rfl (V := []) rfl (L' := []) (clear_all rfl) rfl (wtd_none rfl) rfl rfl rfl rfl cl68 (AC.sub (by repeat (first | exact Sub.refl _ | refine Sub.take (by repeat (first | exact Take.here | apply Take.there | apply Take.app)) ?_ | refine Sub.takeE (by repeat (first | exact TakeE.here | apply TakeE.there | apply TakeE.app)) ?_ | exact Sub.nil _ | apply Sub.drop | apply Sub.dropE)) (ptakenP_s q r (.slice a5 W2.length c5) at_ ct ts Et (pool p r (.slice a3 W2.length c3) m :: rmap m (tkE o.id e9.tries es clk) (tkC o.id e9.tries es clk) :: (E4 ++ (E5 ++ (E3 ++ [(r10_4, .cells (ROp.cells o).toArray 115 (0, 0))])))) VT (by omega) o.id e9)) ?_
            rintro _ _ ⟨at2, ct2, Et2, VT2, rfl, rfl⟩
            have htl2 := tkT_len (id := o.id) (n := e9.tries) (ts := ts)
            refine dr_nil0 ?_
            show AW _ _ _ _ _ _ _
            refine aw_seq_region ?_
            refine sr_x rfl (wtd_none rfl) rfl (Rd.x (x_assign rfl)) ?_
            refine sr_nil ?_
            refine aw_keep (keep_cons (t := 1) rfl (keep_cons (t := 4) rfl (keep_cons (t := 5) rfl (keep_cons (t := 7) rfl (keep_cons (t := 8) rfl (keep_cons (t := 9) rfl (keep_cons (t := 10) rfl (keep_cons (t := 11) rfl (keep_cons (t := 12) rfl (keep_cons (t := 13) rfl (keep_cons (t := 90) rfl (keep_cons (t := 91) rfl (keep_cons (t := 92) rfl (keep_cons (t := 93) rfl (keep_cons (t := 105) rfl (keep_cons (t := 106) rfl (keep_cons (t := 107) rfl (keep_cons (t := 108) rfl (keep_cons (t := 109) rfl (keep_cons (t := 110) rfl (keep_cons (t := 111) rfl (keep_cons (t := 112) rfl (keep_cons (t := 113) rfl (keep_cons (t := 115) rfl (keep_cons (t := 116) rfl (keep_cons (t := 117) rfl (keep_cons (t := 118) rfl (keep_cons (t := 119) rfl (keep_cons (t := 120) rfl keep_nil))))))))))))))))))))))))))))) ?_
            refine aw_seq ?_
            refine aw_seq_region ?_
            refine sr_x rfl (wtd_none rfl) rfl (Rd.x (x_move rfl)) ?_
            refine sr_x rfl (wtd_none rfl) rfl (Rd.x (x_nilCheck rfl)) ?_
            refine sr_x rfl (wtd_none rfl) rfl (Rd.x (x_fieldAddr fd111_1 rfl)) ?_
            refine sr_x rfl (wtd_none rfl) rfl (Rd.x (x_load ag104 rfl (cells_ext (by repeat (first | exact List.mem_cons_self | apply List.mem_cons_of_mem | apply List.mem_append_right)) (by repeat (first | exact Ext.all _ | exact Ext.done | apply Ext.take | apply Ext.skip))))) ?_
            refine sr_x rfl (wtd_none rfl) rfl (Rd.x (x_lenSlice Try.underlying104 rfl)) ?_
            refine sr_cmp rfl (wtd_none rfl) rfl (Rd.x (x_gt rfl rfl)) (fun h10 => ?_) (fun h10 => ?_)
            · refine sr_nil ?_
              refine aw_keep (keep_cons (t := 1) rfl (keep_cons (t := 4) rfl (keep_cons (t := 5) rfl (keep_cons (t := 7) rfl (keep_cons (t := 8) rfl (keep_cons (t := 9) rfl (keep_cons (t := 10) rfl (keep_cons (t := 11) rfl (keep_cons (t := 12) rfl (keep_cons (t := 13) rfl (keep_cons (t := 90) rfl (keep_cons (t := 91) rfl (keep_cons (t := 92) rfl (keep_cons (t := 93) rfl (keep_cons (t := 105) rfl (keep_cons (t := 106) rfl (keep_cons (t := 107) rfl (keep_cons (t := 108) rfl (keep_cons (t := 109) rfl (keep_cons (t := 110) rfl (keep_cons (t := 111) rfl (keep_cons (t := 112) rfl (keep_cons (t := 113) rfl (keep_cons (t := 115) rfl (keep_cons (t := 116) rfl (keep_cons (t := 117) rfl (keep_cons (t := 118) rfl (keep_cons (t := 119) rfl (keep_cons (t := 120) rfl (keep_cons (t := 136) rfl (keep_cons (t := 137) rfl (keep_cons (t := 138) rfl (keep_cons (t := 139) rfl (keep_cons (t := 140) rfl (keep_cons (t := 141) rfl keep_nil))))))))))))))))))))))))))))))))))) ?_
              refine aw_true rfl ?_
              refine aw_region ?_
              obtain ⟨e8, he8⟩ := get_ex (show 0 < W2.length by omega)
              obtain ⟨b8, o8, ha8, hc8⟩ := (V5.slv' (W0 := W0) (fun _ => rfl) rfl (Sub.refl _)).at_ 0 _ he8
              refine sr_x rfl (wtd_none rfl) rfl (Rd.x (x_move rfl)) ?_
              refine sr_x rfl (wtd_none rfl) rfl (Rd.x (x_nilCheck rfl)) ?_
              refine sr_x rfl (wtd_none rfl) rfl (Rd.x (x_fieldAddr fd111_1 rfl)) ?_
              refine sr_x rfl (wtd_none rfl) rfl (Rd.x (x_load ag104 rfl (cells_ext (by repeat (first | exact List.mem_cons_self | apply List.mem_cons_of_mem | apply List.mem_append_right)) (by repeat (first | exact Ext.all _ | exact Ext.done | apply Ext.take | apply Ext.skip))))) ?_
              refine sr_x rfl (wtd_none rfl) rfl (Rd.x (x_indexAddrN 0 Try.underlying104 sz113 rfl ha8 rfl (by omega) (by omega))) ?_
              refine sr_x rfl (wtd_none rfl) rfl (Rd.x (x_fieldAddr fd113_0 rfl)) ?_
              refine sr_x rfl (wtd_none rfl) rfl (Rd.x (x_load ag2 rfl (cells_get (Cells.mono hc8 (Sub.takeE0 (by repeat (first | exact TakeE.here | apply TakeE.there | apply TakeE.app)))) 0 rfl))) ?_
              refine sr_x rfl (wtd_none rfl) rfl (Rd.x (x_assign rfl)) ?_
              refine sr_nil ?_
              show AW _ _ _ _ _ _ _
              refine aw_seq_dr ⟨_, 14, 164, [[], [0], [], [2], [2, 3], [2, 3, 4], [2, 3, 4, 5], [0, 1, 2, 3, 4, 5, 6], [0, 1, 2, 3, 4, 5, 6, 7], [0, 1, 2, 3, 4, 5, 6, 7, 8], [0, 1, 2, 3, 4, 5, 6, 7, 8, 9], [0, 1, 2, 3, 4, 5, 6, 7, 8], [0, 1, 2, 3, 4, 5, 6, 7, 8, 9, 10, 11], [0, 1, 2, 3, 4, 5, 6, 7, 8, 9, 10, 11, 12]], [.light, .call, .light, .light, .light, .mem, .light, .light, .light, .light, .call, .light, .light, .light]⟩ (by kernel_rfl) rfl rfl mix ?_
              refine dr_light rfl rfl (wtd_none rfl) (x_move rfl) ?_
              refine dr_callq0 rfl rfl (wtd_none rfl) (opS_F rfl rfl rfl rfl cl71 ((rleft_s p r a3 c3 W2 m _ (cells_ext (by repeat (first | exact List.mem_cons_self | apply List.mem_cons_of_mem | apply List.mem_append_right)) (by repeat (first | exact Ext.all _ | exact Ext.done | apply Ext.take | apply Ext.skip)))))) (⟨_, rfl⟩) ?_
              rintro _ rfl
              refine dr_light rfl rfl (wtd_none rfl) (x_move rfl) ?_
              refine dr_light rfl rfl (wtd_none rfl) (x_nilCheck rfl) ?_
              refine dr_light rfl rfl (wtd_none rfl) (x_fieldAddr fd111_1 rfl) ?_
              refine dr_mem0 rfl rfl (wtd_none rfl) (x_load ag104 rfl (cells_ext (by repeat (first | exact List.mem_cons_self | apply List.mem_cons_of_mem | apply List.mem_append_right)) (by repeat (first | exact Ext.all _ | exact Ext.done | apply Ext.take | apply Ext.skip)))) ?_
              refine dr_light rfl rfl (wtd_none rfl) (x_lenSlice Try.underlying104 rfl) ?_
              refine dr_cmp rfl rfl (wtd_none rfl) (x_ne rfl rfl) (fun h11 => absurd h11 (by first | omega | decide)) (fun h11 => ?_)
              refine dr_light rfl rfl (wtd_none rfl) (x_move rfl) ?_
              refine dr_light rfl rfl (wtd_yes rfl rfl rfl) (x_move rfl) ?_
              refine dr_callq0 rfl rfl (wtd_yes rfl rfl rfl) (opS_F rfl rfl rfl rfl cl72 ((rnext_s p r a3 c3 W2 m _ (cells_ext (by repeat (first | exact List.mem_cons_self | apply List.mem_cons_of_mem | apply List.mem_append_right)) (by repeat (first | exact Ext.all _ | exact Ext.done | apply Ext.take | apply Ext.skip))) (V3.slv' (fun _ => rfl) rfl (Sub.takeE0 (by repeat (first | exact TakeE.here | apply TakeE.there | apply TakeE.app))))))) (⟨_, rfl⟩) ?_
              rintro _ rfl
              refine dr_light rfl rfl (wtd_yes rfl rfl rfl) (x_move rfl) ?_
              refine dr_cmp rfl rfl (wtd_yes rfl rfl rfl) (x_ne rfl rfl) (fun h12 => absurd h12 (by first | (rw [nextL_cons he8]; simp) | (rw [nextL_nil (by omega)]; simp))) (fun h12 => ?_)
              refine dr_light rfl rfl (wtd_none rfl) (x_pick_f rfl rfl rfl) ?_
              refine dr_nil0 ?_
              refine aw_keep (keep_cons (t := 1) rfl (keep_cons (t := 4) rfl (keep_cons (t := 5) rfl (keep_cons (t := 7) rfl (keep_cons (t := 8) rfl (keep_cons (t := 9) rfl (keep_cons (t := 10) rfl (keep_cons (t := 11) rfl (keep_cons (t := 12) rfl (keep_cons (t := 13) rfl (keep_cons (t := 90) rfl (keep_cons (t := 91) rfl (keep_cons (t := 92) rfl (keep_cons (t := 93) rfl (keep_cons (t := 105) rfl (keep_cons (t := 106) rfl (keep_cons (t := 107) rfl (keep_cons (t := 108) rfl (keep_cons (t := 109) rfl (keep_cons (t := 110) rfl (keep_cons (t := 111) rfl (keep_cons (t := 112) rfl (keep_cons (t := 113) rfl (keep_cons (t := 115) rfl (keep_cons (t := 116) rfl (keep_cons (t := 117) rfl (keep_cons (t := 118) rfl (keep_cons (t := 119) rfl (keep_cons (t := 120) rfl (keep_cons (t := 136) rfl (keep_cons (t := 137) rfl (keep_cons (t := 138) rfl (keep_cons (t := 139) rfl (keep_cons (t := 140) rfl (keep_cons (t := 141) rfl (keep_cons (t := 142) rfl (keep_cons (t := 143) rfl (keep_cons (t := 144) rfl (keep_cons (t := 145) rfl (keep_cons (t := 146) rfl (keep_cons (t := 147) rfl (keep_cons (t := 148) rfl (keep_cons (t := 149) rfl (keep_cons (t := 150) rfl (keep_cons (t := 151) rfl (keep_cons (t := 152) rfl (keep_cons (t := 153) rfl (keep_cons (t := 154) rfl (keep_cons (t := 155) rfl (keep_cons (t := 156) rfl (keep_cons (t := 157) rfl (keep_cons (t := 158) rfl (keep_cons (t := 159) rfl (keep_cons (t := 160) rfl (keep_cons (t := 161) rfl (keep_cons (t := 162) rfl keep_nil)))))))))))))))))))))))))))))))))))))))))))))))))))))))) ?_
              refine aw_false rfl ?_
              refine aw_skip ?_
              show AW _ _ _ _ _ _ _
              refine aw_region ?_
              refine sr_x rfl (wtd_none rfl) rfl (Rd.x (x_move rfl)) ?_
              refine sr_x rfl (wtd_none rfl) rfl (Rd.x (x_add' rfl rfl (i64w (by omega) (by omega)))) ?_
              refine sr_x rfl (wtd_none rfl) rfl (Rd.x (x_assign rfl)) ?_
              refine sr_nil ?_
              show ∃ s', _ ∧ _ ∧ _ ∧ _
              exact ⟨⟨i + 1, W2, (tkT o.id e9.tries ts), (tkE o.id e9.tries es clk), (tkC o.id e9.tries es clk), a3, c3, E3, a5, c5, E5, at2, ct2, Et2⟩, ⟨by dsimp only; omega, by dsimp only; omega, by dsimp only; omega, by dsimp only; omega, hs2, (hrel.take o.id e9.tries clk), V3, V5, VT2⟩, by dsimp only; omega, (by repeat (first | exact keep_nil | refine keep_cons rfl ?_)), (by repeat (first | exact Sub.refl _ | refine Sub.take (by repeat (first | exact Take.here | apply Take.there | apply Take.app)) ?_ | refine Sub.takeE (by repeat (first | exact TakeE.here | apply TakeE.there | apply TakeE.app)) ?_ | exact Sub.nil _ | apply Sub.drop | apply Sub.dropE))⟩
            · refine sr_nil ?_
              refine aw_keep (keep_cons (t := 1) rfl (keep_cons (t := 4) rfl (keep_cons (t := 5) rfl (keep_cons (t := 7) rfl (keep_cons (t := 8) rfl (keep_cons (t := 9) rfl (keep_cons (t := 10) rfl (keep_cons (t := 11) rfl (keep_cons (t := 12) rfl (keep_cons (t := 13) rfl (keep_cons (t := 90) rfl (keep_cons (t := 91) rfl (keep_cons (t := 92) rfl (keep_cons (t := 93) rfl (keep_cons (t := 105) rfl (keep_cons (t := 106) rfl (keep_cons (t := 107) rfl (keep_cons (t := 108) rfl (keep_cons (t := 109) rfl (keep_cons (t := 110) rfl (keep_cons (t := 111) rfl (keep_cons (t := 112) rfl (keep_cons (t := 113) rfl (keep_cons (t := 115) rfl (keep_cons (t := 116) rfl (keep_cons (t := 117) rfl (keep_cons (t := 118) rfl (keep_cons (t := 119) rfl (keep_cons (t := 120) rfl (keep_cons (t := 136) rfl (keep_cons (t := 137) rfl (keep_cons (t := 138) rfl (keep_cons (t := 139) rfl (keep_cons (t := 140) rfl (keep_cons (t := 141) rfl keep_nil))))))))))))))))))))))))))))))))))) ?_
              refine aw_false rfl ?_
              refine aw_skip ?_
              show AW _ _ _ _ _ _ _
              refine aw_seq_dr ⟨_, 14, 164, [[], [0], [], [2], [2, 3], [2, 3, 4], [2, 3, 4, 5], [0, 1, 2, 3, 4, 5, 6], [0, 1, 2, 3, 4, 5, 6, 7], [0, 1, 2, 3, 4, 5, 6, 7, 8], [0, 1, 2, 3, 4, 5, 6, 7, 8, 9], [0, 1, 2, 3, 4, 5, 6, 7, 8], [0, 1, 2, 3, 4, 5, 6, 7, 8, 9, 10, 11], [0, 1, 2, 3, 4, 5, 6, 7, 8, 9, 10, 11, 12]], [.light, .call, .light, .light, .light, .mem, .light, .light, .light, .light, .call, .light, .light, .light]⟩ (by kernel_rfl) rfl rfl mix ?_
              refine dr_light rfl rfl (wtd_none rfl) (x_move rfl) ?_
              refine dr_callq0 rfl rfl (wtd_none rfl) (opS_F rfl rfl rfl rfl cl71 ((rleft_s p r a3 c3 W2 m _ (cells_ext (by repeat (first | exact List.mem_cons_self | apply List.mem_cons_of_mem | apply List.mem_append_right)) (by repeat (first | exact Ext.all _ | exact Ext.done | apply Ext.take | apply Ext.skip)))))) (⟨_, rfl⟩) ?_
              rintro _ rfl
              refine dr_light rfl rfl (wtd_none rfl) (x_move rfl) ?_
              refine dr_light rfl rfl (wtd_none rfl) (x_nilCheck rfl) ?_
              refine dr_light rfl rfl (wtd_none rfl) (x_fieldAddr fd111_1 rfl) ?_
              refine dr_mem0 rfl rfl (wtd_none rfl) (x_load ag104 rfl (cells_ext (by repeat (first | exact List.mem_cons_self | apply List.mem_cons_of_mem | apply List.mem_append_right)) (by repeat (first | exact Ext.all _ | exact Ext.done | apply Ext.take | apply Ext.skip)))) ?_
              refine dr_light rfl rfl (wtd_none rfl) (x_lenSlice Try.underlying104 rfl) ?_
              refine dr_cmp rfl rfl (wtd_none rfl) (x_ne rfl rfl) (fun h13 => absurd h13 (by first | omega | decide)) (fun h13 => ?_)
              refine dr_light rfl rfl (wtd_none rfl) (x_move rfl) ?_
              refine dr_light rfl rfl (wtd_yes rfl rfl rfl) (x_move rfl) ?_
              refine dr_callq0 rfl rfl (wtd_yes rfl rfl rfl) (opS_F rfl rfl rfl rfl cl72 ((rnext_s p r a3 c3 W2 m _ (cells_ext (by repeat (first | exact List.mem_cons_self | apply List.mem_cons_of_mem | apply List.mem_append_right)) (by repeat (first | exact Ext.all _ | exact Ext.done | apply Ext.take | apply Ext.skip))) (V3.slv' (fun _ => rfl) rfl (Sub.takeE0 (by repeat (first | exact TakeE.here | apply TakeE.there | apply TakeE.app))))))) (⟨_, rfl⟩) ?_
              rintro _ rfl
              refine dr_light rfl rfl (wtd_yes rfl rfl rfl) (x_move rfl) ?_
              refine dr_cmp rfl rfl (wtd_yes rfl rfl rfl) (x_ne rfl rfl) (fun h14 => absurd h14 (by first | (rw [nextL_cons he8]; simp) | (rw [nextL_nil (by omega)]; simp))) (fun h14 => ?_)
              refine dr_light rfl rfl (wtd_none rfl) (x_pick_f rfl rfl rfl) ?_
              refine dr_nil0 ?_
              refine aw_keep (keep_cons (t := 1) rfl (keep_cons (t := 4) rfl (keep_cons (t := 5) rfl (keep_cons (t := 7) rfl (keep_cons (t := 8) rfl (keep_cons (t := 9) rfl (keep_cons (t := 10) rfl (keep_cons (t := 11) rfl (keep_cons (t := 12) rfl (keep_cons (t := 13) rfl (keep_cons (t := 90) rfl (keep_cons (t := 91) rfl (keep_cons (t := 92) rfl (keep_cons (t := 93) rfl (keep_cons (t := 105) rfl (keep_cons (t := 106) rfl (keep_cons (t := 107) rfl (keep_cons (t := 108) rfl (keep_cons (t := 109) rfl (keep_cons (t := 110) rfl (keep_cons (t := 111) rfl (keep_cons (t := 112) rfl (keep_cons (t := 113) rfl (keep_cons (t := 115) rfl (keep_cons (t := 116) rfl (keep_cons (t := 117) rfl (keep_cons (t := 118) rfl (keep_cons (t := 119) rfl (keep_cons (t := 120) rfl (keep_cons (t := 136) rfl (keep_cons (t := 137) rfl (keep_cons (t := 138) rfl (keep_cons (t := 139) rfl (keep_cons (t := 140) rfl (keep_cons (t := 141) rfl (keep_cons (t := 149) rfl (keep_cons (t := 150) rfl (keep_cons (t := 151) rfl (keep_cons (t := 152) rfl (keep_cons (t := 153) rfl (keep_cons (t := 154) rfl (keep_cons (t := 155) rfl (keep_cons (t := 156) rfl (keep_cons (t := 157) rfl (keep_cons (t := 158) rfl (keep_cons (t := 159) rfl (keep_cons (t := 160) rfl (keep_cons (t := 161) rfl (keep_cons (t := 162) rfl keep_nil))))))))))))))))))))))))))))))))))))))))))))))))) ?_
              refine aw_false rfl ?_
              refine aw_skip ?_
              show AW _ _ _ _ _ _ _
              refine aw_region ?_
              refine sr_x rfl (wtd_none rfl) rfl (Rd.x (x_move rfl)) ?_
              refine sr_x rfl (wtd_none rfl) rfl (Rd.x (x_add' rfl rfl (i64w (by omega) (by omega)))) ?_
              refine sr_x rfl (wtd_none rfl) rfl (Rd.x (x_assign rfl)) ?_
              refine sr_nil ?_
              show ∃ s', _ ∧ _ ∧ _ ∧ _
              exact ⟨⟨i + 1, W2, (tkT o.id e9.tries ts), (tkE o.id e9.tries es clk), (tkC o.id e9.tries es clk), a3, c3, E3, a5, c5, E5, at2, ct2, Et2⟩, ⟨by dsimp only; omega, by dsimp only; omega, by dsimp only; omega, by dsimp only; omega, hs2, (hrel.take o.id e9.tries clk), V3, V5, VT2⟩, by dsimp only; omega, (by repeat (first | exact keep_nil | refine keep_cons rfl ?_)), (by repeat (first | exact Sub.refl _ | refine Sub.take (by repeat (first | exact Take.here | apply Take.there | apply Take.app)) ?_ | refine Sub.takeE (by repeat (first | exact TakeE.here | apply TakeE.there | apply TakeE.app)) ?_ | exact Sub.nil _ | apply Sub.drop | apply Sub.dropE))⟩
          · refine sr_nil ?_
            refine aw_keep (keep_cons (t := 1) rfl (keep_cons (t := 4) rfl (keep_cons (t := 5) rfl (keep_cons (t := 7) rfl (keep_cons (t := 8) rfl (keep_cons (t := 9) rfl (keep_cons (t := 10) rfl (keep_cons (t := 11) rfl (keep_cons (t := 12) rfl (keep_cons (t := 90) rfl (keep_cons (t := 91) rfl (keep_cons (t := 92) rfl (keep_cons (t := 93) rfl (keep_cons (t := 105) rfl (keep_cons (t := 106) rfl (keep_cons (t := 107) rfl keep_nil)))))))))))))))) ?_
            refine aw_false rfl ?_
            refine aw_skip ?_
            show AW _ _ _ _ _ _ _
            refine aw_seq_region ?_
            refine sr_x rfl (wtd_none rfl) rfl (Rd.x (x_assign rfl)) ?_
            refine sr_nil ?_
            refine aw_keep (keep_cons (t := 1) rfl (keep_cons (t := 4) rfl (keep_cons (t := 5) rfl (keep_cons (t := 7) rfl (keep_cons (t := 8) rfl (keep_cons (t := 9) rfl (keep_cons (t := 10) rfl (keep_cons (t := 11) rfl (keep_cons (t := 12) rfl (keep_cons (t := 13) rfl (keep_cons (t := 90) rfl (keep_cons (t := 91) rfl (keep_cons (t := 92) rfl (keep_cons (t := 93) rfl (keep_cons (t := 105) rfl (keep_cons (t := 106) rfl (keep_cons (t := 107) rfl keep_nil))))))))))))))))) ?_
            refine aw_seq ?_
            refine aw_seq_region ?_
            refine sr_x rfl (wtd_none rfl) rfl (Rd.x (x_move rfl)) ?_
            refine sr_x rfl (wtd_none rfl) rfl (Rd.x (x_nilCheck rfl)) ?_
            refine sr_x rfl (wtd_none rfl) rfl (Rd.x (x_fieldAddr fd111_1 rfl)) ?_
            refine sr_x rfl (wtd_none rfl) rfl (Rd.x (x_load ag104 rfl (cells_ext (by repeat (first | exact List.mem_cons_self | apply List.mem_cons_of_mem | apply List.mem_append_right)) (by repeat (first | exact Ext.all _ | exact Ext.done | apply Ext.take | apply Ext.skip))))) ?_
            refine sr_x rfl (wtd_none rfl) rfl (Rd.x (x_lenSlice Try.underlying104 rfl)) ?_
            refine sr_cmp rfl (wtd_none rfl) rfl (Rd.x (x_gt rfl rfl)) (fun h15 => ?_) (fun h15 => ?_)
            · refine sr_nil ?_
              refine aw_keep (keep_cons (t := 1) rfl (keep_cons (t := 4) rfl (keep_cons (t := 5) rfl (keep_cons (t := 7) rfl (keep_cons (t := 8) rfl (keep_cons (t := 9) rfl (keep_cons (t := 10) rfl (keep_cons (t := 11) rfl (keep_cons (t := 12) rfl (keep_cons (t := 13) rfl (keep_cons (t := 90) rfl (keep_cons (t := 91) rfl (keep_cons (t := 92) rfl (keep_cons (t := 93) rfl (keep_cons (t := 105) rfl (keep_cons (t := 106) rfl (keep_cons (t := 107) rfl (keep_cons (t := 136) rfl (keep_cons (t := 137) rfl (keep_cons (t := 138) rfl (keep_cons (t := 139) rfl (keep_cons (t := 140) rfl (keep_cons (t := 141) rfl keep_nil))))))))))))))))))))))) ?_
              refine aw_true rfl ?_
              refine aw_region ?_
              obtain ⟨e8, he8⟩ := get_ex (show 0 < W2.length by omega)
              obtain ⟨b8, o8, ha8, hc8⟩ := (V5.slv' (W0 := W0) (fun _ => rfl) rfl (Sub.refl _)).at_ 0 _ he8
              refine sr_x rfl (wtd_none rfl) rfl (Rd.x (x_move rfl)) ?_
              refine sr_x rfl (wtd_none rfl) rfl (Rd.x (x_nilCheck rfl)) ?_
              refine sr_x rfl (wtd_none rfl) rfl (Rd.x (x_fieldAddr fd111_1 rfl)) ?_
              refine sr_x rfl (wtd_none rfl) rfl (Rd.x (x_load ag104 rfl (cells_ext (by repeat (first | exact List.mem_cons_self | apply List.mem_cons_of_mem | apply List.mem_append_right)) (by repeat (first | exact Ext.all _ | exact Ext.done | apply Ext.take | apply Ext.skip))))) ?_
              refine sr_x rfl (wtd_none rfl) rfl (Rd.x (x_indexAddrN 0 Try.underlying104 sz113 rfl ha8 rfl (by omega) (by omega))) ?_
              refine sr_x rfl (wtd_none rfl) rfl (Rd.x (x_fieldAddr fd113_0 rfl)) ?_
              refine sr_x rfl (wtd_none rfl) rfl (Rd.x (x_load ag2 rfl (cells_get (Cells.mono hc8 (Sub.takeE0 (by repeat (first | exact TakeE.here | apply TakeE.there | apply TakeE.app)))) 0 rfl))) ?_
              refine sr_x rfl (wtd_none rfl) rfl (Rd.x (x_assign rfl)) ?_
              refine sr_nil ?_
              show AW _ _ _ _ _ _ _
              refine aw_seq_dr ⟨_, 14, 164, [[], [0], [], [2], [2, 3], [2, 3, 4], [2, 3, 4, 5], [0, 1, 2, 3, 4, 5, 6], [0, 1, 2, 3, 4, 5, 6, 7], [0, 1, 2, 3, 4, 5, 6, 7, 8], [0, 1, 2, 3, 4, 5, 6, 7, 8, 9], [0, 1, 2, 3, 4, 5, 6, 7, 8], [0, 1, 2, 3, 4, 5, 6, 7, 8, 9, 10, 11], [0, 1, 2, 3, 4, 5, 6, 7, 8, 9, 10, 11, 12]], [.light, .call, .light, .light, .light, .mem, .light, .light, .light, .light, .call, .light, .light, .light]⟩ (by kernel_rfl) rfl rfl mix ?_
              refine dr_light rfl rfl (wtd_none rfl) (x_move rfl) ?_
              refine dr_callq0 rfl rfl (wtd_none rfl) (opS_F rfl rfl rfl rfl cl71 ((rleft_s p r a3 c3 W2 m _ (cells_ext (by repeat (first | exact List.mem_cons_self | apply List.mem_cons_of_mem | apply List.mem_append_right)) (by repeat (first | exact Ext.all _ | exact Ext.done | apply Ext.take | apply Ext.skip)))))) (⟨_, rfl⟩) ?_
              rintro _ rfl
              refine dr_light rfl rfl (wtd_none rfl) (x_move rfl) ?_
              refine dr_light rfl rfl (wtd_none rfl) (x_nilCheck rfl) ?_
              refine dr_light rfl rfl (wtd_none rfl) (x_fieldAddr fd111_1 rfl) ?_
              refine dr_mem0 rfl rfl (wtd_none rfl) (x_load ag104 rfl (cells_ext (by repeat (first | exact List.mem_cons_self | apply List.mem_cons_of_mem | apply List.mem_append_right)) (by repeat (first | exact Ext.all _ | exact Ext.done | apply Ext.take | apply Ext.skip)))) ?_
              refine dr_light rfl rfl (wtd_none rfl) (x_lenSlice Try.underlying104 rfl) ?_
              refine dr_cmp rfl rfl (wtd_none rfl) (x_ne rfl rfl) (fun h16 => absurd h16 (by first | omega | decide)) (fun h16 => ?_)
              refine dr_light rfl rfl (wtd_none rfl) (x_move rfl) ?_
              refine dr_light rfl rfl (wtd_yes rfl rfl rfl) (x_move rfl) ?_
              refine dr_callq0 rfl rfl (wtd_yes rfl rfl rfl) (opS_F rfl rfl rfl rfl cl72 ((rnext_s p r a3 c3 W2 m _ (cells_ext (by repeat (first | exact List.mem_cons_self | apply List.mem_cons_of_mem | apply List.mem_append_right)) (by repeat (first | exact Ext.all _ | exact Ext.done | apply Ext.take | apply Ext.skip))) (V3.slv' (fun _ => rfl) rfl (Sub.takeE0 (by repeat (first | exact TakeE.here | apply TakeE.there | apply TakeE.app))))))) (⟨_, rfl⟩) ?_
              rintro _ rfl
              refine dr_light rfl rfl (wtd_yes rfl rfl rfl) (x_move rfl) ?_
              refine dr_cmp rfl rfl (wtd_yes rfl rfl rfl) (x_ne rfl rfl) (fun h17 => absurd h17 (by first | (rw [nextL_cons he8]; simp) | (rw [nextL_nil (by omega)]; simp))) (fun h17 => ?_)
              refine dr_light rfl rfl (wtd_none rfl) (x_pick_f rfl rfl rfl) ?_
              refine dr_nil0 ?_
              refine aw_keep (keep_cons (t := 1) rfl (keep_cons (t := 4) rfl (keep_cons (t := 5) rfl (keep_cons (t := 7) rfl (keep_cons (t := 8) rfl (keep_cons (t := 9) rfl (keep_cons (t := 10) rfl (keep_cons (t := 11) rfl (keep_cons (t := 12) rfl (keep_cons (t := 13) rfl (keep_cons (t := 90) rfl (keep_cons (t := 91) rfl (keep_cons (t := 92) rfl (keep_cons (t := 93) rfl (keep_cons (t := 105) rfl (keep_cons (t := 106) rfl (keep_cons (t := 107) rfl (keep_cons (t := 136) rfl (keep_cons (t := 137) rfl (keep_cons (t := 138) rfl (keep_cons (t := 139) rfl (keep_cons (t := 140) rfl (keep_cons (t := 141) rfl (keep_cons (t := 142) rfl (keep_cons (t := 143) rfl (keep_cons (t := 144) rfl (keep_cons (t := 145) rfl (keep_cons (t := 146) rfl (keep_cons (t := 147) rfl (keep_cons (t := 148) rfl (keep_cons (t := 149) rfl (keep_cons (t := 150) rfl (keep_cons (t := 151) rfl (keep_cons (t := 152) rfl (keep_cons (t := 153) rfl (keep_cons (t := 154) rfl (keep_cons (t := 155) rfl (keep_cons (t := 156) rfl (keep_cons (t := 157) rfl (keep_cons (t := 158) rfl (keep_cons (t := 159) rfl (keep_cons (t := 160) rfl (keep_cons (t := 161) rfl (keep_cons (t := 162) rfl keep_nil)))))))))))))))))))))))))))))))))))))))))))) ?_
              refine aw_false rfl ?_
              refine aw_skip ?_
              show AW _ _ _ _ _ _ _
              refine aw_region ?_
              refine sr_x rfl (wtd_none rfl) rfl (Rd.x (x_move rfl)) ?_
              refine sr_x rfl (wtd_none rfl) rfl (Rd.x (x_add' rfl rfl (i64w (by omega) (by omega)))) ?_
              refine sr_x rfl (wtd_none rfl) rfl (Rd.x (x_assign rfl)) ?_
              refine sr_nil ?_
              show ∃ s', _ ∧ _ ∧ _ ∧ _
              exact ⟨⟨i + 1, W2, ts, es, clk, a3, c3, E3, a5, c5, E5, at_, ct, Et⟩, ⟨by dsimp only; omega, by dsimp only; omega, by dsimp only; omega, by dsimp only; omega, hs2, hrel, V3, V5, VT⟩, by dsimp only; omega, (by repeat (first | exact keep_nil | refine keep_cons rfl ?_)), (by repeat (first | exact Sub.refl _ | refine Sub.take (by repeat (first | exact Take.here | apply Take.there | apply Take.app)) ?_ | refine Sub.takeE (by repeat (first | exact TakeE.here | apply TakeE.there | apply TakeE.app)) ?_ | exact Sub.nil _ | apply Sub.drop | apply Sub.dropE))⟩
            · refine sr_nil ?_
              refine aw_keep (keep_cons (t := 1) rfl (keep_cons (t := 4) rfl (keep_cons (t := 5) rfl (keep_cons (t := 7) rfl (keep_cons (t := 8) rfl (keep_cons (t := 9) rfl (keep_cons (t := 10) rfl (keep_cons (t := 11) rfl (keep_cons (t := 12) rfl (keep_cons (t := 13) rfl (keep_cons (t := 90) rfl (keep_cons (t := 91) rfl (keep_cons (t := 92) rfl (keep_cons (t := 93) rfl (keep_cons (t := 105) rfl (keep_cons (t := 106) rfl (keep_cons (t := 107) rfl (keep_cons (t := 136) rfl (keep_cons (t := 137) rfl (keep_cons (t := 138) rfl (keep_cons (t := 139) rfl (keep_cons (t := 140) rfl (keep_cons (t := 141) rfl keep_nil))))))))))))))))))))))) ?_
              refine aw_false rfl ?_
              refine aw_skip ?_
              show AW _ _ _ _ _ _ _
              refine aw_seq_dr ⟨_, 14, 164, [[], [0], [], [2], [2, 3], [2, 3, 4], [2, 3, 4, 5], [0, 1, 2, 3, 4, 5, 6], [0, 1, 2, 3, 4, 5, 6, 7], [0, 1, 2, 3, 4, 5, 6, 7, 8], [0, 1, 2, 3, 4, 5, 6, 7, 8, 9], [0, 1, 2, 3, 4, 5, 6, 7, 8], [0, 1, 2, 3, 4, 5, 6, 7, 8, 9, 10, 11], [0, 1, 2, 3, 4, 5, 6, 7, 8, 9, 10, 11, 12]], [.light, .call, .light, .light, .light, .mem, .light, .light, .light, .light, .call, .light, .light, .light]⟩ (by kernel_rfl) rfl rfl mix ?_
              refine dr_light rfl rfl (wtd_none rfl) (x_move rfl) ?_
              refine dr_callq0 rfl rfl (wtd_none rfl) (opS_F rfl rfl rfl rfl cl71 ((rleft_s p r a3 c3 W2 m _ (cells_ext (by repeat (first | exact List.mem_cons_self | apply List.mem_cons_of_mem | apply List.mem_append_right)) (by repeat (first | exact Ext.all _ | exact Ext.done | apply Ext.take | apply Ext.skip)))))) (⟨_, rfl⟩) ?_
              rintro _ rfl
              refine dr_light rfl rfl (wtd_none rfl) (x_move rfl) ?_
              refine dr_light rfl rfl (wtd_none rfl) (x_nilCheck rfl) ?_
              refine dr_light rfl rfl (wtd_none rfl) (x_fieldAddr fd111_1 rfl) ?_
              refine dr_mem0 rfl rfl (wtd_none rfl) (x_load ag104 rfl (cells_ext (by repeat (first | exact List.mem_cons_self | apply List.mem_cons_of_mem | apply List.mem_append_right)) (by repeat (first | exact Ext.all _ | exact Ext.done | apply Ext.take | apply Ext.skip)))) ?_
              refine dr_light rfl rfl (wtd_none rfl) (x_lenSlice Try.underlying104 rfl) ?_
              refine dr_cmp rfl rfl (wtd_none rfl) (x_ne rfl rfl) (fun h18 => absurd h18 (by first | omega | decide)) (fun h18 => ?_)
              refine dr_light rfl rfl (wtd_none rfl) (x_move rfl) ?_
              refine dr_light rfl rfl (wtd_yes rfl rfl rfl) (x_move rfl) ?_
              refine dr_callq0 rfl rfl (wtd_yes rfl rfl rfl) (opS_F rfl rfl rfl rfl cl72 ((rnext_s p r a3 c3 W2 m _ (cells_ext (by repeat (first | exact List.mem_cons_self | apply List.mem_cons_of_mem | apply List.mem_append_right)) (by repeat (first | exact Ext.all _ | exact Ext.done | apply Ext.take | apply Ext.skip))) (V3.slv' (fun _ => rfl) rfl (Sub.takeE0 (by repeat (first | exact TakeE.here | apply TakeE.there | apply TakeE.app))))))) (⟨_, rfl⟩) ?_
              rintro _ rfl
              refine dr_light rfl rfl (wtd_yes rfl rfl rfl) (x_move rfl) ?_
              refine dr_cmp rfl rfl (wtd_yes rfl rfl rfl) (x_ne rfl rfl) (fun h19 => absurd h19 (by first | (rw [nextL_cons he8]; simp) | (rw [nextL_nil (by omega)]; simp))) (fun h19 => ?_)
              refine dr_light rfl rfl (wtd_none rfl) (x_pick_f rfl rfl rfl) ?_
              refine dr_nil0 ?_
              refine aw_keep (keep_cons (t := 1) rfl (keep_cons (t := 4) rfl (keep_cons (t := 5) rfl (keep_cons (t := 7) rfl (keep_cons (t := 8) rfl (keep_cons (t := 9) rfl (keep_cons (t := 10) rfl (keep_cons (t := 11) rfl (keep_cons (t := 12) rfl (keep_cons (t := 13) rfl (keep_cons (t := 90) rfl (keep_cons (t := 91) rfl (keep_cons (t := 92) rfl (keep_cons (t := 93) rfl (keep_cons (t := 105) rfl (keep_cons (t := 106) rfl (keep_cons (t := 107) rfl (keep_cons (t := 136) rfl (keep_cons (t := 137) rfl (keep_cons (t := 138) rfl (keep_cons (t := 139) rfl (keep_cons (t := 140) rfl (keep_cons (t := 141) rfl (keep_cons (t := 149) rfl (keep_cons (t := 150) rfl (keep_cons (t := 151) rfl (keep_cons (t := 152) rfl (keep_cons (t := 153) rfl (keep_cons (t := 154) rfl (keep_cons (t := 155) rfl (keep_cons (t := 156) rfl (keep_cons (t := 157) rfl (keep_cons (t := 158) rfl (keep_cons (t := 159) rfl (keep_cons (t := 160) rfl (keep_cons (t := 161) rfl (keep_cons (t := 162) rfl keep_nil))))))))))))))))))))))))))))))))))))) ?_
              refine aw_false rfl ?_
              refine aw_skip ?_
              show AW _ _ _ _ _ _ _
              refine aw_region ?_
              refine sr_x rfl (wtd_none rfl) rfl (Rd.x (x_move rfl)) ?_
              refine sr_x rfl (wtd_none rfl) rfl (Rd.x (x_add' rfl rfl (i64w (by omega) (by omega)))) ?_
              refine sr_x rfl (wtd_none rfl) rfl (Rd.x (x_assign rfl)) ?_
              refine sr_nil ?_
              show ∃ s', _ ∧ _ ∧ _ ∧ _
              exact ⟨⟨i + 1, W2, ts, es, clk, a3, c3, E3, a5, c5, E5, at_, ct, Et⟩, ⟨by dsimp only; omega, by dsimp only; omega, by dsimp only; omega, by dsimp only; omega, hs2, hrel, V3, V5, VT⟩, by dsimp only; omega, (by repeat (first | exact keep_nil | refine keep_cons rfl ?_)), (by repeat (first | exact Sub.refl _ | refine Sub.take (by repeat (first | exact Take.here | apply Take.there | apply Take.app)) ?_ | refine Sub.takeE (by repeat (first | exact TakeE.here | apply TakeE.there | apply TakeE.app)) ?_ | exact Sub.nil _ | apply Sub.drop | apply Sub.dropE))⟩
      · refine sr_x rfl (wtd_none rfl) rfl (Rd.x (x_assign rfl)) ?_
        refine sr_nil ?_
        refine aw_keep (keep_cons (t := 1) rfl (keep_cons (t := 4) rfl (keep_cons (t := 5) rfl (keep_cons (t := 7) rfl (keep_cons (t := 8) rfl (keep_cons (t := 9) rfl (keep_cons (t := 50) rfl (keep_cons (t := 51) rfl (keep_cons (t := 52) rfl (keep_cons (t := 53) rfl (keep_cons (t := 54) rfl (keep_cons (t := 55) rfl (keep_cons (t := 56) rfl (keep_cons (t := 57) rfl (keep_cons (t := 60) rfl (keep_cons (t := 61) rfl (keep_cons (t := 62) rfl (keep_cons (t := 63) rfl (keep_cons (t := 64) rfl (keep_cons (t := 65) rfl (keep_cons (t := 75) rfl (keep_cons (t := 76) rfl keep_nil)))))))))))))))))))))) ?_
        refine aw_false rfl ?_
        refine aw_seq_region ?_
        refine sr_cmp rfl (wtd_none rfl) rfl (Rd.x (x_eq rfl rfl)) (fun h20 => ?_) (fun h20 => ?_)
        · refine sr_x rfl (wtd_none rfl) rfl (Rd.x (x_assign rfl)) ?_
          refine sr_nil ?_
          refine aw_keep (keep_cons (t := 1) rfl (keep_cons (t := 4) rfl (keep_cons (t := 5) rfl (keep_cons (t := 7) rfl (keep_cons (t := 8) rfl (keep_cons (t := 9) rfl (keep_cons (t := 50) rfl (keep_cons (t := 51) rfl (keep_cons (t := 52) rfl (keep_cons (t := 53) rfl (keep_cons (t := 54) rfl (keep_cons (t := 55) rfl (keep_cons (t := 56) rfl (keep_cons (t := 57) rfl (keep_cons (t := 60) rfl (keep_cons (t := 61) rfl (keep_cons (t := 62) rfl (keep_cons (t := 63) rfl (keep_cons (t := 64) rfl (keep_cons (t := 65) rfl (keep_cons (t := 75) rfl (keep_cons (t := 76) rfl (keep_cons (t := 122) rfl (keep_cons (t := 123) rfl keep_nil)))))))))))))))))))))))) ?_
          refine aw_true rfl ?_
          refine aw_seq_region ?_
          refine sr_x rfl (wtd_none rfl) rfl (Rd.x (x_move rfl)) ?_
          refine sr_x rfl (wtd_none rfl) rfl (Rd.x (x_fieldAddr fd115_3 rfl)) ?_
          refine sr_x rfl (wtd_none rfl) rfl (Rd.x (x_load ag3 rfl (cells_ext (by repeat (first | exact List.mem_cons_self | apply List.mem_cons_of_mem | apply List.mem_append_right)) (by repeat (first | exact Ext.all _ | exact Ext.done | apply Ext.take | apply Ext.skip))))) ?_
          refine sr_x rfl (wtd_none rfl) rfl (Rd.x (x_fieldAddr fd115_4 rfl)) ?_
          refine sr_x rfl (wtd_none rfl) rfl (Rd.x (x_loadN ag113 sz113 rfl (cells_ext (vs := o.e.cells) (n := 11) (by repeat (first | exact List.mem_cons_self | apply List.mem_cons_of_mem | apply List.mem_append_right)) (by repeat (first | exact Ext.done | apply Ext.take | apply Ext.skip))) rfl)) ?_
          refine sr_d rfl (wtd_none rfl) rfl (opS_call rfl rfl rfl rfl cl67 (AC.sub (by repeat (first | exact Sub.refl _ | refine Sub.take (by repeat (first | exact Take.here | apply Take.there | apply Take.app)) ?_ | refine Sub.takeE (by repeat (first | exact TakeE.here | apply TakeE.there | apply TakeE.app)) ?_ | exact Sub.nil _ | apply Sub.drop | apply Sub.dropE)) (rtakenP_s p r (.slice a W.length cap) m es clk (plain q r (.slice aw W.length cw) (.slice at_ ts.length ct) :: (Ew ++ (E ++ (Et ++ [(r10_4, .cells (ROp.cells o).toArray 115 (0, 0))])))) hrel.1 o.id o.e))) ?_
          rintro _ _ ⟨rfl, rfl⟩
          refine sr_nil ?_
          refine aw_keep (keep_cons (t := 1) rfl (keep_cons (t := 4) rfl (keep_cons (t := 5) rfl (keep_cons (t := 7) rfl (keep_cons (t := 8) rfl (keep_cons (t := 9) rfl (keep_cons (t := 50) rfl (keep_cons (t := 51) rfl (keep_cons (t := 52) rfl (keep_cons (t := 53) rfl (keep_cons (t := 54) rfl (keep_cons (t := 55) rfl (keep_cons (t := 56) rfl (keep_cons (t := 57) rfl (keep_cons (t := 60) rfl (keep_cons (t := 61) rfl (keep_cons (t := 62) rfl (keep_cons (t := 63) rfl (keep_cons (t := 64) rfl (keep_cons (t := 65) rfl (keep_cons (t := 75) rfl (keep_cons (t := 76) rfl (keep_cons (t := 122) rfl (keep_cons (t := 123) rfl (keep_cons (t := 124) rfl (keep_cons (t := 125) rfl (keep_cons (t := 126) rfl (keep_cons (t := 127) rfl (keep_cons (t := 128) rfl keep_nil))))))))))))))))))))))))))))) ?_
          refine aw_region ?_
          refine sr_x rfl (wtd_none rfl) rfl (Rd.x (x_move rfl)) ?_
          refine sr_x rfl (wtd_none rfl) rfl (Rd.x (x_fieldAddr fd115_3 rfl)) ?_
          refine sr_x rfl (wtd_none rfl) rfl (Rd.x (x_load ag3 rfl (cells_ext (by repeat (first | exact List.mem_cons_self | apply List.mem_cons_of_mem | apply List.mem_append_right)) (by repeat (first | exact Ext.all _ | exact Ext.done | apply Ext.take | apply Ext.skip))))) ?_
          refine sr_x rfl (wtd_none rfl) rfl (Rd.x (x_fieldAddr fd115_4 rfl)) ?_
          refine sr_x rfl (wtd_none rfl) rfl (Rd.x (x_loadN ag113 sz113 rfl (cells_ext (vs := o.e.cells) (n := 11) (by repeat (first | exact List.mem_cons_self | apply List.mem_cons_of_mem | apply List.mem_append_right)) (by repeat (first | exact Ext.done | apply Ext.take | apply Ext.skip))) rfl)) ?_
          refine sr_d rfl (wtd_none rfl) rfl (opS_call rfl rfl rfl rfl cl68 (AC.sub (by repeat (first | exact Sub.refl _ | refine Sub.take (by repeat (first | exact Take.here | apply Take.there | apply Take.app)) ?_ | refine Sub.takeE (by repeat (first | exact TakeE.here | apply TakeE.there | apply TakeE.app)) ?_ | exact Sub.nil _ | apply Sub.drop | apply Sub.dropE)) (ptakenP_s q r (.slice aw W.length cw) at_ ct ts Et (pool p r (.slice a W.length cap) m :: rmap m (tkE o.id o.e.tries es clk) (tkC o.id o.e.tries es clk) :: (Ew ++ (E ++ [(r10_4, .cells (ROp.cells o).toArray 115 (0, 0))]))) VT (by omega) o.id o.e))) ?_
          rintro _ _ ⟨at2, ct2, Et2, VT2, rfl, rfl⟩
          have htl2 := tkT_len (id := o.id) (n := o.e.tries) (ts := ts)
          refine sr_nil ?_
          show AW _ _ _ _ _ _ _
          refine aw_seq_region ?_
          refine sr_x rfl (wtd_none rfl) rfl (Rd.x (x_assign rfl)) ?_
          refine sr_nil ?_
          refine aw_keep (keep_cons (t := 1) rfl (keep_cons (t := 4) rfl (keep_cons (t := 5) rfl (keep_cons (t := 7) rfl (keep_cons (t := 8) rfl (keep_cons (t := 9) rfl (keep_cons (t := 13) rfl (keep_cons (t := 50) rfl (keep_cons (t := 51) rfl (keep_cons (t := 52) rfl (keep_cons (t := 53) rfl (keep_cons (t := 54) rfl (keep_cons (t := 55) rfl (keep_cons (t := 56) rfl (keep_cons (t := 57) rfl (keep_cons (t := 60) rfl (keep_cons (t := 61) rfl (keep_cons (t := 62) rfl (keep_cons (t := 63) rfl (keep_cons (t := 64) rfl (keep_cons (t := 65) rfl (keep_cons (t := 75) rfl (keep_cons (t := 76) rfl (keep_cons (t := 122) rfl (keep_cons (t := 123) rfl (keep_cons (t := 124) rfl (keep_cons (t := 125) rfl (keep_cons (t := 126) rfl (keep_cons (t := 127) rfl (keep_cons (t := 128) rfl (keep_cons (t := 130) rfl (keep_cons (t := 131) rfl (keep_cons (t := 132) rfl (keep_cons (t := 133) rfl (keep_cons (t := 134) rfl keep_nil))))))))))))))))))))))))))))))))))) ?_
          refine aw_seq ?_
          refine aw_seq_region ?_
          refine sr_x rfl (wtd_none rfl) rfl (Rd.x (x_move rfl)) ?_
          refine sr_x rfl (wtd_none rfl) rfl (Rd.x (x_nilCheck rfl)) ?_
          refine sr_x rfl (wtd_none rfl) rfl (Rd.x (x_fieldAddr fd111_1 rfl)) ?_
          refine sr_x rfl (wtd_none rfl) rfl (Rd.x (x_load ag104 rfl (cells_ext (by repeat (first | exact List.mem_cons_self | apply List.mem_cons_of_mem | apply List.mem_append_right)) (by repeat (first | exact Ext.all _ | exact Ext.done | apply Ext.take | apply Ext.skip))))) ?_
          refine sr_x rfl (wtd_none rfl) rfl (Rd.x (x_lenSlice Try.underlying104 rfl)) ?_
          refine sr_cmp rfl (wtd_none rfl) rfl (Rd.x (x_gt rfl rfl)) (fun h21 => ?_) (fun h21 => ?_)
          · refine sr_nil ?_
            refine aw_keep (keep_cons (t := 1) rfl (keep_cons (t := 4) rfl (keep_cons (t := 5) rfl (keep_cons (t := 7) rfl (keep_cons (t := 8) rfl (keep_cons (t := 9) rfl (keep_cons (t := 13) rfl (keep_cons (t := 50) rfl (keep_cons (t := 51) rfl (keep_cons (t := 52) rfl (keep_cons (t := 53) rfl (keep_cons (t := 54) rfl (keep_cons (t := 55) rfl (keep_cons (t := 56) rfl (keep_cons (t := 57) rfl (keep_cons (t := 60) rfl (keep_cons (t := 61) rfl (keep_cons (t := 62) rfl (keep_cons (t := 63) rfl (keep_cons (t := 64) rfl (keep_cons (t := 65) rfl (keep_cons (t := 75) rfl (keep_cons (t := 76) rfl (keep_cons (t := 122) rfl (keep_cons (t := 123) rfl (keep_cons (t := 124) rfl (keep_cons (t := 125) rfl (keep_cons (t := 126) rfl (keep_cons (t := 127) rfl (keep_cons (t := 128) rfl (keep_cons (t := 130) rfl (keep_cons (t := 131) rfl (keep_cons (t := 132) rfl (keep_cons (t := 133) rfl (keep_cons (t := 134) rfl (keep_cons (t := 136) rfl (keep_cons (t := 137) rfl (keep_cons (t := 138) rfl (keep_cons (t := 139) rfl (keep_cons (t := 140) rfl (keep_cons (t := 141) rfl keep_nil))))))))))))))))))))))))))))))))))))))))) ?_
            refine aw_true rfl ?_
            refine aw_region ?_
            obtain ⟨e8, he8⟩ := get_ex (show 0 < W.length by omega)
            obtain ⟨b8, o8, ha8, hc8⟩ := (VW.slv' (W0 := W0) (fun _ => rfl) rfl (Sub.refl _)).at_ 0 _ he8
            refine sr_x rfl (wtd_none rfl) rfl (Rd.x (x_move rfl)) ?_
            refine sr_x rfl (wtd_none rfl) rfl (Rd.x (x_nilCheck rfl)) ?_
            refine sr_x rfl (wtd_none rfl) rfl (Rd.x (x_fieldAddr fd111_1 rfl)) ?_
            refine sr_x rfl (wtd_none rfl) rfl (Rd.x (x_load ag104 rfl (cells_ext (by repeat (first | exact List.mem_cons_self | apply List.mem_cons_of_mem | apply List.mem_append_right)) (by repeat (first | exact Ext.all _ | exact Ext.done | apply Ext.take | apply Ext.skip))))) ?_
            refine sr_x rfl (wtd_none rfl) rfl (Rd.x (x_indexAddrN 0 Try.underlying104 sz113 rfl ha8 rfl (by omega) (by omega))) ?_
            refine sr_x rfl (wtd_none rfl) rfl (Rd.x (x_fieldAddr fd113_0 rfl)) ?_
            refine sr_x rfl (wtd_none rfl) rfl (Rd.x (x_load ag2 rfl (cells_get (Cells.mono hc8 (Sub.takeE0 (by repeat (first | exact TakeE.here | apply TakeE.there | apply TakeE.app)))) 0 rfl))) ?_
            refine sr_x rfl (wtd_none rfl) rfl (Rd.x (x_assign rfl)) ?_
            refine sr_nil ?_
            show AW _ _ _ _ _ _ _
            refine aw_seq_dr ⟨_, 14, 164, [[], [0], [], [2], [2, 3], [2, 3, 4], [2, 3, 4, 5], [0, 1, 2, 3, 4, 5, 6], [0, 1, 2, 3, 4, 5, 6, 7], [0, 1, 2, 3, 4, 5, 6, 7, 8], [0, 1, 2, 3, 4, 5, 6, 7, 8, 9], [0, 1, 2, 3, 4, 5, 6, 7, 8], [0, 1, 2, 3, 4, 5, 6, 7, 8, 9, 10, 11], [0, 1, 2, 3, 4, 5, 6, 7, 8, 9, 10, 11, 12]], [.light, .call, .light, .light, .light, .mem, .light, .light, .light, .light, .call, .light, .light, .light]⟩ (by kernel_rfl) rfl rfl mix ?_
            refine dr_light rfl rfl (wtd_none rfl) (x_move rfl) ?_
            refine dr_callq0 rfl rfl (wtd_none rfl) (opS_F rfl rfl rfl rfl cl71 ((rleft_s p r a cap W m _ (cells_ext (by repeat (first | exact List.mem_cons_self | apply List.mem_cons_of_mem | apply List.mem_append_right)) (by repeat (first | exact Ext.all _ | exact Ext.done | apply Ext.take | apply Ext.skip)))))) (⟨_, rfl⟩) ?_
            rintro _ rfl
            refine dr_light rfl rfl (wtd_none rfl) (x_move rfl) ?_
            refine dr_light rfl rfl (wtd_none rfl) (x_nilCheck rfl) ?_
            refine dr_light rfl rfl (wtd_none rfl) (x_fieldAddr fd111_1 rfl) ?_
            refine dr_mem0 rfl rfl (wtd_none rfl) (x_load ag104 rfl (cells_ext (by repeat (first | exact List.mem_cons_self | apply List.mem_cons_of_mem | apply List.mem_append_right)) (by repeat (first | exact Ext.all _ | exact Ext.done | apply Ext.take | apply Ext.skip)))) ?_
            refine dr_light rfl rfl (wtd_none rfl) (x_lenSlice Try.underlying104 rfl) ?_
            refine dr_cmp rfl rfl (wtd_none rfl) (x_ne rfl rfl) (fun h22 => absurd h22 (by first | omega | decide)) (fun h22 => ?_)
            refine dr_light rfl rfl (wtd_none rfl) (x_move rfl) ?_
            refine dr_light rfl rfl (wtd_yes rfl rfl rfl) (x_move rfl) ?_
            refine dr_callq0 rfl rfl (wtd_yes rfl rfl rfl) (opS_F rfl rfl rfl rfl cl72 ((rnext_s p r a cap W m _ (cells_ext (by repeat (first | exact List.mem_cons_self | apply List.mem_cons_of_mem | apply List.mem_append_right)) (by repeat (first | exact Ext.all _ | exact Ext.done | apply Ext.take | apply Ext.skip))) (V.slv' (fun _ => rfl) rfl (Sub.takeE0 (by repeat (first | exact TakeE.here | apply TakeE.there | apply TakeE.app))))))) (⟨_, rfl⟩) ?_
            rintro _ rfl
            refine dr_light rfl rfl (wtd_yes rfl rfl rfl) (x_move rfl) ?_
            refine dr_cmp rfl rfl (wtd_yes rfl rfl rfl) (x_ne rfl rfl) (fun h23 => absurd h23 (by first | (rw [nextL_cons he8]; simp) | (rw [nextL_nil (by omega)]; simp))) (fun h23 => ?_)
            refine dr_light rfl rfl (wtd_none rfl) (x_pick_f rfl rfl rfl) ?_
            refine dr_nil0 ?_
            refine aw_keep (keep_cons (t := 1) rfl (keep_cons (t := 4) rfl (keep_cons (t := 5) rfl (keep_cons (t := 7) rfl (keep_cons (t := 8) rfl (keep_cons (t := 9) rfl (keep_cons (t := 13) rfl (keep_cons (t := 50) rfl (keep_cons (t := 51) rfl (keep_cons (t := 52) rfl (keep_cons (t := 53) rfl (keep_cons (t := 54) rfl (keep_cons (t := 55) rfl (keep_cons (t := 56) rfl (keep_cons (t := 57) rfl (keep_cons (t := 60) rfl (keep_cons (t := 61) rfl (keep_cons (t := 62) rfl (keep_cons (t := 63) rfl (keep_cons (t := 64) rfl (keep_cons (t := 65) rfl (keep_cons (t := 75) rfl (keep_cons (t := 76) rfl (keep_cons (t := 122) rfl (keep_cons (t := 123) rfl (keep_cons (t := 124) rfl (keep_cons (t := 125) rfl (keep_cons (t := 126) rfl (keep_cons (t := 127) rfl (keep_cons (t := 128) rfl (keep_cons (t := 130) rfl (keep_cons (t := 131) rfl (keep_cons (t := 132) rfl (keep_cons (t := 133) rfl (keep_cons (t := 134) rfl (keep_cons (t := 136) rfl (keep_cons (t := 137) rfl (keep_cons (t := 138) rfl (keep_cons (t := 139) rfl (keep_cons (t := 140) rfl (keep_cons (t := 141) rfl (keep_cons (t := 142) rfl (keep_cons (t := 143) rfl (keep_cons (t := 144) rfl (keep_cons (t := 145) rfl (keep_cons (t := 146) rfl (keep_cons (t := 147) rfl (keep_cons (t := 148) rfl (keep_cons (t := 149) rfl (keep_cons (t := 150) rfl (keep_cons (t := 151) rfl (keep_cons (t := 152) rfl (keep_cons (t := 153) rfl (keep_cons (t := 154) rfl (keep_cons (t := 155) rfl (keep_cons (t := 156) rfl (keep_cons (t := 157) rfl (keep_cons (t := 158) rfl (keep_cons (t := 159) rfl (keep_cons (t := 160) rfl (keep_cons (t := 161) rfl (keep_cons (t := 162) rfl keep_nil)))))))))))))))))))))))))))))))))))))))))))))))))))))))))))))) ?_
            refine aw_false rfl ?_
            refine aw_skip ?_
            show AW _ _ _ _ _ _ _
            refine aw_region ?_
            refine sr_x rfl (wtd_none rfl) rfl (Rd.x (x_move rfl)) ?_
            refine sr_x rfl (wtd_none rfl) rfl (Rd.x (x_add' rfl rfl (i64w (by omega) (by omega)))) ?_
            refine sr_x rfl (wtd_none rfl) rfl (Rd.x (x_assign rfl)) ?_
            refine sr_nil ?_
            show ∃ s', _ ∧ _ ∧ _ ∧ _
            exact ⟨⟨i + 1, W, (tkT o.id o.e.tries ts), (tkE o.id o.e.tries es clk), (tkC o.id o.e.tries es clk), a, cap, E, aw, cw, Ew, at2, ct2, Et2⟩, ⟨by dsimp only; omega, by dsimp only; omega, by dsimp only; omega, by dsimp only; omega, hsrt, (hrel.take o.id o.e.tries clk), V, VW, VT2⟩, by dsimp only; omega, (by repeat (first | exact keep_nil | refine keep_cons rfl ?_)), (by repeat (first | exact Sub.refl _ | refine Sub.take (by repeat (first | exact Take.here | apply Take.there | apply Take.app)) ?_ | refine Sub.takeE (by repeat (first | exact TakeE.here | apply TakeE.there | apply TakeE.app)) ?_ | exact Sub.nil _ | apply Sub.drop | apply Sub.dropE))⟩
          · refine sr_nil ?_
            refine aw_keep (keep_cons (t := 1) rfl (keep_cons (t := 4) rfl (keep_cons (t := 5) rfl (keep_cons (t := 7) rfl (keep_cons (t := 8) rfl (keep_cons (t := 9) rfl (keep_cons (t := 13) rfl (keep_cons (t := 50) rfl (keep_cons (t := 51) rfl (keep_cons (t := 52) rfl (keep_cons (t := 53) rfl (keep_cons (t := 54) rfl (keep_cons (t := 55) rfl (keep_cons (t := 56) rfl (keep_cons (t := 57) rfl (keep_cons (t := 60) rfl (keep_cons (t := 61) rfl (keep_cons (t := 62) rfl (keep_cons (t := 63) rfl (keep_cons (t := 64) rfl (keep_cons (t := 65) rfl (keep_cons (t := 75) rfl (keep_cons (t := 76) rfl (keep_cons (t := 122) rfl (keep_cons (t := 123) rfl (keep_cons (t := 124) rfl (keep_cons (t := 125) rfl (keep_cons (t := 126) rfl (keep_cons (t := 127) rfl (keep_cons (t := 128) rfl (keep_cons (t := 130) rfl (keep_cons (t := 131) rfl (keep_cons (t := 132) rfl (keep_cons (t := 133) rfl (keep_cons (t := 134) rfl (keep_cons (t := 136) rfl (keep_cons (t := 137) rfl (keep_cons (t := 138) rfl (keep_cons (t := 139) rfl (keep_cons (t := 140) rfl (keep_cons (t := 141) rfl keep_nil))))))))))))))))))))))))))))))))))))))))) ?_
            refine aw_false rfl ?_
            refine aw_skip ?_
            show AW _ _ _ _ _ _ _
            refine aw_seq_dr ⟨_, 14, 164, [[], [0], [], [2], [2, 3], [2, 3, 4], [2, 3, 4, 5], [0, 1, 2, 3, 4, 5, 6], [0, 1, 2, 3, 4, 5, 6, 7], [0, 1, 2, 3, 4, 5, 6, 7, 8], [0, 1, 2, 3, 4, 5, 6, 7, 8, 9], [0, 1, 2, 3, 4, 5, 6, 7, 8], [0, 1, 2, 3, 4, 5, 6, 7, 8, 9, 10, 11], [0, 1, 2, 3, 4, 5, 6, 7, 8, 9, 10, 11, 12]], [.light, .call, .light, .light, .light, .mem, .light, .light, .light, .light, .call, .light, .light, .light]⟩ (by kernel_rfl) rfl rfl mix ?_
            refine dr_light rfl rfl (wtd_none rfl) (x_move rfl) ?_
            refine dr_callq0 rfl rfl (wtd_none rfl) (opS_F rfl rfl rfl rfl cl71 ((rleft_s p r a cap W m _ (cells_ext (by repeat (first | exact List.mem_cons_self | apply List.mem_cons_of_mem | apply List.mem_append_right)) (by repeat (first | exact Ext.all _ | exact Ext.done | apply Ext.take | apply Ext.skip)))))) (⟨_, rfl⟩) ?_
            rintro _ rfl
            refine dr_light rfl rfl (wtd_none rfl) (x_move rfl) ?_
            refine dr_light rfl rfl (wtd_none rfl) (x_nilCheck rfl) ?_
            refine dr_light rfl rfl (wtd_none rfl) (x_fieldAddr fd111_1 rfl) ?_
            refine dr_mem0 rfl rfl (wtd_none rfl) (x_load ag104 rfl (cells_ext (by repeat (first | exact List.mem_cons_self | apply List.mem_cons_of_mem | apply List.mem_append_right)) (by repeat (first | exact Ext.all _ | exact Ext.done | apply Ext.take | apply Ext.skip)))) ?_
            refine dr_light rfl rfl (wtd_none rfl) (x_lenSlice Try.underlying104 rfl) ?_
            refine dr_cmp rfl rfl (wtd_none rfl) (x_ne rfl rfl) (fun h24 => absurd h24 (by first | omega | decide)) (fun h24 => ?_)
            refine dr_light rfl rfl (wtd_none rfl) (x_move rfl) ?_
            refine dr_light rfl rfl (wtd_yes rfl rfl rfl) (x_move rfl) ?_
            refine dr_callq0 rfl rfl (wtd_yes rfl rfl rfl) (opS_F rfl rfl rfl rfl cl72 ((rnext_s p r a cap W m _ (cells_ext (by repeat (first | exact List.mem_cons_self | apply List.mem_cons_of_mem | apply List.mem_append_right)) (by repeat (first | exact Ext.all _ | exact Ext.done | apply Ext.take | apply Ext.skip))) (V.slv' (fun _ => rfl) rfl (Sub.takeE0 (by repeat (first | exact TakeE.here | apply TakeE.there | apply TakeE.app))))))) (⟨_, rfl⟩) ?_
            rintro _ rfl
            refine dr_light rfl rfl (wtd_yes rfl rfl rfl) (x_move rfl) ?_
            refine dr_cmp rfl rfl (wtd_yes rfl rfl rfl) (x_ne rfl rfl) (fun h25 => absurd h25 (by first | (rw [nextL_cons he8]; simp) | (rw [nextL_nil (by omega)]; simp))) (fun h25 => ?_)
            refine dr_light rfl rfl (wtd_none rfl) (x_pick_f rfl rfl rfl) ?_
            refine dr_nil0 ?_
            refine aw_keep (keep_cons (t := 1) rfl (keep_cons (t := 4) rfl (keep_cons (t := 5) rfl (keep_cons (t := 7) rfl (keep_cons (t := 8) rfl (keep_cons (t := 9) rfl (keep_cons (t := 13) rfl (keep_cons (t := 50) rfl (keep_cons (t := 51) rfl (keep_cons (t := 52) rfl (keep_cons (t := 53) rfl (keep_cons (t := 54) rfl (keep_cons (t := 55) rfl (keep_cons (t := 56) rfl (keep_cons (t := 57) rfl (keep_cons (t := 60) rfl (keep_cons (t := 61) rfl (keep_cons (t := 62) rfl (keep_cons (t := 63) rfl (keep_cons (t := 64) rfl (keep_cons (t := 65) rfl (keep_cons (t := 75) rfl (keep_cons (t := 76) rfl (keep_cons (t := 122) rfl (keep_cons (t := 123) rfl (keep_cons (t := 124) rfl (keep_cons (t := 125) rfl (keep_cons (t := 126) rfl (keep_cons (t := 127) rfl (keep_cons (t := 128) rfl (keep_cons (t := 130) rfl (keep_cons (t := 131) rfl (keep_cons (t := 132) rfl (keep_cons (t := 133) rfl (keep_cons (t := 134) rfl (keep_cons (t := 136) rfl (keep_cons (t := 137) rfl (keep_cons (t := 138) rfl (keep_cons (t := 139) rfl (keep_cons (t := 140) rfl (keep_cons (t := 141) rfl (keep_cons (t := 149) rfl (keep_cons (t := 150) rfl (keep_cons (t := 151) rfl (keep_cons (t := 152) rfl (keep_cons (t := 153) rfl (keep_cons (t := 154) rfl (keep_cons (t := 155) rfl (keep_cons (t := 156) rfl (keep_cons (t := 157) rfl (keep_cons (t := 158) rfl (keep_cons (t := 159) rfl (keep_cons (t := 160) rfl (keep_cons (t := 161) rfl (keep_cons (t := 162) rfl keep_nil))))))))))))))))))))))))))))))))))))))))))))))))))))))) ?_
            refine aw_false rfl ?_
            refine aw_skip ?_
            show AW _ _ _ _ _ _ _
            refine aw_region ?_
            refine sr_x rfl (wtd_none rfl) rfl (Rd.x (x_move rfl)) ?_
            refine sr_x rfl (wtd_none rfl) rfl (Rd.x (x_add' rfl rfl (i64w (by omega) (by omega)))) ?_
            refine sr_x rfl (wtd_none rfl) rfl (Rd.x (x_assign rfl)) ?_
            refine sr_nil ?_
            show ∃ s', _ ∧ _ ∧ _ ∧ _
            exact ⟨⟨i + 1, W, (tkT o.id o.e.tries ts), (tkE o.id o.e.tries es clk), (tkC o.id o.e.tries es clk), a, cap, E, aw, cw, Ew, at2, ct2, Et2⟩, ⟨by dsimp only; omega, by dsimp only; omega, by dsimp only; omega, by dsimp only; omega, hsrt, (hrel.take o.id o.e.tries clk), V, VW, VT2⟩, by dsimp only; omega, (by repeat (first | exact keep_nil | refine keep_cons rfl ?_)), (by repeat (first | exact Sub.refl _ | refine Sub.take (by repeat (first | exact Take.here | apply Take.there | apply Take.app)) ?_ | refine Sub.takeE (by repeat (first | exact TakeE.here | apply TakeE.there | apply TakeE.app)) ?_ | exact Sub.nil _ | apply Sub.drop | apply Sub.dropE))⟩
        · refine sr_x rfl (wtd_none rfl) rfl (Rd.x (x_assign rfl)) ?_
          refine sr_nil ?_
          refine aw_keep (keep_cons (t := 1) rfl (keep_cons (t := 4) rfl (keep_cons (t := 5) rfl (keep_cons (t := 7) rfl (keep_cons (t := 8) rfl (keep_cons (t := 9) rfl (keep_cons (t := 50) rfl (keep_cons (t := 51) rfl (keep_cons (t := 52) rfl (keep_cons (t := 53) rfl (keep_cons (t := 54) rfl (keep_cons (t := 55) rfl (keep_cons (t := 56) rfl (keep_cons (t := 57) rfl (keep_cons (t := 60) rfl (keep_cons (t := 61) rfl (keep_cons (t := 62) rfl (keep_cons (t := 63) rfl (keep_cons (t := 64) rfl (keep_cons (t := 65) rfl (keep_cons (t := 75) rfl (keep_cons (t := 76) rfl (keep_cons (t := 122) rfl (keep_cons (t := 123) rfl keep_nil)))))))))))))))))))))))) ?_
          refine aw_false rfl ?_
          refine aw_seq_drX (G := pool p r (.slice a W.length cap) m :: rmap m es clk :: (E ++ (plain q r (.slice aw W.length cw) (.slice at_ ts.length ct) :: (Ew ++ (Et ++ []))))) (X := [(r10_4, .cells (ROp.cells o).toArray 115 (0, 0))]) ⟨_, 9, 164, [[], [], [1], [0, 1, 2], [], [], [5], [0, 1, 2, 3, 4, 5, 6], [0, 1, 2, 3, 4, 5, 6, 7]], [.light, .light, .light, .eff, .light, .light, .light, .eff, .light]⟩ (by kernel_rfl) rfl rfl mix (Sub.of_perm List.perm_append_comm) ?_
          refine dr_light rfl rfl (wtd_none rfl) (x_move rfl) ?_
          refine dr_light rfl rfl (wtd_none rfl) (x_fieldAddr fd115_1 rfl) ?_
          refine dr_fix rfl rfl (wtd_none rfl) (x_loadN ag91 sz91 rfl (cells_ext (vs := o.j.cells) (n := 10) (by repeat (first | exact List.mem_cons_self | apply List.mem_cons_of_mem | apply List.mem_append_right)) (by repeat (first | exact Ext.done | apply Ext.take | apply Ext.skip))) rfl) ?_
          refine dr_effC rfl (V := []) rfl (L' := []) (clear_all rfl) rfl (wtd_none rfl) rfl rfl rfl rfl cl69 (AC.sub (by repeat (first | exact Sub.refl _ | refine Sub.take (by repeat (first | exact Take.here | apply Take.there | apply Take.app)) ?_ | refine Sub.takeE (by repeat (first | exact TakeE.here | apply TakeE.there | apply TakeE.app)) ?_ | exact Sub.nil _ | apply Sub.drop | apply Sub.dropE)) (rendedP_s p r m es clk hrel.1 o.j (triesN ts o.j.id) (hrel.2.2 _) a cap W E (plain q r (.slice aw W.length cw) (.slice at_ ts.length ct) :: (Ew ++ (Et ++ []))) V (by omega) hsrt)) ?_
          rintro _ _ hend
          obtain ⟨hy, i9, a3, c3, E3, hi9, V3, rfl, rfl⟩ | ⟨hno, rfl, rfl⟩ := hend
          · refine dr_light rfl rfl (wtd_none rfl) (x_move rfl) ?_
            refine dr_light rfl rfl (wtd_none rfl) (x_fieldAddr fd115_1 rfl) ?_
            refine dr_fix rfl rfl (wtd_none rfl) (x_loadN ag91 sz91 rfl (cells_ext (vs := o.j.cells) (n := 10) (by repeat (first | exact List.mem_cons_self | apply List.mem_cons_of_mem | apply List.mem_append_right)) (by repeat (first | exact Ext.done | apply Ext.take | apply Ext.skip))) rfl) ?_
            refine dr_effC rfl (V := []) rfl (L' := []) (clear_all rfl) rfl (wtd_none rfl) rfl rfl rfl rfl cl70 (AC.sub (by repeat (first | exact Sub.refl _ | refine Sub.take (by repeat (first | exact Take.here | apply Take.there | apply Take.app)) ?_ | refine Sub.takeE (by repeat (first | exact TakeE.here | apply TakeE.there | apply TakeE.app)) ?_ | exact Sub.nil _ | apply Sub.drop | apply Sub.dropE)) (pended_yes q r aw cw W Ew at_ ct ts Et (pool p r (.slice a3 (insE W i9 (⟨satAdd [o.j.fin, waitL r (triesN ts o.j.id)], (triesN ts o.j.id) + 1, ⟨1, 0, o.j.user, o.j.width, limitL r o.j.limit (triesN ts o.j.id), o.j.prio, false, 0, 0⟩⟩ : Entry)).length c3) m :: rmap m (mdel o.j.id es) clk :: (E3 ++ [])) VW (by omega) VT (by omega) o.j hsrt hy)) ?_
            rintro _ _ ⟨i8, s5, E5, s6, Et2, hi8, V5, VT2, rfl, rfl⟩
            obtain rfl : i8 = i9 := hi8.uniq hi9
            have hil : (insE W i8 (⟨satAdd [o.j.fin, waitL r (triesN ts o.j.id)], (triesN ts o.j.id) + 1, ⟨1, 0, o.j.user, o.j.width, limitL r o.j.limit (triesN ts o.j.id), o.j.prio, false, 0, 0⟩⟩ : Entry)).length = W.length + 1 := insE_len hi9.1
            rw [← hil] at V5
            have hs2 := srtE_ins (e := (⟨satAdd [o.j.fin, waitL r (triesN ts o.j.id)], (triesN ts o.j.id) + 1, ⟨1, 0, o.j.user, o.j.width, limitL r o.j.limit (triesN ts o.j.id), o.j.prio, false, 0, 0⟩⟩ : Entry)) hsrt hi9
            generalize insE W i8 (⟨satAdd [o.j.fin, waitL r (triesN ts o.j.id)], (triesN ts o.j.id) + 1, ⟨1, 0, o.j.user, o.j.width, limitL r o.j.limit (triesN ts o.j.id), o.j.prio, false, 0, 0⟩⟩ : Entry) = W2 at V3 V5 hs2 hil ⊢
            obtain ⟨a5, c5, rfl⟩ := V5.isSl
            obtain ⟨at2, ct2, rfl⟩ := VT2.isSl
            have htl2 := tdel_len (id := o.j.id) (ts := ts)
            refine dr_light rfl rfl (wtd_none rfl) (x_neb Try.underlying4 rfl rfl) ?_
            refine dr_nil0 ?_
            refine aw_keep (keep_cons (t := 1) rfl (keep_cons (t := 4) rfl (keep_cons (t := 5) rfl (keep_cons (t := 7) rfl (keep_cons (t := 8) rfl (keep_cons (t := 9) rfl (keep_cons (t := 50) rfl (keep_cons (t := 51) rfl (keep_cons (t := 52) rfl (keep_cons (t := 53) rfl (keep_cons (t := 54) rfl (keep_cons (t := 55) rfl (keep_cons (t := 56) rfl (keep_cons (t := 57) rfl (keep_cons (t := 60) rfl (keep_cons (t := 61) rfl (keep_cons (t := 62) rfl (keep_cons (t := 63) rfl (keep_cons (t := 64) rfl (keep_cons (t := 65) rfl (keep_cons (t := 66) rfl (keep_cons (t := 67) rfl (keep_cons (t := 68) rfl (keep_cons (t := 69) rfl (keep_cons (t := 70) rfl (keep_cons (t := 71) rfl (keep_cons (t := 72) rfl (keep_cons (t := 73) rfl (keep_cons (t := 74) rfl (keep_cons (t := 75) rfl (keep_cons (t := 76) rfl (keep_cons (t := 122) rfl (keep_cons (t := 123) rfl keep_nil))))))))))))))))))))))))))))))))) ?_
            refine aw_false rfl ?_
            refine aw_skip ?_
            show AW _ _ _ _ _ _ _
            refine aw_seq_region ?_
            refine sr_x rfl (wtd_none rfl) rfl (Rd.x (x_assign rfl)) ?_
            refine sr_nil ?_
            refine aw_keep (keep_cons (t := 1) rfl (keep_cons (t := 4) rfl (keep_cons (t := 5) rfl (keep_cons (t := 7) rfl (keep_cons (t := 8) rfl (keep_cons (t := 9) rfl (keep_cons (t := 13) rfl (keep_cons (t := 50) rfl (keep_cons (t := 51) rfl (keep_cons (t := 52) rfl (keep_cons (t := 53) rfl (keep_cons (t := 54) rfl (keep_cons (t := 55) rfl (keep_cons (t := 56) rfl (keep_cons (t := 57) rfl (keep_cons (t := 60) rfl (keep_cons (t := 61) rfl (keep_cons (t := 62) rfl (keep_cons (t := 63) rfl (keep_cons (t := 64) rfl (keep_cons (t := 65) rfl (keep_cons (t := 66) rfl (keep_cons (t := 67) rfl (keep_cons (t := 68) rfl (keep_cons (t := 69) rfl (keep_cons (t := 70) rfl (keep_cons (t := 71) rfl (keep_cons (t := 72) rfl (keep_cons (t := 73) rfl (keep_cons (t := 74) rfl (keep_cons (t := 75) rfl (keep_cons (t := 76) rfl (keep_cons (t := 122) rfl (keep_cons (t := 123) rfl keep_nil)))))))))))))))))))))))))))))))))) ?_
            refine aw_seq ?_
            refine aw_seq_region ?_
            refine sr_x rfl (wtd_none rfl) rfl (Rd.x (x_move rfl)) ?_
            refine sr_x rfl (wtd_none rfl) rfl (Rd.x (x_nilCheck rfl)) ?_
            refine sr_x rfl (wtd_none rfl) rfl (Rd.x (x_fieldAddr fd111_1 rfl)) ?_
            refine sr_x rfl (wtd_none rfl) rfl (Rd.x (x_load ag104 rfl (cells_ext (by repeat (first | exact List.mem_cons_self | apply List.mem_cons_of_mem | apply List.mem_append_right)) (by repeat (first | exact Ext.all _ | exact Ext.done | apply Ext.take | apply Ext.skip))))) ?_
            refine sr_x rfl (wtd_none rfl) rfl (Rd.x (x_lenSlice Try.underlying104 rfl)) ?_
            refine sr_cmp rfl (wtd_none rfl) rfl (Rd.x (x_gt rfl rfl)) (fun h26 => ?_) (fun h26 => ?_)
            · refine sr_nil ?_
              refine aw_keep (keep_cons (t := 1) rfl (keep_cons (t := 4) rfl (keep_cons (t := 5) rfl (keep_cons (t := 7) rfl (keep_cons (t := 8) rfl (keep_cons (t := 9) rfl (keep_cons (t := 13) rfl (keep_cons (t := 50) rfl (keep_cons (t := 51) rfl (keep_cons (t := 52) rfl (keep_cons (t := 53) rfl (keep_cons (t := 54) rfl (keep_cons (t := 55) rfl (keep_cons (t := 56) rfl (keep_cons (t := 57) rfl (keep_cons (t := 60) rfl (keep_cons (t := 61) rfl (keep_cons (t := 62) rfl (keep_cons (t := 63) rfl (keep_cons (t := 64) rfl (keep_cons (t := 65) rfl (keep_cons (t := 66) rfl (keep_cons (t := 67) rfl (keep_cons (t := 68) rfl (keep_cons (t := 69) rfl (keep_cons (t := 70) rfl (keep_cons (t := 71) rfl (keep_cons (t := 72) rfl (keep_cons (t := 73) rfl (keep_cons (t := 74) rfl (keep_cons (t := 75) rfl (keep_cons (t := 76) rfl (keep_cons (t := 122) rfl (keep_cons (t := 123) rfl (keep_cons (t := 136) rfl (keep_cons (t := 137) rfl (keep_cons (t := 138) rfl (keep_cons (t := 139) rfl (keep_cons (t := 140) rfl (keep_cons (t := 141) rfl keep_nil)))))))))))))))))))))))))))))))))))))))) ?_
              refine aw_true rfl ?_
              refine aw_region ?_
              obtain ⟨e8, he8⟩ := get_ex (show 0 < W2.length by omega)
              obtain ⟨b8, o8, ha8, hc8⟩ := (V5.slv' (W0 := W0) (fun _ => rfl) rfl (Sub.refl _)).at_ 0 _ he8
              refine sr_x rfl (wtd_none rfl) rfl (Rd.x (x_move rfl)) ?_
              refine sr_x rfl (wtd_none rfl) rfl (Rd.x (x_nilCheck rfl)) ?_
              refine sr_x rfl (wtd_none rfl) rfl (Rd.x (x_fieldAddr fd111_1 rfl)) ?_
              refine sr_x rfl (wtd_none rfl) rfl (Rd.x (x_load ag104 rfl (cells_ext (by repeat (first | exact List.mem_cons_self | apply List.mem_cons_of_mem | apply List.mem_append_right)) (by repeat (first | exact Ext.all _ | exact Ext.done | apply Ext.take | apply Ext.skip))))) ?_
              refine sr_x rfl (wtd_none rfl) rfl (Rd.x (x_indexAddrN 0 Try.underlying104 sz113 rfl ha8 rfl (by omega) (by omega))) ?_
              refine sr_x rfl (wtd_none rfl) rfl (Rd.x (x_fieldAddr fd113_0 rfl)) ?_
              refine sr_x rfl (wtd_none rfl) rfl (Rd.x (x_load ag2 rfl (cells_get (Cells.mono hc8 (Sub.takeE0 (by repeat (first | exact TakeE.here | apply TakeE.there | apply TakeE.app)))) 0 rfl))) ?_
              refine sr_x rfl (wtd_none rfl) rfl (Rd.x (x_assign rfl)) ?_
              refine sr_nil ?_
              show AW _ _ _ _ _ _ _
              refine aw_seq_dr ⟨_, 14, 164, [[], [0], [], [2], [2, 3], [2, 3, 4], [2, 3, 4, 5], [0, 1, 2, 3, 4, 5, 6], [0, 1, 2, 3, 4, 5, 6, 7], [0, 1, 2, 3, 4, 5, 6, 7, 8], [0, 1, 2, 3, 4, 5, 6, 7, 8, 9], [0, 1, 2, 3, 4, 5, 6, 7, 8], [0, 1, 2, 3, 4, 5, 6, 7, 8, 9, 10, 11], [0, 1, 2, 3, 4, 5, 6, 7, 8, 9, 10, 11, 12]], [.light, .call, .light, .light, .light, .mem, .light, .light, .light, .light, .call, .light, .light, .light]⟩ (by kernel_rfl) rfl rfl mix ?_
              refine dr_light rfl rfl (wtd_none rfl) (x_move rfl) ?_
              refine dr_callq0 rfl rfl (wtd_none rfl) (opS_F rfl rfl rfl rfl cl71 ((rleft_s p r a3 c3 W2 m _ (cells_ext (by repeat (first | exact List.mem_cons_self | apply List.mem_cons_of_mem | apply List.mem_append_right)) (by repeat (first | exact Ext.all _ | exact Ext.done | apply Ext.take | apply Ext.skip)))))) (⟨_, rfl⟩) ?_
              rintro _ rfl
              refine dr_light rfl rfl (wtd_none rfl) (x_move rfl) ?_
              refine dr_light rfl rfl (wtd_none rfl) (x_nilCheck rfl) ?_
              refine dr_light rfl rfl (wtd_none rfl) (x_fieldAddr fd111_1 rfl) ?_
              refine dr_mem0 rfl rfl (wtd_none rfl) (x_load ag104 rfl (cells_ext (by repeat (first | exact List.mem_cons_self | apply List.mem_cons_of_mem | apply List.mem_append_right)) (by repeat (first | exact Ext.all _ | exact Ext.done | apply Ext.take | apply Ext.skip)))) ?_
              refine dr_light rfl rfl (wtd_none rfl) (x_lenSlice Try.underlying104 rfl) ?_
              refine dr_cmp rfl rfl (wtd_none rfl) (x_ne rfl rfl) (fun h27 => absurd h27 (by first | omega | decide)) (fun h27 => ?_)
              refine dr_light rfl rfl (wtd_none rfl) (x_move rfl) ?_
              refine dr_light rfl rfl (wtd_yes rfl rfl rfl) (x_move rfl) ?_
              refine dr_callq0 rfl rfl (wtd_yes rfl rfl rfl) (opS_F rfl rfl rfl rfl cl72 ((rnext_s p r a3 c3 W2 m _ (cells_ext (by repeat (first | exact List.mem_cons_self | apply List.mem_cons_of_mem | apply List.mem_append_right)) (by repeat (first | exact Ext.all _ | exact Ext.done | apply Ext.take | apply Ext.skip))) (V3.slv' (fun _ => rfl) rfl (Sub.takeE0 (by repeat (first | exact TakeE.here | apply TakeE.there | apply TakeE.app))))))) (⟨_, rfl⟩) ?_
              rintro _ rfl
              refine dr_light rfl rfl (wtd_yes rfl rfl rfl) (x_move rfl) ?_
              refine dr_cmp rfl rfl (wtd_yes rfl rfl rfl) (x_ne rfl rfl) (fun h28 => absurd h28 (by first | (rw [nextL_cons he8]; simp) | (rw [nextL_nil (by omega)]; simp))) (fun h28 => ?_)
              refine dr_light rfl rfl (wtd_none rfl) (x_pick_f rfl rfl rfl) ?_
              refine dr_nil0 ?_
              refine aw_keep (keep_cons (t := 1) rfl (keep_cons (t := 4) rfl (keep_cons (t := 5) rfl (keep_cons (t := 7) rfl (keep_cons (t := 8) rfl (keep_cons (t := 9) rfl (keep_cons (t := 13) rfl (keep_cons (t := 50) rfl (keep_cons (t := 51) rfl (keep_cons (t := 52) rfl (keep_cons (t := 53) rfl (keep_cons (t := 54) rfl (keep_cons (t := 55) rfl (keep_cons (t := 56) rfl (keep_cons (t := 57) rfl (keep_cons (t := 60) rfl (keep_cons (t := 61) rfl (keep_cons (t := 62) rfl (keep_cons (t := 63) rfl (keep_cons (t := 64) rfl (keep_cons (t := 65) rfl (keep_cons (t := 66) rfl (keep_cons (t := 67) rfl (keep_cons (t := 68) rfl (keep_cons (t := 69) rfl (keep_cons (t := 70) rfl (keep_cons (t := 71) rfl (keep_cons (t := 72) rfl (keep_cons (t := 73) rfl (keep_cons (t := 74) rfl (keep_cons (t := 75) rfl (keep_cons (t := 76) rfl (keep_cons (t := 122) rfl (keep_cons (t := 123) rfl (keep_cons (t := 136) rfl (keep_cons (t := 137) rfl (keep_cons (t := 138) rfl (keep_cons (t := 139) rfl (keep_cons (t := 140) rfl (keep_cons (t := 141) rfl (keep_cons (t := 142) rfl (keep_cons (t := 143) rfl (keep_cons (t := 144) rfl (keep_cons (t := 145) rfl (keep_cons (t := 146) rfl (keep_cons (t := 147) rfl (keep_cons (t := 148) rfl (keep_cons (t := 149) rfl (keep_cons (t := 150) rfl (keep_cons (t := 151) rfl (keep_cons (t := 152) rfl (keep_cons (t := 153) rfl (keep_cons (t := 154) rfl (keep_cons (t := 155) rfl (keep_cons (t := 156) rfl (keep_cons (t := 157) rfl (keep_cons (t := 158) rfl (keep_cons (t := 159) rfl (keep_cons (t := 160) rfl (keep_cons (t := 161) rfl (keep_cons (t := 162) rfl keep_nil))))))))))))))))))))))))))))))))))))))))))))))))))))))))))))) ?_
              refine aw_false rfl ?_
              refine aw_skip ?_
              show AW _ _ _ _ _ _ _
              refine aw_region ?_
              refine sr_x rfl (wtd_none rfl) rfl (Rd.x (x_move rfl)) ?_
              refine sr_x rfl (wtd_none rfl) rfl (Rd.x (x_add' rfl rfl (i64w (by omega) (by omega)))) ?_
              refine sr_x rfl (wtd_none rfl) rfl (Rd.x (x_assign rfl)) ?_
              refine sr_nil ?_
              show ∃ s', _ ∧ _ ∧ _ ∧ _
              exact ⟨⟨i + 1, W2, (tdel o.j.id ts), (mdel o.j.id es), clk, a3, c3, E3, a5, c5, E5, at2, ct2, Et2⟩, ⟨by dsimp only; omega, by dsimp only; omega, by dsimp only; omega, by dsimp only; omega, hs2, (hrel.del o.j.id), V3, V5, VT2⟩, by dsimp only; omega, (by repeat (first | exact keep_nil | refine keep_cons rfl ?_)), (by repeat (first | exact Sub.refl _ | refine Sub.take (by repeat (first | exact Take.here | apply Take.there | apply Take.app)) ?_ | refine Sub.takeE (by repeat (first | exact TakeE.here | apply TakeE.there | apply TakeE.app)) ?_ | exact Sub.nil _ | apply Sub.drop | apply Sub.dropE))⟩
            · refine sr_nil ?_
              refine aw_keep (keep_cons (t := 1) rfl (keep_cons (t := 4) rfl (keep_cons (t := 5) rfl (keep_cons (t := 7) rfl (keep_cons (t := 8) rfl (keep_cons (t := 9) rfl (keep_cons (t := 13) rfl (keep_cons (t := 50) rfl (keep_cons (t := 51) rfl (keep_cons (t := 52) rfl (keep_cons (t := 53) rfl (keep_cons (t := 54) rfl (keep_cons (t := 55) rfl (keep_cons (t := 56) rfl (keep_cons (t := 57) rfl (keep_cons (t := 60) rfl (keep_cons (t := 61) rfl (keep_cons (t := 62) rfl (keep_cons (t := 63) rfl (keep_cons (t := 64) rfl (keep_cons (t := 65) rfl (keep_cons (t := 66) rfl (keep_cons (t := 67) rfl (keep_cons (t := 68) rfl (keep_cons (t := 69) rfl (keep_cons (t := 70) rfl (keep_cons (t := 71) rfl (keep_cons (t := 72) rfl (keep_cons (t := 73) rfl (keep_cons (t := 74) rfl (keep_cons (t := 75) rfl (keep_cons (t := 76) rfl (keep_cons (t := 122) rfl (keep_cons (t := 123) rfl (keep_cons (t := 136) rfl (keep_cons (t := 137) rfl (keep_cons (t := 138) rfl (keep_cons (t := 139) rfl (keep_cons (t := 140) rfl (keep_cons (t := 141) rfl keep_nil)))))))))))))))))))))))))))))))))))))))) ?_
              refine aw_false rfl ?_
              refine aw_skip ?_
              show AW _ _ _ _ _ _ _
              refine aw_seq_dr ⟨_, 14, 164, [[], [0], [], [2], [2, 3], [2, 3, 4], [2, 3, 4, 5], [0, 1, 2, 3, 4, 5, 6], [0, 1, 2, 3, 4, 5, 6, 7], [0, 1, 2, 3, 4, 5, 6, 7, 8], [0, 1, 2, 3, 4, 5, 6, 7, 8, 9], [0, 1, 2, 3, 4, 5, 6, 7, 8], [0, 1, 2, 3, 4, 5, 6, 7, 8, 9, 10, 11], [0, 1, 2, 3, 4, 5, 6, 7, 8, 9, 10, 11, 12]], [.light, .call, .light, .light, .light, .mem, .light, .light, .light, .light, .call, .light, .light, .light]⟩ (by kernel_rfl) rfl rfl mix ?_
              refine dr_light rfl rfl (wtd_none rfl) (x_move rfl) ?_
              refine dr_callq0 rfl rfl (wtd_none rfl) (opS_F rfl rfl rfl rfl cl71 ((rleft_s p r a3 c3 W2 m _ (cells_ext (by repeat (first | exact List.mem_cons_self | apply List.mem_cons_of_mem | apply List.mem_append_right)) (by repeat (first | exact Ext.all _ | exact Ext.done | apply Ext.take | apply Ext.skip)))))) (⟨_, rfl⟩) ?_
              rintro _ rfl
              refine dr_light rfl rfl (wtd_none rfl) (x_move rfl) ?_
              refine dr_light rfl rfl (wtd_none rfl) (x_nilCheck rfl) ?_
              refine dr_light rfl rfl (wtd_none rfl) (x_fieldAddr fd111_1 rfl) ?_
              refine dr_mem0 rfl rfl (wtd_none rfl) (x_load ag104 rfl (cells_ext (by repeat (first | exact List.mem_cons_self | apply List.mem_cons_of_mem | apply List.mem_append_right)) (by repeat (first | exact Ext.all _ | exact Ext.done | apply Ext.take | apply Ext.skip)))) ?_
              refine dr_light rfl rfl (wtd_none rfl) (x_lenSlice Try.underlying104 rfl) ?_
              refine dr_cmp rfl rfl (wtd_none rfl) (x_ne rfl rfl) (fun h29 => absurd h29 (by first | omega | decide)) (fun h29 => ?_)
              refine dr_light rfl rfl (wtd_none rfl) (x_move rfl) ?_
              refine dr_light rfl rfl (wtd_yes rfl rfl rfl) (x_move rfl) ?_
              refine dr_callq0 rfl rfl (wtd_yes rfl rfl rfl) (opS_F rfl rfl rfl rfl cl72 ((rnext_s p r a3 c3 W2 m _ (cells_ext (by repeat (first | exact List.mem_cons_self | apply List.mem_cons_of_mem | apply List.mem_append_right)) (by repeat (first | exact Ext.all _ | exact Ext.done | apply Ext.take | apply Ext.skip))) (V3.slv' (fun _ => rfl) rfl (Sub.takeE0 (by repeat (first | exact TakeE.here | apply TakeE.there | apply TakeE.app))))))) (⟨_, rfl⟩) ?_
              rintro _ rfl
              refine dr_light rfl rfl (wtd_yes rfl rfl rfl) (x_move rfl) ?_
              refine dr_cmp rfl rfl (wtd_yes rfl rfl rfl) (x_ne rfl rfl) (fun h30 => absurd h30 (by first | (rw [nextL_cons he8]; simp) | (rw [nextL_nil (by omega)]; simp))) (fun h30 => ?_)
              refine dr_light rfl rfl (wtd_none rfl) (x_pick_f rfl rfl rfl) ?_
              refine dr_nil0 ?_
              refine aw_keep (keep_cons (t := 1) rfl (keep_cons (t := 4) rfl (keep_cons (t := 5) rfl (keep_cons (t := 7) rfl (keep_cons (t := 8) rfl (keep_cons (t := 9) rfl (keep_cons (t := 13) rfl (keep_cons (t := 50) rfl (keep_cons (t := 51) rfl (keep_cons (t := 52) rfl (keep_cons (t := 53) rfl (keep_cons (t := 54) rfl (keep_cons (t := 55) rfl (keep_cons (t := 56) rfl (keep_cons (t := 57) rfl (keep_cons (t := 60) rfl (keep_cons (t := 61) rfl (keep_cons (t := 62) rfl (keep_cons (t := 63) rfl (keep_cons (t := 64) rfl (keep_cons (t := 65) rfl (keep_cons (t := 66) rfl (keep_cons (t := 67) rfl (keep_cons (t := 68) rfl (keep_cons (t := 69) rfl (keep_cons (t := 70) rfl (keep_cons (t := 71) rfl (keep_cons (t := 72) rfl (keep_cons (t := 73) rfl (keep_cons (t := 74) rfl (keep_cons (t := 75) rfl (keep_cons (t := 76) rfl (keep_cons (t := 122) rfl (keep_cons (t := 123) rfl (keep_cons (t := 136) rfl (keep_cons (t := 137) rfl (keep_cons (t := 138) rfl (keep_cons (t := 139) rfl (keep_cons (t := 140) rfl (keep_cons (t := 141) rfl (keep_cons (t := 149) rfl (keep_cons (t := 150) rfl (keep_cons (t := 151) rfl (keep_cons (t := 152) rfl (keep_cons (t := 153) rfl (keep_cons (t := 154) rfl (keep_cons (t := 155) rfl (keep_cons (t := 156) rfl (keep_cons (t := 157) rfl (keep_cons (t := 158) rfl (keep_cons (t := 159) rfl (keep_cons (t := 160) rfl (keep_cons (t := 161) rfl (keep_cons (t := 162) rfl keep_nil)))))))))))))))))))))))))))))))))))))))))))))))))))))) ?_
              refine aw_false rfl ?_
              refine aw_skip ?_
              show AW _ _ _ _ _ _ _
              refine aw_region ?_
              refine sr_x rfl (wtd_none rfl) rfl (Rd.x (x_move rfl)) ?_
              refine sr_x rfl (wtd_none rfl) rfl (Rd.x (x_add' rfl rfl (i64w (by omega) (by omega)))) ?_
              refine sr_x rfl (wtd_none rfl) rfl (Rd.x (x_assign rfl)) ?_
              refine sr_nil ?_
              show ∃ s', _ ∧ _ ∧ _ ∧ _
              exact ⟨⟨i + 1, W2, (tdel o.j.id ts), (mdel o.j.id es), clk, a3, c3, E3, a5, c5, E5, at2, ct2, Et2⟩, ⟨by dsimp only; omega, by dsimp only; omega, by dsimp only; omega, by dsimp only; omega, hs2, (hrel.del o.j.id), V3, V5, VT2⟩, by dsimp only; omega, (by repeat (first | exact keep_nil | refine keep_cons rfl ?_)), (by repeat (first | exact Sub.refl _ | refine Sub.take (by repeat (first | exact Take.here | apply Take.there | apply Take.app)) ?_ | refine Sub.takeE (by repeat (first | exact TakeE.here | apply TakeE.there | apply TakeE.app)) ?_ | exact Sub.nil _ | apply Sub.drop | apply Sub.dropE))⟩
          · refine dr_light rfl rfl (wtd_none rfl) (x_move rfl) ?_
            refine dr_light rfl rfl (wtd_none rfl) (x_fieldAddr fd115_1 rfl) ?_
            refine dr_fix rfl rfl (wtd_none rfl) (x_loadN ag91 sz91 rfl (cells_ext (vs := o.j.cells) (n := 10) (by repeat (first | exact List.mem_cons_self | apply List.mem_cons_of_mem | apply List.mem_append_right)) (by repeat (first | exact Ext.done | apply Ext.take | apply Ext.skip))) rfl) ?_
            refine dr_effC rfl (V := []) rfl (L' := []) (clear_all rfl) rfl (wtd_none rfl) rfl rfl rfl rfl cl70 (AC.sub (by repeat (first | exact Sub.refl _ | refine Sub.take (by repeat (first | exact Take.here | apply Take.there | apply Take.app)) ?_ | refine Sub.takeE (by repeat (first | exact TakeE.here | apply TakeE.there | apply TakeE.app)) ?_ | exact Sub.nil _ | apply Sub.drop | apply Sub.dropE)) (pended_no q r aw cw W Ew at_ ct ts Et (pool p r (.slice a W.length cap) m :: rmap m (mdel o.j.id es) clk :: (E ++ [])) VW (by omega) VT (by omega) o.j hno)) ?_
            rintro _ _ ⟨s6, Et2, VT2, rfl, rfl⟩
            obtain ⟨at2, ct2, rfl⟩ := VT2.isSl
            have htl2 := tdel_len (id := o.j.id) (ts := ts)
            refine dr_light rfl rfl (wtd_none rfl) (x_neb Try.underlying4 rfl rfl) ?_
            refine dr_nil0 ?_
            refine aw_keep (keep_cons (t := 1) rfl (keep_cons (t := 4) rfl (keep_cons (t := 5) rfl (keep_cons (t := 7) rfl (keep_cons (t := 8) rfl (keep_cons (t := 9) rfl (keep_cons (t := 50) rfl (keep_cons (t := 51) rfl (keep_cons (t := 52) rfl (keep_cons (t := 53) rfl (keep_cons (t := 54) rfl (keep_cons (t := 55) rfl (keep_cons (t := 56) rfl (keep_cons (t := 57) rfl (keep_cons (t := 60) rfl (keep_cons (t := 61) rfl (keep_cons (t := 62) rfl (keep_cons (t := 63) rfl (keep_cons (t := 64) rfl (keep_cons (t := 65) rfl (keep_cons (t := 66) rfl (keep_cons (t := 67) rfl (keep_cons (t := 68) rfl (keep_cons (t := 69) rfl (keep_cons (t := 70) rfl (keep_cons (t := 71) rfl (keep_cons (t := 72) rfl (keep_cons (t := 73) rfl (keep_cons (t := 74) rfl (keep_cons (t := 75) rfl (keep_cons (t := 76) rfl (keep_cons (t := 122) rfl (keep_cons (t := 123) rfl keep_nil))))))))))))))))))))))))))))))))) ?_
            refine aw_false rfl ?_
            refine aw_skip ?_
            show AW _ _ _ _ _ _ _
            refine aw_seq_region ?_
            refine sr_x rfl (wtd_none rfl) rfl (Rd.x (x_assign rfl)) ?_
            refine sr_nil ?_
            refine aw_keep (keep_cons (t := 1) rfl (keep_cons (t := 4) rfl (keep_cons (t := 5) rfl (keep_cons (t := 7) rfl (keep_cons (t := 8) rfl (keep_cons (t := 9) rfl (keep_cons (t := 13) rfl (keep_cons (t := 50) rfl (keep_cons (t := 51) rfl (keep_cons (t := 52) rfl (keep_cons (t := 53) rfl (keep_cons (t := 54) rfl (keep_cons (t := 55) rfl (keep_cons (t := 56) rfl (keep_cons (t := 57) rfl (keep_cons (t := 60) rfl (keep_cons (t := 61) rfl (keep_cons (t := 62) rfl (keep_cons (t := 63) rfl (keep_cons (t := 64) rfl (keep_cons (t := 65) rfl (keep_cons (t := 66) rfl (keep_cons (t := 67) rfl (keep_cons (t := 68) rfl (keep_cons (t := 69) rfl (keep_cons (t := 70) rfl (keep_cons (t := 71) rfl (keep_cons (t := 72) rfl (keep_cons (t := 73) rfl (keep_cons (t := 74) rfl (keep_cons (t := 75) rfl (keep_cons (t := 76) rfl (keep_cons (t := 122) rfl (keep_cons (t := 123) rfl keep_nil)))))))))))))))))))))))))))))))))) ?_
            refine aw_seq ?_
            refine aw_seq_region ?_
            refine sr_x rfl (wtd_none rfl) rfl (Rd.x (x_move rfl)) ?_
            refine sr_x rfl (wtd_none rfl) rfl (Rd.x (x_nilCheck rfl)) ?_
            refine sr_x rfl (wtd_none rfl) rfl (Rd.x (x_fieldAddr fd111_1 rfl)) ?_
            refine sr_x rfl (wtd_none rfl) rfl (Rd.x (x_load ag104 rfl (cells_ext (by repeat (first | exact List.mem_cons_self | apply List.mem_cons_of_mem | apply List.mem_append_right)) (by repeat (first | exact Ext.all _ | exact Ext.done | apply Ext.take | apply Ext.skip))))) ?_
            refine sr_x rfl (wtd_none rfl) rfl (Rd.x (x_lenSlice Try.underlying104 rfl)) ?_
            refine sr_cmp rfl (wtd_none rfl) rfl (Rd.x (x_gt rfl rfl)) (fun h31 => ?_) (fun h31 => ?_)
            · refine sr_nil ?_
              refine aw_keep (keep_cons (t := 1) rfl (keep_cons (t := 4) rfl (keep_cons (t := 5) rfl (keep_cons (t := 7) rfl (keep_cons (t := 8) rfl (keep_cons (t := 9) rfl (keep_cons (t := 13) rfl (keep_cons (t := 50) rfl (keep_cons (t := 51) rfl (keep_cons (t := 52) rfl (keep_cons (t := 53) rfl (keep_cons (t := 54) rfl (keep_cons (t := 55) rfl (keep_cons (t := 56) rfl (keep_cons (t := 57) rfl (keep_cons (t := 60) rfl (keep_cons (t := 61) rfl (keep_cons (t := 62) rfl (keep_cons (t := 63) rfl (keep_cons (t := 64) rfl (keep_cons (t := 65) rfl (keep_cons (t := 66) rfl (keep_cons (t := 67) rfl (keep_cons (t := 68) rfl (keep_cons (t := 69) rfl (keep_cons (t := 70) rfl (keep_cons (t := 71) rfl (keep_cons (t := 72) rfl (keep_cons (t := 73) rfl (keep_cons (t := 74) rfl (keep_cons (t := 75) rfl (keep_cons (t := 76) rfl (keep_cons (t := 122) rfl (keep_cons (t := 123) rfl (keep_cons (t := 136) rfl (keep_cons (t := 137) rfl (keep_cons (t := 138) rfl (keep_cons (t := 139) rfl (keep_cons (t := 140) rfl (keep_cons (t := 141) rfl keep_nil)))))))))))))))))))))))))))))))))))))))) ?_
              refine aw_true rfl ?_
              refine aw_region ?_
              obtain ⟨e8, he8⟩ := get_ex (show 0 < W.length by omega)
              obtain ⟨b8, o8, ha8, hc8⟩ := (VW.slv' (W0 := W0) (fun _ => rfl) rfl (Sub.refl _)).at_ 0 _ he8
              refine sr_x rfl (wtd_none rfl) rfl (Rd.x (x_move rfl)) ?_
              refine sr_x rfl (wtd_none rfl) rfl (Rd.x (x_nilCheck rfl)) ?_
              refine sr_x rfl (wtd_none rfl) rfl (Rd.x (x_fieldAddr fd111_1 rfl)) ?_
              refine sr_x rfl (wtd_none rfl) rfl (Rd.x (x_load ag104 rfl (cells_ext (by repeat (first | exact List.mem_cons_self | apply List.mem_cons_of_mem | apply List.mem_append_right)) (by repeat (first | exact Ext.all _ | exact Ext.done | apply Ext.take | apply Ext.skip))))) ?_
              refine sr_x rfl (wtd_none rfl) rfl (Rd.x (x_indexAddrN 0 Try.underlying104 sz113 rfl ha8 rfl (by omega) (by omega))) ?_
              refine sr_x rfl (wtd_none rfl) rfl (Rd.x (x_fieldAddr fd113_0 rfl)) ?_
              refine sr_x rfl (wtd_none rfl) rfl (Rd.x (x_load ag2 rfl (cells_get (Cells.mono hc8 (Sub.takeE0 (by repeat (first | exact TakeE.here | apply TakeE.there | apply TakeE.app)))) 0 rfl))) ?_
              refine sr_x rfl (wtd_none rfl) rfl (Rd.x (x_assign rfl)) ?_
              refine sr_nil ?_
              show AW _ _ _ _ _ _ _
              refine aw_seq_dr ⟨_, 14, 164, [[], [0], [], [2], [2, 3], [2, 3, 4], [2, 3, 4, 5], [0, 1, 2, 3, 4, 5, 6], [0, 1, 2, 3, 4, 5, 6, 7], [0, 1, 2, 3, 4, 5, 6, 7, 8], [0, 1, 2, 3, 4, 5, 6, 7, 8, 9], [0, 1, 2, 3, 4, 5, 6, 7, 8], [0, 1, 2, 3, 4, 5, 6, 7, 8, 9, 10, 11], [0, 1, 2, 3, 4, 5, 6, 7, 8, 9, 10, 11, 12]], [.light, .call, .light, .light, .light, .mem, .light, .light, .light, .light, .call, .light, .light, .light]⟩ (by kernel_rfl) rfl rfl mix ?_
              refine dr_light rfl rfl (wtd_none rfl) (x_move rfl) ?_
              refine dr_callq0 rfl rfl (wtd_none rfl) (opS_F rfl rfl rfl rfl cl71 ((rleft_s p r a cap W m _ (cells_ext (by repeat (first | exact List.mem_cons_self | apply List.mem_cons_of_mem | apply List.mem_append_right)) (by repeat (first | exact Ext.all _ | exact Ext.done | apply Ext.take | apply Ext.skip)))))) (⟨_, rfl⟩) ?_
              rintro _ rfl
              refine dr_light rfl rfl (wtd_none rfl) (x_move rfl) ?_
              refine dr_light rfl rfl (wtd_none rfl) (x_nilCheck rfl) ?_
              refine dr_light rfl rfl (wtd_none rfl) (x_fieldAddr fd111_1 rfl) ?_
              refine dr_mem0 rfl rfl (wtd_none rfl) (x_load ag104 rfl (cells_ext (by repeat (first | exact List.mem_cons_self | apply List.mem_cons_of_mem | apply List.mem_append_right)) (by repeat (first | exact Ext.all _ | exact Ext.done | apply Ext.take | apply Ext.skip)))) ?_
              refine dr_light rfl rfl (wtd_none rfl) (x_lenSlice Try.underlying104 rfl) ?_
              refine dr_cmp rfl rfl (wtd_none rfl) (x_ne rfl rfl) (fun h32 => absurd h32 (by first | omega | decide)) (fun h32 => ?_)
              refine dr_light rfl rfl (wtd_none rfl) (x_move rfl) ?_
              refine dr_light rfl rfl (wtd_yes rfl rfl rfl) (x_move rfl) ?_
              refine dr_callq0 rfl rfl (wtd_yes rfl rfl rfl) (opS_F rfl rfl rfl rfl cl72 ((rnext_s p r a cap W m _ (cells_ext (by repeat (first | exact List.mem_cons_self | apply List.mem_cons_of_mem | apply List.mem_append_right)) (by repeat (first | exact Ext.all _ | exact Ext.done | apply Ext.take | apply Ext.skip))) (V.slv' (fun _ => rfl) rfl (Sub.takeE0 (by repeat (first | exact TakeE.here | apply TakeE.there | apply TakeE.app))))))) (⟨_, rfl⟩) ?_
              rintro _ rfl
              refine dr_light rfl rfl (wtd_yes rfl rfl rfl) (x_move rfl) ?_
              refine dr_cmp rfl rfl (wtd_yes rfl rfl rfl) (x_ne rfl rfl) (fun h33 => absurd h33 (by first | (rw [nextL_cons he8]; simp) | (rw [nextL_nil (by omega)]; simp))) (fun h33 => ?_)
              refine dr_light rfl rfl (wtd_none rfl) (x_pick_f rfl rfl rfl) ?_
              refine dr_nil0 ?_
              refine aw_keep (keep_cons (t := 1) rfl (keep_cons (t := 4) rfl (keep_cons (t := 5) rfl (keep_cons (t := 7) rfl (keep_cons (t := 8) rfl (keep_cons (t := 9) rfl (keep_cons (t := 13) rfl (keep_cons (t := 50) rfl (keep_cons (t := 51) rfl (keep_cons (t := 52) rfl (keep_cons (t := 53) rfl (keep_cons (t := 54) rfl (keep_cons (t := 55) rfl (keep_cons (t := 56) rfl (keep_cons (t := 57) rfl (keep_cons (t := 60) rfl (keep_cons (t := 61) rfl (keep_cons (t := 62) rfl (keep_cons (t := 63) rfl (keep_cons (t := 64) rfl (keep_cons (t := 65) rfl (keep_cons (t := 66) rfl (keep_cons (t := 67) rfl (keep_cons (t := 68) rfl (keep_cons (t := 69) rfl (keep_cons (t := 70) rfl (keep_cons (t := 71) rfl (keep_cons (t := 72) rfl (keep_cons (t := 73) rfl (keep_cons (t := 74) rfl (keep_cons (t := 75) rfl (keep_cons (t := 76) rfl (keep_cons (t := 122) rfl (keep_cons (t := 123) rfl (keep_cons (t := 136) rfl (keep_cons (t := 137) rfl (keep_cons (t := 138) rfl (keep_cons (t := 139) rfl (keep_cons (t := 140) rfl (keep_cons (t := 141) rfl (keep_cons (t := 142) rfl (keep_cons (t := 143) rfl (keep_cons (t := 144) rfl (keep_cons (t := 145) rfl (keep_cons (t := 146) rfl (keep_cons (t := 147) rfl (keep_cons (t := 148) rfl (keep_cons (t := 149) rfl (keep_cons (t := 150) rfl (keep_cons (t := 151) rfl (keep_cons (t := 152) rfl (keep_cons (t := 153) rfl (keep_cons (t := 154) rfl (keep_cons (t := 155) rfl (keep_cons (t := 156) rfl (keep_cons (t := 157) rfl (keep_cons (t := 158) rfl (keep_cons (t := 159) rfl (keep_cons (t := 160) rfl (keep_cons (t := 161) rfl (keep_cons (t := 162) rfl keep_nil))))))))))))))))))))))))))))))))))))))))))))))))))))))))))))) ?_
              refine aw_false rfl ?_
              refine aw_skip ?_
              show AW _ _ _ _ _ _ _
              refine aw_region ?_
              refine sr_x rfl (wtd_none rfl) rfl (Rd.x (x_move rfl)) ?_
              refine sr_x rfl (wtd_none rfl) rfl (Rd.x (x_add' rfl rfl (i64w (by omega) (by omega)))) ?_
              refine sr_x rfl (wtd_none rfl) rfl (Rd.x (x_assign rfl)) ?_
              refine sr_nil ?_
              show ∃ s', _ ∧ _ ∧ _ ∧ _
              exact ⟨⟨i + 1, W, (tdel o.j.id ts), (mdel o.j.id es), clk, a, cap, E, aw, cw, Ew, at2, ct2, Et2⟩, ⟨by dsimp only; omega, by dsimp only; omega, by dsimp only; omega, by dsimp only; omega, hsrt, (hrel.del o.j.id), V, VW, VT2⟩, by dsimp only; omega, (by repeat (first | exact keep_nil | refine keep_cons rfl ?_)), (by repeat (first | exact Sub.refl _ | refine Sub.take (by repeat (first | exact Take.here | apply Take.there | apply Take.app)) ?_ | refine Sub.takeE (by repeat (first | exact TakeE.here | apply TakeE.there | apply TakeE.app)) ?_ | exact Sub.nil _ | apply Sub.drop | apply Sub.dropE))⟩
            · refine sr_nil ?_
              refine aw_keep (keep_cons (t := 1) rfl (keep_cons (t := 4) rfl (keep_cons (t := 5) rfl (keep_cons (t := 7) rfl (keep_cons (t := 8) rfl (keep_cons (t := 9) rfl (keep_cons (t := 13) rfl (keep_cons (t := 50) rfl (keep_cons (t := 51) rfl (keep_cons (t := 52) rfl (keep_cons (t := 53) rfl (keep_cons (t := 54) rfl (keep_cons (t := 55) rfl (keep_cons (t := 56) rfl (keep_cons (t := 57) rfl (keep_cons (t := 60) rfl (keep_cons (t := 61) rfl (keep_cons (t := 62) rfl (keep_cons (t := 63) rfl (keep_cons (t := 64) rfl (keep_cons (t := 65) rfl (keep_cons (t := 66) rfl (keep_cons (t := 67) rfl (keep_cons (t := 68) rfl (keep_cons (t := 69) rfl (keep_cons (t := 70) rfl (keep_cons (t := 71) rfl (keep_cons (t := 72) rfl (keep_cons (t := 73) rfl (keep_cons (t := 74) rfl (keep_cons (t := 75) rfl (keep_cons (t := 76) rfl (keep_cons (t := 122) rfl (keep_cons (t := 123) rfl (keep_cons (t := 136) rfl (keep_cons (t := 137) rfl (keep_cons (t := 138) rfl (keep_cons (t := 139) rfl (keep_cons (t := 140) rfl (keep_cons (t := 141) rfl keep_nil)))))))))))))))))))))))))))))))))))))))) ?_
              refine aw_false rfl ?_
              refine aw_skip ?_
              show AW _ _ _ _ _ _ _
              refine aw_seq_dr ⟨_, 14, 164, [[], [0], [], [2], [2, 3], [2, 3, 4], [2, 3, 4, 5], [0, 1, 2, 3, 4, 5, 6], [0, 1, 2, 3, 4, 5, 6, 7], [0, 1, 2, 3, 4, 5, 6, 7, 8], [0, 1, 2, 3, 4, 5, 6, 7, 8, 9], [0, 1, 2, 3, 4, 5, 6, 7, 8], [0, 1, 2, 3, 4, 5, 6, 7, 8, 9, 10, 11], [0, 1, 2, 3, 4, 5, 6, 7, 8, 9, 10, 11, 12]], [.light, .call, .light, .light, .light, .mem, .light, .light, .light, .light, .call, .light, .light, .light]⟩ (by kernel_rfl) rfl rfl mix ?_
              refine dr_light rfl rfl (wtd_none rfl) (x_move rfl) ?_
              refine dr_callq0 rfl rfl (wtd_none rfl) (opS_F rfl rfl rfl rfl cl71 ((rleft_s p r a cap W m _ (cells_ext (by repeat (first | exact List.mem_cons_self | apply List.mem_cons_of_mem | apply List.mem_append_right)) (by repeat (first | exact Ext.all _ | exact Ext.done | apply Ext.take | apply Ext.skip)))))) (⟨_, rfl⟩) ?_
              rintro _ rfl
              refine dr_light rfl rfl (wtd_none rfl) (x_move rfl) ?_
              refine dr_light rfl rfl (wtd_none rfl) (x_nilCheck rfl) ?_
              refine dr_light rfl rfl (wtd_none rfl) (x_fieldAddr fd111_1 rfl) ?_
              refine dr_mem0 rfl rfl (wtd_none rfl) (x_load ag104 rfl (cells_ext (by repeat (first | exact List.mem_cons_self | apply List.mem_cons_of_mem | apply List.mem_append_right)) (by repeat (first | exact Ext.all _ | exact Ext.done | apply Ext.take | apply Ext.skip)))) ?_
              refine dr_light rfl rfl (wtd_none rfl) (x_lenSlice Try.underlying104 rfl) ?_
              refine dr_cmp rfl rfl (wtd_none rfl) (x_ne rfl rfl) (fun h34 => absurd h34 (by first | omega | decide)) (fun h34 => ?_)
              refine dr_light rfl rfl (wtd_none rfl) (x_move rfl) ?_
              refine dr_light rfl rfl (wtd_yes rfl rfl rfl) (x_move rfl) ?_
              refine dr_callq0 rfl rfl (wtd_yes rfl rfl rfl) (opS_F rfl rfl rfl rfl cl72 ((rnext_s p r a cap W m _ (cells_ext (by repeat (first | exact List.mem_cons_self | apply List.mem_cons_of_mem | apply List.mem_append_right)) (by repeat (first | exact Ext.all _ | exact Ext.done | apply Ext.take | apply Ext.skip))) (V.slv' (fun _ => rfl) rfl (Sub.takeE0 (by repeat (first | exact TakeE.here | apply TakeE.there | apply TakeE.app))))))) (⟨_, rfl⟩) ?_
              rintro _ rfl
              refine dr_light rfl rfl (wtd_yes rfl rfl rfl) (x_move rfl) ?_
              refine dr_cmp rfl rfl (wtd_yes rfl rfl rfl) (x_ne rfl rfl) (fun h35 => absurd h35 (by first | (rw [nextL_cons he8]; simp) | (rw [nextL_nil (by omega)]; simp))) (fun h35 => ?_)
              refine dr_light rfl rfl (wtd_none rfl) (x_pick_f rfl rfl rfl) ?_
              refine dr_nil0 ?_
              refine aw_keep (keep_cons (t := 1) rfl (keep_cons (t := 4) rfl (keep_cons (t := 5) rfl (keep_cons (t := 7) rfl (keep_cons (t := 8) rfl (keep_cons (t := 9) rfl (keep_cons (t := 13) rfl (keep_cons (t := 50) rfl (keep_cons (t := 51) rfl (keep_cons (t := 52) rfl (keep_cons (t := 53) rfl (keep_cons (t := 54) rfl (keep_cons (t := 55) rfl (keep_cons (t := 56) rfl (keep_cons (t := 57) rfl (keep_cons (t := 60) rfl (keep_cons (t := 61) rfl (keep_cons (t := 62) rfl (keep_cons (t := 63) rfl (keep_cons (t := 64) rfl (keep_cons (t := 65) rfl (keep_cons (t := 66) rfl (keep_cons (t := 67) rfl (keep_cons (t := 68) rfl (keep_cons (t := 69) rfl (keep_cons (t := 70) rfl (keep_cons (t := 71) rfl (keep_cons (t := 72) rfl (keep_cons (t := 73) rfl (keep_cons (t := 74) rfl (keep_cons (t := 75) rfl (keep_cons (t := 76) rfl (keep_cons (t := 122) rfl (keep_cons (t := 123) rfl (keep_cons (t := 136) rfl (keep_cons (t := 137) rfl (keep_cons (t := 138) rfl (keep_cons (t := 139) rfl (keep_cons (t := 140) rfl (keep_cons (t := 141) rfl (keep_cons (t := 149) rfl (keep_cons (t := 150) rfl (keep_cons (t := 151) rfl (keep_cons (t := 152) rfl (keep_cons (t := 153) rfl (keep_cons (t := 154) rfl (keep_cons (t := 155) rfl (keep_cons (t := 156) rfl (keep_cons (t := 157) rfl (keep_cons (t := 158) rfl (keep_cons (t := 159) rfl (keep_cons (t := 160) rfl (keep_cons (t := 161) rfl (keep_cons (t := 162) rfl keep_nil)))))))))))))))))))))))))))))))))))))))))))))))))))))) ?_
              refine aw_false rfl ?_
              refine aw_skip ?_
              show AW _ _ _ _ _ _ _
              refine aw_region ?_
              refine sr_x rfl (wtd_none rfl) rfl (Rd.x (x_move rfl)) ?_
              refine sr_x rfl (wtd_none rfl) rfl (Rd.x (x_add' rfl rfl (i64w (by omega) (by omega)))) ?_
              refine sr_x rfl (wtd_none rfl) rfl (Rd.x (x_assign rfl)) ?_
              refine sr_nil ?_
              show ∃ s', _ ∧ _ ∧ _ ∧ _
              exact ⟨⟨i + 1, W, (tdel o.j.id ts), (mdel o.j.id es), clk, a, cap, E, aw, cw, Ew, at2, ct2, Et2⟩, ⟨by dsimp only; omega, by dsimp only; omega, by dsimp only; omega, by dsimp only; omega, hsrt, (hrel.del o.j.id), V, VW, VT2⟩, by dsimp only; omega, (by repeat (first | exact keep_nil | refine keep_cons rfl ?_)), (by repeat (first | exact Sub.refl _ | refine Sub.take (by repeat (first | exact Take.here | apply Take.there | apply Take.app)) ?_ | refine Sub.takeE (by repeat (first | exact TakeE.here | apply TakeE.there | apply TakeE.app)) ?_ | exact Sub.nil _ | apply Sub.drop | apply Sub.dropE))⟩
    · refine sr_x rfl (wtd_none rfl) rfl (Rd.x (x_pick_t rfl rfl rfl)) ?_
      refine sr_nil ?_
      refine aw_keep (keep_cons (t := 1) rfl (keep_cons (t := 4) rfl (keep_cons (t := 5) rfl (keep_cons (t := 7) rfl (keep_cons (t := 8) rfl (keep_cons (t := 50) rfl (keep_cons (t := 51) rfl (keep_cons (t := 52) rfl (keep_cons (t := 53) rfl (keep_cons (t := 54) rfl (keep_cons (t := 55) rfl (keep_cons (t := 56) rfl (keep_cons (t := 57) rfl keep_nil))))))))))))) ?_
      refine aw_false rfl ?_
      refine aw_exit ?_
      show AW _ _ _ _ _ _ _
      refine aw_seq_region ?_
      refine sr_d rfl (wtd_none rfl) rfl (opS_call rfl rfl rfl rfl cl58 (awake46_s _)) ?_
      rintro _ H ⟨rfl, rfl⟩
      refine sr_x rfl (wtd_none rfl) rfl (Rd.x (x_assign rfl)) ?_
      refine sr_nil ?_
      refine aw_keep (keep_cons (t := 4) rfl keep_nil) ?_
      refine aw_ret ?_
      show ∃ v H2, ResV _ _ _ _ _ _ v ∧ Sub H2 _ ∧ _
      exact ⟨_, [], resV rfl (.cons rfl .nil), (Sub.nil _), rfl⟩
  · refine sr_x rfl (wtd_none rfl) rfl (Rd.x (x_move rfl)) ?_
    refine sr_skip rfl (wtd_no rfl rfl rfl rfl) rfl ?_
    refine sr_skip rfl (wtd_no rfl rfl rfl rfl) rfl ?_
    refine sr_x rfl (wtd_none rfl) rfl (Rd.x (x_pick_f rfl rfl rfl)) ?_
    refine sr_nil ?_
    refine aw_keep (keep_cons (t := 1) rfl (keep_cons (t := 4) rfl (keep_cons (t := 5) rfl (keep_cons (t := 7) rfl (keep_cons (t := 8) rfl (keep_cons (t := 50) rfl (keep_cons (t := 51) rfl (keep_cons (t := 52) rfl (keep_cons (t := 53) rfl (keep_cons (t := 54) rfl (keep_cons (t := 55) rfl (keep_cons (t := 56) rfl (keep_cons (t := 57) rfl keep_nil))))))))))))) ?_
    refine aw_false rfl ?_
    refine aw_exit ?_
    show AW _ _ _ _ _ _ _
    refine aw_seq_region ?_
    refine sr_d rfl (wtd_none rfl) rfl (opS_call rfl rfl rfl rfl cl58 (awake46_s _)) ?_
    rintro _ H ⟨rfl, rfl⟩
    refine sr_x rfl (wtd_none rfl) rfl (Rd.x (x_assign rfl)) ?_
    refine sr_nil ?_
    refine aw_keep (keep_cons (t := 4) rfl keep_nil) ?_
    refine aw_ret ?_
    show ∃ v H2, ResV _ _ _ _ _ _ v ∧ Sub H2 _ ∧ _
    exact ⟨_, [], resV rfl (.cons rfl .nil), (Sub.nil _), rfl⟩
theorem retryPlays_s (r : Rule) (sa : Option Addr) (scap : Nat) (xs : List ROp) (hs : ∀ G, SlV W0 G 24 ROp.cells sa scap xs) : AC Try.prog W0 11 [r.v, .slice sa xs.length scap] [] (fun v _ => v = .bool true) := by
  by_cases hr : RRight r
  · exact retryPlays_ok r sa scap xs hs hr
  · exact retryPlays_bad r sa scap xs hs hr
set_option maxRecDepth 100000 in
theorem read_Entry {H : Type} {enc : TypeId × Value → H} {w : World} {base : Nat} {spare : Nat → Bool} {held : Bool} {fuel : Nat} {cs : List Value} {x : DataW H × List MemPlace} (h : DataW.trod enc Try.prog w base spare held fuel 113 cs = some x) : ∃ j : Entry, cs = j.cells ∧ j.Wf := by
  obtain ⟨hlen, n, hf⟩ := read_struct Try.underlying113 h
  rw [cells113] at hlen
  obtain ⟨a0, e0, l0, u0⟩ := read_int Try.underlying2 cells2 (hf 0 _ rfl)
  obtain ⟨a1, e1, l1, u1⟩ := read_int Try.underlying3 cells3 (hf 1 _ rfl)
  obtain ⟨y2, k2⟩ : ∃ y, DataW.trod enc Try.prog w base spare held n 36 ((cs.drop 2).take (Try.prog.cellsOf 36)) = some y := hf 2 _ rfl
  obtain ⟨a2, e2, w2⟩ := read_Request k2
  rw [cells36] at e2
  refine ⟨⟨a0, a1, a2⟩, ?_, ⟨⟨l0, u0⟩, ⟨l1, u1⟩, w2⟩⟩
  apply List.ext_getElem?
  intro i
  match i with
  | 0 => exact e0
  | 1 => exact e1
  | 2 => exact get_nest e2 0 (by decide)
  | 3 => exact get_nest e2 1 (by decide)
  | 4 => exact get_nest e2 2 (by decide)
  | 5 => exact get_nest e2 3 (by decide)
  | 6 => exact get_nest e2 4 (by decide)
  | 7 => exact get_nest e2 5 (by decide)
  | 8 => exact get_nest e2 6 (by decide)
  | 9 => exact get_nest e2 7 (by decide)
  | 10 => exact get_nest e2 8 (by decide)
  | i + 11 => rw [List.getElem?_eq_none (by omega), List.getElem?_eq_none (by simp)]
set_option maxRecDepth 100000 in
theorem open_Entry {H : Type} {enc : TypeId × Value → H} {w : World} {base b0 : Nat} {spare : Nat → Bool} {held : Bool} {v : Value} {d : DataW H} {p : List MemPlace} {r : Reach} (hv : Value.okWide Try.prog w r b0 113 v) (h : DataW.Trod enc Try.prog w base spare held 113 v d p) : ∃ j : Entry, v = j.v ∧ j.Wf := by
  obtain ⟨cs, rfl, _⟩ := Go.WideShapes.okWide_struct Try.underlying113 hv
  obtain ⟨fuel, hf⟩ := h
  obtain ⟨j, h1, h2⟩ := read_Entry hf
  refine ⟨j, ?_, h2⟩
  have : cs = j.cells.toArray := by apply Array.toList_inj.1; exact h1
  rw [this]
set_option maxRecDepth 100000 in
theorem read_ROp {H : Type} {enc : TypeId × Value → H} {w : World} {base : Nat} {spare : Nat → Bool} {held : Bool} {fuel : Nat} {cs : List Value} {x : DataW H × List MemPlace} (h : DataW.trod enc Try.prog w base spare held fuel 115 cs = some x) : ∃ j : ROp, cs = j.cells ∧ j.Wf := by
  obtain ⟨hlen, n, hf⟩ := read_struct Try.underlying115 h
  rw [cells115] at hlen
  obtain ⟨a0, e0, l0, u0⟩ := read_int Try.underlying3 cells3 (hf 0 _ rfl)
  obtain ⟨y1, k1⟩ : ∃ y, DataW.trod enc Try.prog w base spare held n 91 ((cs.drop 1).take (Try.prog.cellsOf 91)) = some y := hf 1 _ rfl
  obtain ⟨a1, e1, w1⟩ := read_Job k1
  rw [cells91] at e1
  obtain ⟨a2, e2, l2, u2⟩ := read_int Try.underlying2 cells2 (hf 2 _ rfl)
  obtain ⟨a3, e3, l3, u3⟩ := read_int Try.underlying3 cells3 (hf 3 _ rfl)
  obtain ⟨y4, k4⟩ : ∃ y, DataW.trod enc Try.prog w base spare held n 113 ((cs.drop 13).take (Try.prog.cellsOf 113)) = some y := hf 4 _ rfl
  obtain ⟨a4, e4, w4⟩ := read_Entry k4
  rw [cells113] at e4
  refine ⟨⟨a0, a1, a2, a3, a4⟩, ?_, ⟨⟨l0, u0⟩, w1, ⟨l2, u2⟩, ⟨l3, u3⟩, w4⟩⟩
  apply List.ext_getElem?
  intro i
  match i with
  | 0 => exact e0
  | 1 => exact get_nest e1 0 (by decide)
  | 2 => exact get_nest e1 1 (by decide)
  | 3 => exact get_nest e1 2 (by decide)
  | 4 => exact get_nest e1 3 (by decide)
  | 5 => exact get_nest e1 4 (by decide)
  | 6 => exact get_nest e1 5 (by decide)
  | 7 => exact get_nest e1 6 (by decide)
  | 8 => exact get_nest e1 7 (by decide)
  | 9 => exact get_nest e1 8 (by decide)
  | 10 => exact get_nest e1 9 (by decide)
  | 11 => exact e2
  | 12 => exact e3
  | 13 => exact get_nest e4 0 (by decide)
  | 14 => exact get_nest e4 1 (by decide)
  | 15 => exact get_nest e4 2 (by decide)
  | 16 => exact get_nest e4 3 (by decide)
  | 17 => exact get_nest e4 4 (by decide)
  | 18 => exact get_nest e4 5 (by decide)
  | 19 => exact get_nest e4 6 (by decide)
  | 20 => exact get_nest e4 7 (by decide)
  | 21 => exact get_nest e4 8 (by decide)
  | 22 => exact get_nest e4 9 (by decide)
  | 23 => exact get_nest e4 10 (by decide)
  | i + 24 => rw [List.getElem?_eq_none (by omega), List.getElem?_eq_none (by simp)]
set_option maxRecDepth 100000 in
theorem open_ROp {H : Type} {enc : TypeId × Value → H} {w : World} {base b0 : Nat} {spare : Nat → Bool} {held : Bool} {v : Value} {d : DataW H} {p : List MemPlace} {r : Reach} (hv : Value.okWide Try.prog w r b0 115 v) (h : DataW.Trod enc Try.prog w base spare held 115 v d p) : ∃ j : ROp, v = j.v ∧ j.Wf := by
  obtain ⟨cs, rfl, _⟩ := Go.WideShapes.okWide_struct Try.underlying115 hv
  obtain ⟨fuel, hf⟩ := h
  obtain ⟨j, h1, h2⟩ := read_ROp hf
  refine ⟨j, ?_, h2⟩
  have : cs = j.cells.toArray := by apply Array.toList_inj.1; exact h1
  rw [this]
end

end Go.Proofs.Yteilocpjikmmdaa
