/- Whatever is put in a queue, and taken out, what comes out is one that was in it, and ahead of which none comes; no condition. -/
import Derived.Test.YtlhmoojffopheaaOrdQue
import Derived.Test.YtlhmoojffopheaaRows
namespace Go.Proofs.Ytlhmoojffopheaa
open Go.Proofs.Ytlhmoojffopheaa.Sym
open Go.RowKit (Below)
set_option linter.unusedVariables false
set_option linter.unusedSimpArgs false
structure QG where
  i : Nat
  W : List Job
  a : Option Addr
  cap : Nat
  E : SHeap
  IN : List Job
  ai : Option Addr
  ci : Nat
  Ei : SHeap
theorem WoR.here {j : Job} {xs out : List Job} {gone : Bool} (h : WoR j xs out gone) (hm : j ∈ xs) : gone = true := by
  cases gone with
  | true => rfl
  | false => exact absurd rfl ((h.2 rfl).2 j hm)
theorem WoR.none {j : Job} {xs out : List Job} {gone : Bool} (h : WoR j xs out gone) (h0 : xs.length = 0) : gone = false ∧ out = [] := by
  obtain rfl : xs = [] := List.length_eq_zero_iff.1 h0
  cases gone with
  | true => have := (h.1 rfl).length_eq; simp at this
  | false => exact ⟨rfl, (h.2 rfl).1⟩
theorem read_boolC {H : Type} {enc : TypeId × Value → H} {w : World} {base : Nat} {spare : Nat → Bool} {held : Bool} {fuel : Nat} {cs : List Value} {x : DataW H × List MemPlace} (h : DataW.trod enc Try.prog w base spare held fuel 4 cs = some x) : ∃ b : Bool, cs = [.bool b] ∧ True := by
  obtain ⟨n, h1, _⟩ := DataW.trod_bool Try.underlying4 h
  exact ⟨n, h1, trivial⟩
theorem ag4 : aggOf Try.prog 4 = some false := by kernel_rfl
theorem cells4 : Try.prog.cellsOf 4 = 1 := by kernel_rfl
theorem cl17 : Callable Try.prog 17 := ⟨Try.f17, Try.func17, by kernel_rfl, by kernel_rfl⟩
theorem cl20 : Callable Try.prog 20 := ⟨Try.f20, Try.func20, by kernel_rfl, by kernel_rfl⟩
theorem cl39 : Callable Try.prog 39 := ⟨Try.f39, Try.func39, by kernel_rfl, by kernel_rfl⟩
theorem cl40 : Callable Try.prog 40 := ⟨Try.f40, Try.func40, by kernel_rfl, by kernel_rfl⟩
theorem cl41 : Callable Try.prog 41 := ⟨Try.f41, Try.func41, by kernel_rfl, by kernel_rfl⟩
theorem cl43 : Callable Try.prog 43 := ⟨Try.f43, Try.func43, by kernel_rfl, by kernel_rfl⟩
theorem cl44 : Callable Try.prog 44 := ⟨Try.f44, Try.func44, by kernel_rfl, by kernel_rfl⟩
theorem fl64 : flds Try.prog 64 = some [(0, 1)] := by kernel_rfl
theorem sz4 : szOf Try.prog 4 = some 1 := by kernel_rfl
theorem zr64 : zeroOf Try.prog 64 = some (.agg #[.slice none 0 0]) := by kernel_rfl
section
variable {W0 : World}
theorem peekC_s (p : Nat) (a : Option Addr) (cap : Nat) (W : List Job) (H : SHeap) (hc : Cells W0 H p 0 [.slice a W.length cap]) (hs : SlV W0 H 10 Job.cells a cap W) : AC Try.prog W0 43 [.pointer (some ⟨p, 0, none⟩)] H (fun v H' => (0 < W.length ∧ v = .tuple #[(gj W 0).v, .bool true] ∧ H' = H) ∨ (W.length = 0 ∧ v = .tuple #[jz.v, .bool false] ∧ H' = H)) := by
  by_cases h : 0 < W.length
  · exact (peek_s p a cap W H hc hs _ (gj_some h)).mono fun v H' k => .inl ⟨h, k⟩
  · exact (peek0_s p a cap W H hc (by omega)).mono fun v H' k => .inr ⟨by omega, k⟩
set_option maxRecDepth 100000 in
set_option maxHeartbeats 8000000 in
theorem orderQueues_s (sa : Option Addr) (scap : Nat) (l : List Job) (hs0 : ∀ G, SlV W0 G 10 Job.cells sa scap l) (pa : Option Addr) (pcap : Nat) (ps : List Bool) (hps : ∀ G, SlV W0 G 1 (fun b : Bool => [.bool b]) pa pcap ps) : AC Try.prog W0 10 [.slice sa l.length scap, .slice pa ps.length pcap] [] (fun v _ => v = .bool true) := by
  have hple := (hps []).le
  have hpcb := (hps []).capb
  refine ac_of Try.func10 rfl rfl rfl ?_
  refine aw_seq_region ?_
  refine sr_x rfl (wtd_none rfl) rfl (Rd.x (x_assign rfl)) ?_
  refine sr_nil ?_
  refine aw_keep (keep_cons (t := 0) rfl (keep_cons (t := 1) rfl (keep_cons (t := 4) rfl keep_nil))) ?_
  refine aw_seq_region ?_
  refine sr_x rfl (wtd_none rfl) rfl (Rd.x (x_move rfl)) ?_
  refine sr_d rfl (wtd_none rfl) rfl (opS_call rfl rfl rfl rfl cl39 (few60_s sa scap l _ (hs0 []).le (hs0 []).capb)) ?_
  rintro _ H ⟨rfl, rfl⟩
  obtain ⟨xs, hxs⟩ : ∃ xs, xs = l.take 60 := ⟨_, rfl⟩
  have hs : ∀ G, SlV W0 G 10 Job.cells sa scap xs := fun G => hxs ▸ (hs0 G).take 60
  have hx60 : xs.length ≤ 60 := by rw [hxs, List.length_take]; omega
  rw [← hxs]
  have hle := (hs []).le
  have hcb := (hs []).capb
  refine sr_x rfl (wtd_none rfl) rfl (Rd.x (x_assign rfl)) ?_
  refine sr_nil ?_
  refine aw_keep (keep_cons (t := 0) rfl (keep_cons (t := 1) rfl (keep_cons (t := 4) rfl keep_nil))) ?_
  refine aw_seq_region ?_
  refine sr_x rfl (wtd_none rfl) rfl (Rd.x (x_build zr64 rfl fl64 (by repeat (first | exact Parts.nil | (apply Parts.cons; rfl))) (by repeat (first | exact Fill.done | (apply Fill.part; rfl; rfl; rfl; focus (repeat (first | exact Spl.done | exact Spl.all rfl | apply Spl.put | apply Spl.skip))))))) ?_
  refine sr_new rfl (wtd_none rfl) rfl (x_box rfl rfl) ?_
  intro r2_1 hr2_1 gr2_1
  refine sr_x rfl (wtd_none rfl) rfl (Rd.x (x_assign rfl)) ?_
  refine sr_nil ?_
  refine aw_keep (keep_cons (t := 0) rfl (keep_cons (t := 1) rfl (keep_cons (t := 4) rfl (keep_cons (t := 5) rfl keep_nil)))) ?_
  refine aw_seq_region ?_
  refine sr_x rfl (wtd_none rfl) rfl (Rd.x (x_assign rfl)) ?_
  refine sr_nil ?_
  refine aw_keep (keep_cons (t := 0) rfl (keep_cons (t := 1) rfl (keep_cons (t := 4) rfl (keep_cons (t := 5) rfl (keep_cons (t := 6) rfl keep_nil))))) ?_
  refine aw_seq ?_
  refine aw_seq_region ?_
  refine sr_x rfl (wtd_none rfl) rfl (Rd.x (x_assign rfl)) ?_
  refine sr_nil ?_
  refine aw_keep (keep_cons (t := 0) rfl (keep_cons (t := 1) rfl (keep_cons (t := 4) rfl (keep_cons (t := 5) rfl (keep_cons (t := 6) rfl (keep_cons (t := 7) rfl keep_nil)))))) ?_
  refine aw_block ?_
  refine aw_loop (ι := QG) (fun s => s.i ≤ xs.length ∧ s.W.length ≤ s.i ∧ HeapQ s.W ∧ s.IN.Perm s.W ∧ OwnVec 10 28 (.slice s.a s.W.length s.cap) s.W.length (s.W.flatMap Job.cells) s.E ∧ OwnVec 10 28 (.slice s.ai s.IN.length s.ci) s.IN.length (s.IN.flatMap Job.cells) s.Ei) (fun s => [(0, .slice sa xs.length scap), (1, .slice pa ps.length pcap), (4, .bool false), (5, .pointer (some ⟨r2_1, 0, none⟩)), (6, .slice s.ai s.IN.length s.ci), (7, .int .i64 s.i)]) (fun s => qu r2_1 (.slice s.a s.W.length s.cap) :: (s.E ++ (s.Ei ++ []))) (fun s => xs.length - s.i) ⟨0, [], none, 0, [], [], none, 0, []⟩ (⟨Nat.zero_le _, Nat.le_refl _, fun k h0 h => absurd h (by simp), List.Perm.refl _, .nil, .nil⟩) (by repeat (first | exact keep_nil | refine keep_cons rfl ?_)) (by repeat (first | exact Sub.refl _ | refine Sub.take (by repeat (first | exact Take.here | apply Take.there | apply Take.app)) ?_ | refine Sub.takeE (by repeat (first | exact TakeE.here | apply TakeE.there | apply TakeE.app)) ?_ | exact Sub.nil _ | apply Sub.drop | apply Sub.dropE)) ?_
  intro s hs9
  obtain ⟨i, W, a, cap, E, IN, ai, ci, Ei⟩ := s
  dsimp only at hs9 ⊢
  obtain ⟨hi, hWi, hh, hpm, V, VI⟩ := hs9
  have hil := hpm.length_eq
  generalize r2_1 = q
  refine aw_seq ?_
  refine aw_seq_region ?_
  refine sr_x rfl (wtd_none rfl) rfl (Rd.x (x_move rfl)) ?_
  refine sr_x rfl (wtd_none rfl) rfl (Rd.x (x_move rfl)) ?_
  refine sr_x rfl (wtd_none rfl) rfl (Rd.x (x_lenSlice Try.underlying22 rfl)) ?_
  refine sr_cmp rfl (wtd_none rfl) rfl (Rd.x (x_lt rfl rfl)) (fun h1 => ?_) (fun h1 => ?_)
  · refine sr_nil ?_
    refine aw_keep (keep_cons (t := 0) rfl (keep_cons (t := 1) rfl (keep_cons (t := 4) rfl (keep_cons (t := 5) rfl (keep_cons (t := 6) rfl (keep_cons (t := 7) rfl (keep_cons (t := 19) rfl (keep_cons (t := 20) rfl (keep_cons (t := 21) rfl (keep_cons (t := 22) rfl keep_nil)))))))))) ?_
    refine aw_true rfl ?_
    refine aw_skip ?_
    show AW _ _ _ _ _ _ _
    refine aw_seq ?_
    refine aw_block ?_
    refine aw_seq ?_
    refine aw_seq_region ?_
    refine sr_x rfl (wtd_none rfl) rfl (Rd.x (x_move rfl)) ?_
    refine sr_x rfl (wtd_none rfl) rfl (Rd.x (x_move rfl)) ?_
    refine sr_x rfl (wtd_none rfl) rfl (Rd.x (x_lenSlice Try.underlying65 rfl)) ?_
    refine sr_cmp rfl (wtd_none rfl) rfl (Rd.x (x_lt rfl rfl)) (fun h2 => ?_) (fun h2 => ?_)
    · refine sr_x rfl (wtd_none rfl) rfl (Rd.x (x_move rfl)) ?_
      refine sr_x rfl (wtd_yes rfl rfl rfl) rfl (Rd.x (x_move rfl)) ?_
      refine sr_x rfl (wtd_yes rfl rfl rfl) rfl (Rd.x (x_move rfl)) ?_
      obtain ⟨bb, hbb⟩ := get_ex (show i < ps.length by omega)
      obtain ⟨bp, op_, hap, hcp⟩ := (hps []).at_ i _ hbb
      refine sr_x rfl (wtd_yes rfl rfl rfl) rfl (Rd.x (x_indexAddrN i Try.underlying65 sz4 rfl hap rfl (by omega) (by omega))) ?_
      refine sr_x rfl (wtd_yes rfl rfl rfl) rfl (Rd.x (x_load ag4 rfl (cells_get (Cells.mono hcp (Sub.nil _)) 0 rfl))) ?_
      refine sr_x rfl (wtd_none rfl) rfl (Rd.x (x_pick_t rfl rfl rfl)) ?_
      refine sr_nil ?_
      refine aw_keep (keep_cons (t := 0) rfl (keep_cons (t := 1) rfl (keep_cons (t := 4) rfl (keep_cons (t := 5) rfl (keep_cons (t := 6) rfl (keep_cons (t := 7) rfl (keep_cons (t := 19) rfl (keep_cons (t := 20) rfl (keep_cons (t := 21) rfl (keep_cons (t := 22) rfl (keep_cons (t := 25) rfl (keep_cons (t := 26) rfl (keep_cons (t := 27) rfl (keep_cons (t := 28) rfl (keep_cons (t := 29) rfl (keep_cons (t := 30) rfl (keep_cons (t := 31) rfl (keep_cons (t := 32) rfl (keep_cons (t := 33) rfl (keep_cons (t := 34) rfl keep_nil)))))))))))))))))))) ?_
      refine aw_cond rfl (fun hb3 => ?_) (fun hb3 => ?_)
      · refine aw_seq_region ?_
        refine sr_x rfl (wtd_none rfl) rfl (Rd.x (x_move rfl)) ?_
        refine sr_d rfl (wtd_none rfl) rfl (opS_call rfl rfl rfl rfl cl43 (peekC_s q a cap W _ (cells_ext (by repeat (first | exact List.mem_cons_self | apply List.mem_cons_of_mem | apply List.mem_append_right)) (by repeat (first | exact Ext.all _ | exact Ext.done | apply Ext.take | apply Ext.skip))) (V.slv' (fun _ => rfl) rfl (Sub.takeE0 (by repeat (first | exact TakeE.here | apply TakeE.there | apply TakeE.app)))))) ?_
        rintro _ H9 hpk
        obtain ⟨hne, rfl, rfl⟩ | ⟨he, rfl, rfl⟩ := hpk
        · refine sr_x rfl (wtd_none rfl) rfl (Rd.x (x_move rfl)) ?_
          refine sr_x rfl (wtd_none rfl) rfl (Rd.x (x_extract rfl rfl)) ?_
          refine sr_x rfl (wtd_none rfl) rfl (Rd.x (x_extract rfl rfl)) ?_
          refine sr_new rfl (wtd_none rfl) rfl (x_alloc zr28 rfl) ?_
          intro r8_5 hr8_5 gr8_5
          refine sr_x0 rfl (wtd_none rfl) (x_store sz28 rfl rfl rfl rfl rfl (by repeat (first | exact Repl.here | apply Repl.there | apply Repl.app)) (by repeat (first | exact Spl.done | exact Spl.all rfl | apply Spl.put | apply Spl.skip))) ?_
          refine sr_x rfl (wtd_none rfl) rfl (Rd.x (x_assign rfl)) ?_
          refine sr_nil ?_
          refine aw_keep (keep_cons (t := 0) rfl (keep_cons (t := 1) rfl (keep_cons (t := 4) rfl (keep_cons (t := 5) rfl (keep_cons (t := 6) rfl (keep_cons (t := 7) rfl (keep_cons (t := 8) rfl (keep_cons (t := 9) rfl (keep_cons (t := 19) rfl (keep_cons (t := 20) rfl (keep_cons (t := 21) rfl (keep_cons (t := 22) rfl (keep_cons (t := 25) rfl (keep_cons (t := 26) rfl (keep_cons (t := 27) rfl (keep_cons (t := 28) rfl (keep_cons (t := 29) rfl (keep_cons (t := 30) rfl (keep_cons (t := 31) rfl (keep_cons (t := 32) rfl (keep_cons (t := 33) rfl (keep_cons (t := 34) rfl (keep_cons (t := 35) rfl (keep_cons (t := 36) rfl (keep_cons (t := 37) rfl (keep_cons (t := 38) rfl (keep_cons (t := 39) rfl keep_nil))))))))))))))))))))))))))) ?_
          refine aw_seq_region ?_
          refine sr_x rfl (wtd_none rfl) rfl (Rd.x (x_move rfl)) ?_
          refine sr_d rfl (wtd_none rfl) rfl (opS_call rfl rfl rfl rfl cl41 (AC.sub (by repeat (first | exact Sub.refl _ | refine Sub.take (by repeat (first | exact Take.here | apply Take.there | apply Take.app)) ?_ | refine Sub.takeE (by repeat (first | exact TakeE.here | apply TakeE.there | apply TakeE.app)) ?_ | exact Sub.nil _ | apply Sub.drop | apply Sub.dropE)) (pop_s q a cap W E ((r8_5, .cells (Job.cells (gj W 0)).toArray 28 (0, 0)) :: (Ei ++ [])) V (by omega) hne hh))) ?_
          rintro _ _ ⟨W2, _, E2, hp2, hh2, V2, rfl, rfl, rfl⟩
          have hl2 : W2.length + 1 = W.length := hp2.length_eq
          have hx0 := gj_some (W := W) (k := 0) (by omega)
          refine sr_x rfl (wtd_none rfl) rfl (Rd.x (x_move rfl)) ?_
          refine sr_x rfl (wtd_none rfl) rfl (Rd.x (x_extract rfl rfl)) ?_
          refine sr_x rfl (wtd_none rfl) rfl (Rd.x (x_extract rfl rfl)) ?_
          refine sr_new rfl (wtd_none rfl) rfl (x_alloc zr28 rfl) ?_
          intro r9_5 hr9_5 gr9_5
          refine sr_x0 rfl (wtd_none rfl) (x_store sz28 rfl rfl rfl rfl rfl (by repeat (first | exact Repl.here | apply Repl.there | apply Repl.app)) (by repeat (first | exact Spl.done | exact Spl.all rfl | apply Spl.put | apply Spl.skip))) ?_
          refine sr_x rfl (wtd_none rfl) rfl (Rd.x (x_assign rfl)) ?_
          refine sr_nil ?_
          refine aw_keep (keep_cons (t := 0) rfl (keep_cons (t := 1) rfl (keep_cons (t := 4) rfl (keep_cons (t := 5) rfl (keep_cons (t := 6) rfl (keep_cons (t := 7) rfl (keep_cons (t := 8) rfl (keep_cons (t := 9) rfl (keep_cons (t := 10) rfl (keep_cons (t := 11) rfl (keep_cons (t := 19) rfl (keep_cons (t := 20) rfl (keep_cons (t := 21) rfl (keep_cons (t := 22) rfl (keep_cons (t := 25) rfl (keep_cons (t := 26) rfl (keep_cons (t := 27) rfl (keep_cons (t := 28) rfl (keep_cons (t := 29) rfl (keep_cons (t := 30) rfl (keep_cons (t := 31) rfl (keep_cons (t := 32) rfl (keep_cons (t := 33) rfl (keep_cons (t := 34) rfl (keep_cons (t := 35) rfl (keep_cons (t := 36) rfl (keep_cons (t := 37) rfl (keep_cons (t := 38) rfl (keep_cons (t := 39) rfl (keep_cons (t := 40) rfl (keep_cons (t := 41) rfl (keep_cons (t := 42) rfl (keep_cons (t := 43) rfl (keep_cons (t := 44) rfl keep_nil)))))))))))))))))))))))))))))))))) ?_
          refine aw_seq ?_
          refine aw_seq_region ?_
          refine sr_x rfl (wtd_none rfl) rfl (Rd.x (x_move rfl)) ?_
          refine sr_x rfl (wtd_none rfl) rfl (Rd.x (x_move rfl)) ?_
          refine sr_x rfl (wtd_none rfl) rfl (Rd.x (x_lenSlice Try.underlying22 rfl)) ?_
          refine sr_cmp rfl (wtd_none rfl) rfl (Rd.x (x_gt rfl rfl)) (fun h4 => ?_) (fun h4 => absurd (by first | omega | decide) h4)
          refine sr_x rfl (wtd_none rfl) rfl (Rd.x (x_neb Try.underlying4 rfl rfl)) ?_
          refine sr_x rfl (wtd_none rfl) rfl (Rd.x (x_move rfl)) ?_
          refine sr_x rfl (wtd_yes rfl rfl rfl) rfl (Rd.x (x_move rfl)) ?_
          refine sr_x rfl (wtd_yes rfl rfl rfl) rfl (Rd.x (x_move rfl)) ?_
          refine sr_x rfl (wtd_yes rfl rfl rfl) rfl (Rd.x (x_neb Try.underlying4 rfl rfl)) ?_
          refine sr_x rfl (wtd_none rfl) rfl (Rd.x (x_pick_f rfl rfl rfl)) ?_
          refine sr_x rfl (wtd_none rfl) rfl (Rd.x (x_move rfl)) ?_
          refine sr_x rfl (wtd_yes rfl rfl rfl) rfl (Rd.x (x_loadN ag28 sz28 rfl (cells_ext (by repeat (first | exact List.mem_cons_self | apply List.mem_cons_of_mem | apply List.mem_append_right)) (by repeat (first | exact Ext.all _ | exact Ext.done | apply Ext.take | apply Ext.skip))) rfl)) ?_
          refine sr_x rfl (wtd_yes rfl rfl rfl) rfl (Rd.x (x_loadN ag28 sz28 rfl (cells_ext (by repeat (first | exact List.mem_cons_self | apply List.mem_cons_of_mem | apply List.mem_append_right)) (by repeat (first | exact Ext.all _ | exact Ext.done | apply Ext.take | apply Ext.skip))) rfl)) ?_
          refine sr_cmp rfl (wtd_yes rfl rfl rfl) rfl (Rd.x (x_neStruct Try.underlying28 ks28 rfl rfl rfl rfl rfl)) (fun h5 => absurd h5 (by simp [eqC, sEq])) (fun h5 => ?_)
          refine sr_x rfl (wtd_none rfl) rfl (Rd.x (x_pick_f rfl rfl rfl)) ?_
          refine sr_nil ?_
          refine aw_keep (keep_cons (t := 0) rfl (keep_cons (t := 1) rfl (keep_cons (t := 4) rfl (keep_cons (t := 5) rfl (keep_cons (t := 6) rfl (keep_cons (t := 7) rfl (keep_cons (t := 8) rfl (keep_cons (t := 9) rfl (keep_cons (t := 10) rfl (keep_cons (t := 11) rfl (keep_cons (t := 19) rfl (keep_cons (t := 20) rfl (keep_cons (t := 21) rfl (keep_cons (t := 22) rfl (keep_cons (t := 25) rfl (keep_cons (t := 26) rfl (keep_cons (t := 27) rfl (keep_cons (t := 28) rfl (keep_cons (t := 29) rfl (keep_cons (t := 30) rfl (keep_cons (t := 31) rfl (keep_cons (t := 32) rfl (keep_cons (t := 33) rfl (keep_cons (t := 34) rfl (keep_cons (t := 35) rfl (keep_cons (t := 36) rfl (keep_cons (t := 37) rfl (keep_cons (t := 38) rfl (keep_cons (t := 39) rfl (keep_cons (t := 40) rfl (keep_cons (t := 41) rfl (keep_cons (t := 42) rfl (keep_cons (t := 43) rfl (keep_cons (t := 44) rfl (keep_cons (t := 45) rfl (keep_cons (t := 46) rfl (keep_cons (t := 47) rfl (keep_cons (t := 48) rfl (keep_cons (t := 49) rfl (keep_cons (t := 50) rfl (keep_cons (t := 51) rfl (keep_cons (t := 52) rfl (keep_cons (t := 53) rfl (keep_cons (t := 54) rfl (keep_cons (t := 55) rfl (keep_cons (t := 56) rfl (keep_cons (t := 57) rfl (keep_cons (t := 58) rfl (keep_cons (t := 59) rfl keep_nil))))))))))))))))))))))))))))))))))))))))))))))))) ?_
          refine aw_false rfl ?_
          refine aw_skip ?_
          show AW _ _ _ _ _ _ _
          refine aw_seq_region ?_
          refine sr_x rfl (wtd_none rfl) rfl (Rd.x (x_move rfl)) ?_
          refine sr_x rfl (wtd_none rfl) rfl (Rd.x (x_loadN ag28 sz28 rfl (cells_ext (by repeat (first | exact List.mem_cons_self | apply List.mem_cons_of_mem | apply List.mem_append_right)) (by repeat (first | exact Ext.all _ | exact Ext.done | apply Ext.take | apply Ext.skip))) rfl)) ?_
          refine sr_d rfl (wtd_none rfl) rfl (opS_call rfl rfl rfl rfl cl44 (without_s ai ci IN _ (VI.slv' (fun _ => rfl) rfl (Sub.takeE0 (by repeat (first | exact TakeE.here | apply TakeE.there | apply TakeE.app)))) (by omega) (gj W 0))) ?_
          rintro _ _ ⟨out, gone, ao, co, Eo, hwo, Vo, rfl, rfl⟩
          obtain rfl : gone = true := hwo.here (hpm.mem_iff.2 (List.mem_of_getElem? hx0))
          have hol : out.length + 1 = IN.length := (hwo.1 rfl).length_eq
          have hpo : out.Perm W2 := ((hwo.1 rfl).trans (hpm.trans hp2.symm)).cons_inv
          refine sr_x rfl (wtd_none rfl) rfl (Rd.x (x_move rfl)) ?_
          refine sr_x rfl (wtd_none rfl) rfl (Rd.x (x_extract rfl rfl)) ?_
          refine sr_x rfl (wtd_none rfl) rfl (Rd.x (x_extract rfl rfl)) ?_
          refine sr_x rfl (wtd_none rfl) rfl (Rd.x (x_assign rfl)) ?_
          refine sr_x rfl (wtd_none rfl) rfl (Rd.x (x_assign rfl)) ?_
          refine sr_nil ?_
          refine aw_keep (keep_cons (t := 0) rfl (keep_cons (t := 1) rfl (keep_cons (t := 4) rfl (keep_cons (t := 5) rfl (keep_cons (t := 6) rfl (keep_cons (t := 7) rfl (keep_cons (t := 8) rfl (keep_cons (t := 9) rfl (keep_cons (t := 10) rfl (keep_cons (t := 11) rfl (keep_cons (t := 12) rfl (keep_cons (t := 13) rfl (keep_cons (t := 19) rfl (keep_cons (t := 20) rfl (keep_cons (t := 21) rfl (keep_cons (t := 22) rfl (keep_cons (t := 25) rfl (keep_cons (t := 26) rfl (keep_cons (t := 27) rfl (keep_cons (t := 28) rfl (keep_cons (t := 29) rfl (keep_cons (t := 30) rfl (keep_cons (t := 31) rfl (keep_cons (t := 32) rfl (keep_cons (t := 33) rfl (keep_cons (t := 34) rfl (keep_cons (t := 35) rfl (keep_cons (t := 36) rfl (keep_cons (t := 37) rfl (keep_cons (t := 38) rfl (keep_cons (t := 39) rfl (keep_cons (t := 40) rfl (keep_cons (t := 41) rfl (keep_cons (t := 42) rfl (keep_cons (t := 43) rfl (keep_cons (t := 44) rfl (keep_cons (t := 45) rfl (keep_cons (t := 46) rfl (keep_cons (t := 47) rfl (keep_cons (t := 48) rfl (keep_cons (t := 49) rfl (keep_cons (t := 50) rfl (keep_cons (t := 51) rfl (keep_cons (t := 52) rfl (keep_cons (t := 53) rfl (keep_cons (t := 54) rfl (keep_cons (t := 55) rfl (keep_cons (t := 56) rfl (keep_cons (t := 57) rfl (keep_cons (t := 58) rfl (keep_cons (t := 59) rfl (keep_cons (t := 60) rfl (keep_cons (t := 61) rfl (keep_cons (t := 62) rfl (keep_cons (t := 63) rfl (keep_cons (t := 64) rfl (keep_cons (t := 65) rfl keep_nil))))))))))))))))))))))))))))))))))))))))))))))))))))))))) ?_
          refine aw_seq ?_
          refine aw_seq_region ?_
          refine sr_x rfl (wtd_none rfl) rfl (Rd.x (x_move rfl)) ?_
          refine sr_x rfl (wtd_none rfl) rfl (Rd.x (x_move rfl)) ?_
          refine sr_x rfl (wtd_yes rfl rfl rfl) rfl (Rd.x (x_move rfl)) ?_
          refine sr_x rfl (wtd_yes rfl rfl rfl) rfl (Rd.x (x_not rfl)) ?_
          refine sr_x rfl (wtd_none rfl) rfl (Rd.x (x_pick_t rfl rfl rfl)) ?_
          refine sr_nil ?_
          refine aw_keep (keep_cons (t := 0) rfl (keep_cons (t := 1) rfl (keep_cons (t := 4) rfl (keep_cons (t := 5) rfl (keep_cons (t := 6) rfl (keep_cons (t := 7) rfl (keep_cons (t := 8) rfl (keep_cons (t := 9) rfl (keep_cons (t := 10) rfl (keep_cons (t := 11) rfl (keep_cons (t := 12) rfl (keep_cons (t := 13) rfl (keep_cons (t := 19) rfl (keep_cons (t := 20) rfl (keep_cons (t := 21) rfl (keep_cons (t := 22) rfl (keep_cons (t := 25) rfl (keep_cons (t := 26) rfl (keep_cons (t := 27) rfl (keep_cons (t := 28) rfl (keep_cons (t := 29) rfl (keep_cons (t := 30) rfl (keep_cons (t := 31) rfl (keep_cons (t := 32) rfl (keep_cons (t := 33) rfl (keep_cons (t := 34) rfl (keep_cons (t := 35) rfl (keep_cons (t := 36) rfl (keep_cons (t := 37) rfl (keep_cons (t := 38) rfl (keep_cons (t := 39) rfl (keep_cons (t := 40) rfl (keep_cons (t := 41) rfl (keep_cons (t := 42) rfl (keep_cons (t := 43) rfl (keep_cons (t := 44) rfl (keep_cons (t := 45) rfl (keep_cons (t := 46) rfl (keep_cons (t := 47) rfl (keep_cons (t := 48) rfl (keep_cons (t := 49) rfl (keep_cons (t := 50) rfl (keep_cons (t := 51) rfl (keep_cons (t := 52) rfl (keep_cons (t := 53) rfl (keep_cons (t := 54) rfl (keep_cons (t := 55) rfl (keep_cons (t := 56) rfl (keep_cons (t := 57) rfl (keep_cons (t := 58) rfl (keep_cons (t := 59) rfl (keep_cons (t := 60) rfl (keep_cons (t := 61) rfl (keep_cons (t := 62) rfl (keep_cons (t := 63) rfl (keep_cons (t := 64) rfl (keep_cons (t := 65) rfl (keep_cons (t := 66) rfl (keep_cons (t := 67) rfl (keep_cons (t := 68) rfl (keep_cons (t := 69) rfl (keep_cons (t := 70) rfl keep_nil)))))))))))))))))))))))))))))))))))))))))))))))))))))))))))))) ?_
          refine aw_false rfl ?_
          refine aw_skip ?_
          show AW _ _ _ _ _ _ _
          refine aw_seq ?_
          refine aw_seq_region ?_
          refine sr_x rfl (wtd_none rfl) rfl (Rd.x (x_assign rfl)) ?_
          refine sr_nil ?_
          refine aw_keep (keep_cons (t := 0) rfl (keep_cons (t := 1) rfl (keep_cons (t := 4) rfl (keep_cons (t := 5) rfl (keep_cons (t := 6) rfl (keep_cons (t := 7) rfl (keep_cons (t := 8) rfl (keep_cons (t := 9) rfl (keep_cons (t := 10) rfl (keep_cons (t := 11) rfl (keep_cons (t := 12) rfl (keep_cons (t := 13) rfl (keep_cons (t := 14) rfl (keep_cons (t := 19) rfl (keep_cons (t := 20) rfl (keep_cons (t := 21) rfl (keep_cons (t := 22) rfl (keep_cons (t := 25) rfl (keep_cons (t := 26) rfl (keep_cons (t := 27) rfl (keep_cons (t := 28) rfl (keep_cons (t := 29) rfl (keep_cons (t := 30) rfl (keep_cons (t := 31) rfl (keep_cons (t := 32) rfl (keep_cons (t := 33) rfl (keep_cons (t := 34) rfl (keep_cons (t := 35) rfl (keep_cons (t := 36) rfl (keep_cons (t := 37) rfl (keep_cons (t := 38) rfl (keep_cons (t := 39) rfl (keep_cons (t := 40) rfl (keep_cons (t := 41) rfl (keep_cons (t := 42) rfl (keep_cons (t := 43) rfl (keep_cons (t := 44) rfl (keep_cons (t := 45) rfl (keep_cons (t := 46) rfl (keep_cons (t := 47) rfl (keep_cons (t := 48) rfl (keep_cons (t := 49) rfl (keep_cons (t := 50) rfl (keep_cons (t := 51) rfl (keep_cons (t := 52) rfl (keep_cons (t := 53) rfl (keep_cons (t := 54) rfl (keep_cons (t := 55) rfl (keep_cons (t := 56) rfl (keep_cons (t := 57) rfl (keep_cons (t := 58) rfl (keep_cons (t := 59) rfl (keep_cons (t := 60) rfl (keep_cons (t := 61) rfl (keep_cons (t := 62) rfl (keep_cons (t := 63) rfl (keep_cons (t := 64) rfl (keep_cons (t := 65) rfl (keep_cons (t := 66) rfl (keep_cons (t := 67) rfl (keep_cons (t := 68) rfl (keep_cons (t := 69) rfl (keep_cons (t := 70) rfl keep_nil))))))))))))))))))))))))))))))))))))))))))))))))))))))))))))))) ?_
          refine aw_block ?_
          refine aw_loop (ι := Nat) (fun k => k ≤ out.length) (fun k => [(0, .slice sa xs.length scap), (1, .slice pa ps.length pcap), (4, .bool false), (5, .pointer (some ⟨q, 0, none⟩)), (6, .slice ai IN.length ci), (7, .int .i64 i), (10, .pointer (some ⟨r9_5, 0, none⟩)), (11, .bool true), (12, .slice ao out.length co), (14, .int .i64 k)]) (fun _ => qu q (.slice a W2.length cap) :: (E2 ++ (Ei ++ (Eo ++ [(r9_5, .cells (Job.cells (gj W 0)).toArray 28 (0, 0))])))) (fun k => out.length - k) 0 (Nat.zero_le _) (by repeat (first | exact keep_nil | refine keep_cons rfl ?_)) (by repeat (first | exact Sub.refl _ | refine Sub.take (by repeat (first | exact Take.here | apply Take.there | apply Take.app)) ?_ | refine Sub.takeE (by repeat (first | exact TakeE.here | apply TakeE.there | apply TakeE.app)) ?_ | exact Sub.nil _ | apply Sub.drop | apply Sub.dropE)) ?_
          intro k hk
          refine aw_seq ?_
          refine aw_seq_region ?_
          refine sr_x rfl (wtd_none rfl) rfl (Rd.x (x_move rfl)) ?_
          refine sr_x rfl (wtd_none rfl) rfl (Rd.x (x_move rfl)) ?_
          refine sr_x rfl (wtd_none rfl) rfl (Rd.x (x_lenSlice Try.underlying22 rfl)) ?_
          refine sr_cmp rfl (wtd_none rfl) rfl (Rd.x (x_lt rfl rfl)) (fun h6 => ?_) (fun h6 => ?_)
          · refine sr_x rfl (wtd_none rfl) rfl (Rd.x (x_move rfl)) ?_
            refine sr_x rfl (wtd_yes rfl rfl rfl) rfl (Rd.x (x_move rfl)) ?_
            refine sr_x rfl (wtd_none rfl) rfl (Rd.x (x_pick_t rfl rfl rfl)) ?_
            refine sr_nil ?_
            refine aw_keep (keep_cons (t := 0) rfl (keep_cons (t := 1) rfl (keep_cons (t := 4) rfl (keep_cons (t := 5) rfl (keep_cons (t := 6) rfl (keep_cons (t := 7) rfl (keep_cons (t := 10) rfl (keep_cons (t := 11) rfl (keep_cons (t := 12) rfl (keep_cons (t := 14) rfl (keep_cons (t := 71) rfl (keep_cons (t := 72) rfl (keep_cons (t := 73) rfl (keep_cons (t := 74) rfl (keep_cons (t := 75) rfl (keep_cons (t := 76) rfl (keep_cons (t := 77) rfl keep_nil))))))))))))))))) ?_
            refine aw_true rfl ?_
            refine aw_skip ?_
            show AW _ _ _ _ _ _ _
            refine aw_seq ?_
            refine aw_block ?_
            refine aw_seq_dr ⟨_, 6, 108, [[], [], [0, 1], [0, 1, 2], [], [0, 1, 2, 3, 4]], [.light, .light, .light, .mem, .mem, .call]⟩ (by kernel_rfl) rfl rfl mix ?_
            obtain ⟨z, hz⟩ := get_ex (show k < out.length by omega)
            obtain ⟨bz, oz, haz, hcz⟩ := (Vo.slv' (W0 := W0) (fun _ => rfl) rfl (Sub.refl _)).at_ k _ hz
            refine dr_light rfl rfl (wtd_none rfl) (x_move rfl) ?_
            refine dr_light rfl rfl (wtd_none rfl) (x_move rfl) ?_
            refine dr_light rfl rfl (wtd_none rfl) (x_indexAddrN k Try.underlying22 sz28 rfl haz rfl (by omega) (by omega)) ?_
            refine dr_mem0 rfl rfl (wtd_none rfl) (x_loadN ag28 sz28 rfl (Cells.mono hcz (Sub.takeE0 (by repeat (first | exact TakeE.here | apply TakeE.there | apply TakeE.app)))) rfl) ?_
            refine dr_mem0 rfl rfl (wtd_none rfl) (x_loadN ag28 sz28 rfl (cells_ext (by repeat (first | exact List.mem_cons_self | apply List.mem_cons_of_mem | apply List.mem_append_right)) (by repeat (first | exact Ext.all _ | exact Ext.done | apply Ext.take | apply Ext.skip))) rfl) ?_
            refine dr_callq0 rfl rfl (wtd_none rfl) (opS_F rfl rfl rfl rfl cl17 ((aheadB_s z (gj W 0) _))) (⟨_, rfl⟩) ?_
            rintro _ rfl
            rw [decide_eq_false (heap_head hh hx0 z (hp2.mem_iff.1 (List.mem_cons_of_mem _ (hpo.mem_iff.1 (List.mem_of_getElem? hz)))))]
            refine dr_nil0 ?_
            refine aw_keep (keep_cons (t := 0) rfl (keep_cons (t := 1) rfl (keep_cons (t := 4) rfl (keep_cons (t := 5) rfl (keep_cons (t := 6) rfl (keep_cons (t := 7) rfl (keep_cons (t := 10) rfl (keep_cons (t := 11) rfl (keep_cons (t := 12) rfl (keep_cons (t := 14) rfl (keep_cons (t := 71) rfl (keep_cons (t := 72) rfl (keep_cons (t := 73) rfl (keep_cons (t := 74) rfl (keep_cons (t := 75) rfl (keep_cons (t := 76) rfl (keep_cons (t := 77) rfl (keep_cons (t := 80) rfl (keep_cons (t := 81) rfl (keep_cons (t := 82) rfl (keep_cons (t := 83) rfl (keep_cons (t := 84) rfl (keep_cons (t := 85) rfl keep_nil))))))))))))))))))))))) ?_
            refine aw_false rfl ?_
            refine aw_skip ?_
            show AW _ _ _ _ _ _ _
            refine aw_region ?_
            refine sr_x rfl (wtd_none rfl) rfl (Rd.x (x_move rfl)) ?_
            refine sr_x rfl (wtd_none rfl) rfl (Rd.x (x_add' rfl rfl (i64w (by omega) (by omega)))) ?_
            refine sr_x rfl (wtd_none rfl) rfl (Rd.x (x_assign rfl)) ?_
            refine sr_nil ?_
            show ∃ s', _ ∧ _ ∧ _ ∧ _
            exact ⟨k + 1, by omega, by omega, (by repeat (first | exact keep_nil | refine keep_cons rfl ?_)), (by repeat (first | exact Sub.refl _ | refine Sub.take (by repeat (first | exact Take.here | apply Take.there | apply Take.app)) ?_ | refine Sub.takeE (by repeat (first | exact TakeE.here | apply TakeE.there | apply TakeE.app)) ?_ | exact Sub.nil _ | apply Sub.drop | apply Sub.dropE))⟩
          · refine sr_x rfl (wtd_none rfl) rfl (Rd.x (x_move rfl)) ?_
            refine sr_skip rfl (wtd_no rfl rfl rfl rfl) rfl ?_
            refine sr_x rfl (wtd_none rfl) rfl (Rd.x (x_pick_f rfl rfl rfl)) ?_
            refine sr_nil ?_
            refine aw_keep (keep_cons (t := 0) rfl (keep_cons (t := 1) rfl (keep_cons (t := 4) rfl (keep_cons (t := 5) rfl (keep_cons (t := 6) rfl (keep_cons (t := 7) rfl (keep_cons (t := 10) rfl (keep_cons (t := 11) rfl (keep_cons (t := 12) rfl (keep_cons (t := 14) rfl (keep_cons (t := 71) rfl (keep_cons (t := 72) rfl (keep_cons (t := 73) rfl (keep_cons (t := 74) rfl (keep_cons (t := 75) rfl (keep_cons (t := 76) rfl (keep_cons (t := 77) rfl keep_nil))))))))))))))))) ?_
            refine aw_false rfl ?_
            refine aw_exit ?_
            show AW _ _ _ _ _ _ _
            refine aw_seq_region ?_
            refine sr_x rfl (wtd_none rfl) rfl (Rd.x (x_move rfl)) ?_
            refine sr_nil ?_
            refine aw_keep (keep_cons (t := 0) rfl (keep_cons (t := 1) rfl (keep_cons (t := 4) rfl (keep_cons (t := 5) rfl (keep_cons (t := 6) rfl (keep_cons (t := 7) rfl (keep_cons (t := 10) rfl (keep_cons (t := 11) rfl (keep_cons (t := 12) rfl (keep_cons (t := 14) rfl (keep_cons (t := 71) rfl (keep_cons (t := 72) rfl (keep_cons (t := 73) rfl (keep_cons (t := 74) rfl (keep_cons (t := 75) rfl (keep_cons (t := 76) rfl (keep_cons (t := 77) rfl (keep_cons (t := 86) rfl keep_nil)))))))))))))))))) ?_
            refine aw_true rfl ?_
            refine aw_region ?_
            refine sr_x rfl (wtd_none rfl) rfl (Rd.x (x_move rfl)) ?_
            refine sr_x rfl (wtd_none rfl) rfl (Rd.x (x_assign rfl)) ?_
            refine sr_nil ?_
            show AW _ _ _ _ _ _ _
            refine aw_seq_region ?_
            refine sr_x rfl (wtd_none rfl) rfl (Rd.x (x_move rfl)) ?_
            refine sr_d rfl (wtd_none rfl) rfl (opS_call rfl rfl rfl rfl cl42 (qlen_s q a cap W2 _ (cells_ext (by repeat (first | exact List.mem_cons_self | apply List.mem_cons_of_mem | apply List.mem_append_right)) (by repeat (first | exact Ext.all _ | exact Ext.done | apply Ext.take | apply Ext.skip))))) ?_
            rintro _ H9 ⟨rfl, rfl⟩
            refine sr_x rfl (wtd_none rfl) rfl (Rd.x (x_move rfl)) ?_
            refine sr_x rfl (wtd_none rfl) rfl (Rd.x (x_lenSlice Try.underlying22 rfl)) ?_
            refine sr_cmp rfl (wtd_none rfl) rfl (Rd.x (x_ne rfl rfl)) (fun h7 => absurd h7 (by first | omega | decide)) (fun h7 => ?_)
            refine sr_nil ?_
            refine aw_keep (keep_cons (t := 0) rfl (keep_cons (t := 1) rfl (keep_cons (t := 4) rfl (keep_cons (t := 5) rfl (keep_cons (t := 6) rfl (keep_cons (t := 7) rfl (keep_cons (t := 10) rfl (keep_cons (t := 11) rfl (keep_cons (t := 12) rfl (keep_cons (t := 14) rfl (keep_cons (t := 71) rfl (keep_cons (t := 72) rfl (keep_cons (t := 73) rfl (keep_cons (t := 74) rfl (keep_cons (t := 75) rfl (keep_cons (t := 76) rfl (keep_cons (t := 77) rfl (keep_cons (t := 86) rfl (keep_cons (t := 87) rfl (keep_cons (t := 102) rfl (keep_cons (t := 103) rfl (keep_cons (t := 104) rfl (keep_cons (t := 105) rfl (keep_cons (t := 106) rfl keep_nil)))))))))))))))))))))))) ?_
            refine aw_false rfl ?_
            refine aw_skip ?_
            show AW _ _ _ _ _ _ _
            refine aw_region ?_
            refine sr_x rfl (wtd_none rfl) rfl (Rd.x (x_move rfl)) ?_
            refine sr_x rfl (wtd_none rfl) rfl (Rd.x (x_add' rfl rfl (i64w (by omega) (by omega)))) ?_
            refine sr_x rfl (wtd_none rfl) rfl (Rd.x (x_assign rfl)) ?_
            refine sr_nil ?_
            show ∃ s', _ ∧ _ ∧ _ ∧ _
            exact ⟨⟨i + 1, W2, a, cap, E2, out, ao, co, Eo⟩, ⟨by dsimp only; omega, by dsimp only; omega, hh2, hpo, V2, Vo⟩, by dsimp only; omega, (by repeat (first | exact keep_nil | refine keep_cons rfl ?_)), (by repeat (first | exact Sub.refl _ | refine Sub.take (by repeat (first | exact Take.here | apply Take.there | apply Take.app)) ?_ | refine Sub.takeE (by repeat (first | exact TakeE.here | apply TakeE.there | apply TakeE.app)) ?_ | exact Sub.nil _ | apply Sub.drop | apply Sub.dropE))⟩
        · refine sr_x rfl (wtd_none rfl) rfl (Rd.x (x_move rfl)) ?_
          refine sr_x rfl (wtd_none rfl) rfl (Rd.x (x_extract rfl rfl)) ?_
          refine sr_x rfl (wtd_none rfl) rfl (Rd.x (x_extract rfl rfl)) ?_
          refine sr_new rfl (wtd_none rfl) rfl (x_alloc zr28 rfl) ?_
          intro r8_5 hr8_5 gr8_5
          refine sr_x0 rfl (wtd_none rfl) (x_store sz28 rfl rfl rfl rfl rfl (by repeat (first | exact Repl.here | apply Repl.there | apply Repl.app)) (by repeat (first | exact Spl.done | exact Spl.all rfl | apply Spl.put | apply Spl.skip))) ?_
          refine sr_x rfl (wtd_none rfl) rfl (Rd.x (x_assign rfl)) ?_
          refine sr_nil ?_
          refine aw_keep (keep_cons (t := 0) rfl (keep_cons (t := 1) rfl (keep_cons (t := 4) rfl (keep_cons (t := 5) rfl (keep_cons (t := 6) rfl (keep_cons (t := 7) rfl (keep_cons (t := 8) rfl (keep_cons (t := 9) rfl (keep_cons (t := 19) rfl (keep_cons (t := 20) rfl (keep_cons (t := 21) rfl (keep_cons (t := 22) rfl (keep_cons (t := 25) rfl (keep_cons (t := 26) rfl (keep_cons (t := 27) rfl (keep_cons (t := 28) rfl (keep_cons (t := 29) rfl (keep_cons (t := 30) rfl (keep_cons (t := 31) rfl (keep_cons (t := 32) rfl (keep_cons (t := 33) rfl (keep_cons (t := 34) rfl (keep_cons (t := 35) rfl (keep_cons (t := 36) rfl (keep_cons (t := 37) rfl (keep_cons (t := 38) rfl (keep_cons (t := 39) rfl keep_nil))))))))))))))))))))))))))) ?_
          refine aw_seq_region ?_
          refine sr_x rfl (wtd_none rfl) rfl (Rd.x (x_move rfl)) ?_
          refine sr_d rfl (wtd_none rfl) rfl (opS_call rfl rfl rfl rfl cl41 (AC.sub (by repeat (first | exact Sub.refl _ | refine Sub.take (by repeat (first | exact Take.here | apply Take.there | apply Take.app)) ?_ | refine Sub.takeE (by repeat (first | exact TakeE.here | apply TakeE.there | apply TakeE.app)) ?_ | exact Sub.nil _ | apply Sub.drop | apply Sub.dropE)) (pop0_s q a cap W E ((r8_5, .cells (Job.cells jz).toArray 28 (0, 0)) :: (Ei ++ [])) V (by omega) he))) ?_
          rintro _ _ ⟨rfl, rfl⟩
          refine sr_x rfl (wtd_none rfl) rfl (Rd.x (x_move rfl)) ?_
          refine sr_x rfl (wtd_none rfl) rfl (Rd.x (x_extract rfl rfl)) ?_
          refine sr_x rfl (wtd_none rfl) rfl (Rd.x (x_extract rfl rfl)) ?_
          refine sr_new rfl (wtd_none rfl) rfl (x_alloc zr28 rfl) ?_
          intro r9_5 hr9_5 gr9_5
          refine sr_x0 rfl (wtd_none rfl) (x_store sz28 rfl rfl rfl rfl rfl (by repeat (first | exact Repl.here | apply Repl.there | apply Repl.app)) (by repeat (first | exact Spl.done | exact Spl.all rfl | apply Spl.put | apply Spl.skip))) ?_
          refine sr_x rfl (wtd_none rfl) rfl (Rd.x (x_assign rfl)) ?_
          refine sr_nil ?_
          refine aw_keep (keep_cons (t := 0) rfl (keep_cons (t := 1) rfl (keep_cons (t := 4) rfl (keep_cons (t := 5) rfl (keep_cons (t := 6) rfl (keep_cons (t := 7) rfl (keep_cons (t := 8) rfl (keep_cons (t := 9) rfl (keep_cons (t := 10) rfl (keep_cons (t := 11) rfl (keep_cons (t := 19) rfl (keep_cons (t := 20) rfl (keep_cons (t := 21) rfl (keep_cons (t := 22) rfl (keep_cons (t := 25) rfl (keep_cons (t := 26) rfl (keep_cons (t := 27) rfl (keep_cons (t := 28) rfl (keep_cons (t := 29) rfl (keep_cons (t := 30) rfl (keep_cons (t := 31) rfl (keep_cons (t := 32) rfl (keep_cons (t := 33) rfl (keep_cons (t := 34) rfl (keep_cons (t := 35) rfl (keep_cons (t := 36) rfl (keep_cons (t := 37) rfl (keep_cons (t := 38) rfl (keep_cons (t := 39) rfl (keep_cons (t := 40) rfl (keep_cons (t := 41) rfl (keep_cons (t := 42) rfl (keep_cons (t := 43) rfl (keep_cons (t := 44) rfl keep_nil)))))))))))))))))))))))))))))))))) ?_
          refine aw_seq ?_
          refine aw_seq_region ?_
          refine sr_x rfl (wtd_none rfl) rfl (Rd.x (x_move rfl)) ?_
          refine sr_x rfl (wtd_none rfl) rfl (Rd.x (x_move rfl)) ?_
          refine sr_x rfl (wtd_none rfl) rfl (Rd.x (x_lenSlice Try.underlying22 rfl)) ?_
          refine sr_cmp rfl (wtd_none rfl) rfl (Rd.x (x_gt rfl rfl)) (fun h8 => absurd h8 (by first | omega | decide)) (fun h8 => ?_)
          refine sr_x rfl (wtd_none rfl) rfl (Rd.x (x_neb Try.underlying4 rfl rfl)) ?_
          refine sr_x rfl (wtd_none rfl) rfl (Rd.x (x_move rfl)) ?_
          refine sr_x rfl (wtd_yes rfl rfl rfl) rfl (Rd.x (x_move rfl)) ?_
          refine sr_x rfl (wtd_yes rfl rfl rfl) rfl (Rd.x (x_move rfl)) ?_
          refine sr_x rfl (wtd_yes rfl rfl rfl) rfl (Rd.x (x_neb Try.underlying4 rfl rfl)) ?_
          refine sr_x rfl (wtd_none rfl) rfl (Rd.x (x_pick_f rfl rfl rfl)) ?_
          refine sr_x rfl (wtd_none rfl) rfl (Rd.x (x_move rfl)) ?_
          refine sr_x rfl (wtd_yes rfl rfl rfl) rfl (Rd.x (x_loadN ag28 sz28 rfl (cells_ext (by repeat (first | exact List.mem_cons_self | apply List.mem_cons_of_mem | apply List.mem_append_right)) (by repeat (first | exact Ext.all _ | exact Ext.done | apply Ext.take | apply Ext.skip))) rfl)) ?_
          refine sr_x rfl (wtd_yes rfl rfl rfl) rfl (Rd.x (x_loadN ag28 sz28 rfl (cells_ext (by repeat (first | exact List.mem_cons_self | apply List.mem_cons_of_mem | apply List.mem_append_right)) (by repeat (first | exact Ext.all _ | exact Ext.done | apply Ext.take | apply Ext.skip))) rfl)) ?_
          refine sr_cmp rfl (wtd_yes rfl rfl rfl) rfl (Rd.x (x_neStruct Try.underlying28 ks28 rfl rfl rfl rfl rfl)) (fun h9 => absurd h9 (by simp [eqC, sEq])) (fun h9 => ?_)
          refine sr_x rfl (wtd_none rfl) rfl (Rd.x (x_pick_f rfl rfl rfl)) ?_
          refine sr_nil ?_
          refine aw_keep (keep_cons (t := 0) rfl (keep_cons (t := 1) rfl (keep_cons (t := 4) rfl (keep_cons (t := 5) rfl (keep_cons (t := 6) rfl (keep_cons (t := 7) rfl (keep_cons (t := 8) rfl (keep_cons (t := 9) rfl (keep_cons (t := 10) rfl (keep_cons (t := 11) rfl (keep_cons (t := 19) rfl (keep_cons (t := 20) rfl (keep_cons (t := 21) rfl (keep_cons (t := 22) rfl (keep_cons (t := 25) rfl (keep_cons (t := 26) rfl (keep_cons (t := 27) rfl (keep_cons (t := 28) rfl (keep_cons (t := 29) rfl (keep_cons (t := 30) rfl (keep_cons (t := 31) rfl (keep_cons (t := 32) rfl (keep_cons (t := 33) rfl (keep_cons (t := 34) rfl (keep_cons (t := 35) rfl (keep_cons (t := 36) rfl (keep_cons (t := 37) rfl (keep_cons (t := 38) rfl (keep_cons (t := 39) rfl (keep_cons (t := 40) rfl (keep_cons (t := 41) rfl (keep_cons (t := 42) rfl (keep_cons (t := 43) rfl (keep_cons (t := 44) rfl (keep_cons (t := 45) rfl (keep_cons (t := 46) rfl (keep_cons (t := 47) rfl (keep_cons (t := 48) rfl (keep_cons (t := 49) rfl (keep_cons (t := 50) rfl (keep_cons (t := 51) rfl (keep_cons (t := 52) rfl (keep_cons (t := 53) rfl (keep_cons (t := 54) rfl (keep_cons (t := 55) rfl (keep_cons (t := 56) rfl (keep_cons (t := 57) rfl (keep_cons (t := 58) rfl (keep_cons (t := 59) rfl keep_nil))))))))))))))))))))))))))))))))))))))))))))))))) ?_
          refine aw_false rfl ?_
          refine aw_skip ?_
          show AW _ _ _ _ _ _ _
          refine aw_seq_region ?_
          refine sr_x rfl (wtd_none rfl) rfl (Rd.x (x_move rfl)) ?_
          refine sr_x rfl (wtd_none rfl) rfl (Rd.x (x_loadN ag28 sz28 rfl (cells_ext (by repeat (first | exact List.mem_cons_self | apply List.mem_cons_of_mem | apply List.mem_append_right)) (by repeat (first | exact Ext.all _ | exact Ext.done | apply Ext.take | apply Ext.skip))) rfl)) ?_
          refine sr_d rfl (wtd_none rfl) rfl (opS_call rfl rfl rfl rfl cl44 (without_s ai ci IN _ (VI.slv' (fun _ => rfl) rfl (Sub.takeE0 (by repeat (first | exact TakeE.here | apply TakeE.there | apply TakeE.app)))) (by omega) jz)) ?_
          rintro _ _ ⟨out, gone, ao, co, Eo, hwo, Vo, rfl, rfl⟩
          obtain ⟨hg9, ho9⟩ := hwo.none (by omega)
          subst hg9
          have hol : out.length = 0 := by rw [ho9]; rfl
          refine sr_x rfl (wtd_none rfl) rfl (Rd.x (x_move rfl)) ?_
          refine sr_x rfl (wtd_none rfl) rfl (Rd.x (x_extract rfl rfl)) ?_
          refine sr_x rfl (wtd_none rfl) rfl (Rd.x (x_extract rfl rfl)) ?_
          refine sr_x rfl (wtd_none rfl) rfl (Rd.x (x_assign rfl)) ?_
          refine sr_x rfl (wtd_none rfl) rfl (Rd.x (x_assign rfl)) ?_
          refine sr_nil ?_
          refine aw_keep (keep_cons (t := 0) rfl (keep_cons (t := 1) rfl (keep_cons (t := 4) rfl (keep_cons (t := 5) rfl (keep_cons (t := 6) rfl (keep_cons (t := 7) rfl (keep_cons (t := 8) rfl (keep_cons (t := 9) rfl (keep_cons (t := 10) rfl (keep_cons (t := 11) rfl (keep_cons (t := 12) rfl (keep_cons (t := 13) rfl (keep_cons (t := 19) rfl (keep_cons (t := 20) rfl (keep_cons (t := 21) rfl (keep_cons (t := 22) rfl (keep_cons (t := 25) rfl (keep_cons (t := 26) rfl (keep_cons (t := 27) rfl (keep_cons (t := 28) rfl (keep_cons (t := 29) rfl (keep_cons (t := 30) rfl (keep_cons (t := 31) rfl (keep_cons (t := 32) rfl (keep_cons (t := 33) rfl (keep_cons (t := 34) rfl (keep_cons (t := 35) rfl (keep_cons (t := 36) rfl (keep_cons (t := 37) rfl (keep_cons (t := 38) rfl (keep_cons (t := 39) rfl (keep_cons (t := 40) rfl (keep_cons (t := 41) rfl (keep_cons (t := 42) rfl (keep_cons (t := 43) rfl (keep_cons (t := 44) rfl (keep_cons (t := 45) rfl (keep_cons (t := 46) rfl (keep_cons (t := 47) rfl (keep_cons (t := 48) rfl (keep_cons (t := 49) rfl (keep_cons (t := 50) rfl (keep_cons (t := 51) rfl (keep_cons (t := 52) rfl (keep_cons (t := 53) rfl (keep_cons (t := 54) rfl (keep_cons (t := 55) rfl (keep_cons (t := 56) rfl (keep_cons (t := 57) rfl (keep_cons (t := 58) rfl (keep_cons (t := 59) rfl (keep_cons (t := 60) rfl (keep_cons (t := 61) rfl (keep_cons (t := 62) rfl (keep_cons (t := 63) rfl (keep_cons (t := 64) rfl (keep_cons (t := 65) rfl keep_nil))))))))))))))))))))))))))))))))))))))))))))))))))))))))) ?_
          refine aw_seq ?_
          refine aw_seq_region ?_
          refine sr_x rfl (wtd_none rfl) rfl (Rd.x (x_move rfl)) ?_
          refine sr_x rfl (wtd_none rfl) rfl (Rd.x (x_move rfl)) ?_
          refine sr_skip rfl (wtd_no rfl rfl rfl rfl) rfl ?_
          refine sr_skip rfl (wtd_no rfl rfl rfl rfl) rfl ?_
          refine sr_x rfl (wtd_none rfl) rfl (Rd.x (x_pick_f rfl rfl rfl)) ?_
          refine sr_nil ?_
          refine aw_keep (keep_cons (t := 0) rfl (keep_cons (t := 1) rfl (keep_cons (t := 4) rfl (keep_cons (t := 5) rfl (keep_cons (t := 6) rfl (keep_cons (t := 7) rfl (keep_cons (t := 8) rfl (keep_cons (t := 9) rfl (keep_cons (t := 10) rfl (keep_cons (t := 11) rfl (keep_cons (t := 12) rfl (keep_cons (t := 13) rfl (keep_cons (t := 19) rfl (keep_cons (t := 20) rfl (keep_cons (t := 21) rfl (keep_cons (t := 22) rfl (keep_cons (t := 25) rfl (keep_cons (t := 26) rfl (keep_cons (t := 27) rfl (keep_cons (t := 28) rfl (keep_cons (t := 29) rfl (keep_cons (t := 30) rfl (keep_cons (t := 31) rfl (keep_cons (t := 32) rfl (keep_cons (t := 33) rfl (keep_cons (t := 34) rfl (keep_cons (t := 35) rfl (keep_cons (t := 36) rfl (keep_cons (t := 37) rfl (keep_cons (t := 38) rfl (keep_cons (t := 39) rfl (keep_cons (t := 40) rfl (keep_cons (t := 41) rfl (keep_cons (t := 42) rfl (keep_cons (t := 43) rfl (keep_cons (t := 44) rfl (keep_cons (t := 45) rfl (keep_cons (t := 46) rfl (keep_cons (t := 47) rfl (keep_cons (t := 48) rfl (keep_cons (t := 49) rfl (keep_cons (t := 50) rfl (keep_cons (t := 51) rfl (keep_cons (t := 52) rfl (keep_cons (t := 53) rfl (keep_cons (t := 54) rfl (keep_cons (t := 55) rfl (keep_cons (t := 56) rfl (keep_cons (t := 57) rfl (keep_cons (t := 58) rfl (keep_cons (t := 59) rfl (keep_cons (t := 60) rfl (keep_cons (t := 61) rfl (keep_cons (t := 62) rfl (keep_cons (t := 63) rfl (keep_cons (t := 64) rfl (keep_cons (t := 65) rfl (keep_cons (t := 66) rfl (keep_cons (t := 67) rfl (keep_cons (t := 68) rfl (keep_cons (t := 69) rfl (keep_cons (t := 70) rfl keep_nil)))))))))))))))))))))))))))))))))))))))))))))))))))))))))))))) ?_
          refine aw_false rfl ?_
          refine aw_skip ?_
          show AW _ _ _ _ _ _ _
          refine aw_seq ?_
          refine aw_seq_region ?_
          refine sr_x rfl (wtd_none rfl) rfl (Rd.x (x_assign rfl)) ?_
          refine sr_nil ?_
          refine aw_keep (keep_cons (t := 0) rfl (keep_cons (t := 1) rfl (keep_cons (t := 4) rfl (keep_cons (t := 5) rfl (keep_cons (t := 6) rfl (keep_cons (t := 7) rfl (keep_cons (t := 8) rfl (keep_cons (t := 9) rfl (keep_cons (t := 10) rfl (keep_cons (t := 11) rfl (keep_cons (t := 12) rfl (keep_cons (t := 13) rfl (keep_cons (t := 14) rfl (keep_cons (t := 19) rfl (keep_cons (t := 20) rfl (keep_cons (t := 21) rfl (keep_cons (t := 22) rfl (keep_cons (t := 25) rfl (keep_cons (t := 26) rfl (keep_cons (t := 27) rfl (keep_cons (t := 28) rfl (keep_cons (t := 29) rfl (keep_cons (t := 30) rfl (keep_cons (t := 31) rfl (keep_cons (t := 32) rfl (keep_cons (t := 33) rfl (keep_cons (t := 34) rfl (keep_cons (t := 35) rfl (keep_cons (t := 36) rfl (keep_cons (t := 37) rfl (keep_cons (t := 38) rfl (keep_cons (t := 39) rfl (keep_cons (t := 40) rfl (keep_cons (t := 41) rfl (keep_cons (t := 42) rfl (keep_cons (t := 43) rfl (keep_cons (t := 44) rfl (keep_cons (t := 45) rfl (keep_cons (t := 46) rfl (keep_cons (t := 47) rfl (keep_cons (t := 48) rfl (keep_cons (t := 49) rfl (keep_cons (t := 50) rfl (keep_cons (t := 51) rfl (keep_cons (t := 52) rfl (keep_cons (t := 53) rfl (keep_cons (t := 54) rfl (keep_cons (t := 55) rfl (keep_cons (t := 56) rfl (keep_cons (t := 57) rfl (keep_cons (t := 58) rfl (keep_cons (t := 59) rfl (keep_cons (t := 60) rfl (keep_cons (t := 61) rfl (keep_cons (t := 62) rfl (keep_cons (t := 63) rfl (keep_cons (t := 64) rfl (keep_cons (t := 65) rfl (keep_cons (t := 66) rfl (keep_cons (t := 67) rfl (keep_cons (t := 68) rfl (keep_cons (t := 69) rfl (keep_cons (t := 70) rfl keep_nil))))))))))))))))))))))))))))))))))))))))))))))))))))))))))))))) ?_
          refine aw_block ?_
          refine aw_loop (ι := Nat) (fun k => k ≤ out.length) (fun k => [(0, .slice sa xs.length scap), (1, .slice pa ps.length pcap), (4, .bool false), (5, .pointer (some ⟨q, 0, none⟩)), (6, .slice ai IN.length ci), (7, .int .i64 i), (10, .pointer (some ⟨r9_5, 0, none⟩)), (11, .bool false), (12, .slice ao out.length co), (14, .int .i64 k)]) (fun _ => qu q (.slice a W.length cap) :: (E ++ (Ei ++ (Eo ++ [(r9_5, .cells (Job.cells jz).toArray 28 (0, 0))])))) (fun k => out.length - k) 0 (Nat.zero_le _) (by repeat (first | exact keep_nil | refine keep_cons rfl ?_)) (by repeat (first | exact Sub.refl _ | refine Sub.take (by repeat (first | exact Take.here | apply Take.there | apply Take.app)) ?_ | refine Sub.takeE (by repeat (first | exact TakeE.here | apply TakeE.there | apply TakeE.app)) ?_ | exact Sub.nil _ | apply Sub.drop | apply Sub.dropE)) ?_
          intro k hk
          refine aw_seq ?_
          refine aw_seq_region ?_
          refine sr_x rfl (wtd_none rfl) rfl (Rd.x (x_move rfl)) ?_
          refine sr_x rfl (wtd_none rfl) rfl (Rd.x (x_move rfl)) ?_
          refine sr_x rfl (wtd_none rfl) rfl (Rd.x (x_lenSlice Try.underlying22 rfl)) ?_
          refine sr_cmp rfl (wtd_none rfl) rfl (Rd.x (x_lt rfl rfl)) (fun h10 => absurd h10 (by first | omega | decide)) (fun h10 => ?_)
          refine sr_x rfl (wtd_none rfl) rfl (Rd.x (x_move rfl)) ?_
          refine sr_skip rfl (wtd_no rfl rfl rfl rfl) rfl ?_
          refine sr_x rfl (wtd_none rfl) rfl (Rd.x (x_pick_f rfl rfl rfl)) ?_
          refine sr_nil ?_
          refine aw_keep (keep_cons (t := 0) rfl (keep_cons (t := 1) rfl (keep_cons (t := 4) rfl (keep_cons (t := 5) rfl (keep_cons (t := 6) rfl (keep_cons (t := 7) rfl (keep_cons (t := 10) rfl (keep_cons (t := 11) rfl (keep_cons (t := 12) rfl (keep_cons (t := 14) rfl (keep_cons (t := 71) rfl (keep_cons (t := 72) rfl (keep_cons (t := 73) rfl (keep_cons (t := 74) rfl (keep_cons (t := 75) rfl (keep_cons (t := 76) rfl (keep_cons (t := 77) rfl keep_nil))))))))))))))))) ?_
          refine aw_false rfl ?_
          refine aw_exit ?_
          show AW _ _ _ _ _ _ _
          refine aw_seq_region ?_
          refine sr_x rfl (wtd_none rfl) rfl (Rd.x (x_move rfl)) ?_
          refine sr_nil ?_
          refine aw_keep (keep_cons (t := 0) rfl (keep_cons (t := 1) rfl (keep_cons (t := 4) rfl (keep_cons (t := 5) rfl (keep_cons (t := 6) rfl (keep_cons (t := 7) rfl (keep_cons (t := 10) rfl (keep_cons (t := 11) rfl (keep_cons (t := 12) rfl (keep_cons (t := 14) rfl (keep_cons (t := 71) rfl (keep_cons (t := 72) rfl (keep_cons (t := 73) rfl (keep_cons (t := 74) rfl (keep_cons (t := 75) rfl (keep_cons (t := 76) rfl (keep_cons (t := 77) rfl (keep_cons (t := 86) rfl keep_nil)))))))))))))))))) ?_
          refine aw_false rfl ?_
          refine aw_skip ?_
          show AW _ _ _ _ _ _ _
          refine aw_seq_region ?_
          refine sr_x rfl (wtd_none rfl) rfl (Rd.x (x_move rfl)) ?_
          refine sr_d rfl (wtd_none rfl) rfl (opS_call rfl rfl rfl rfl cl42 (qlen_s q a cap W _ (cells_ext (by repeat (first | exact List.mem_cons_self | apply List.mem_cons_of_mem | apply List.mem_append_right)) (by repeat (first | exact Ext.all _ | exact Ext.done | apply Ext.take | apply Ext.skip))))) ?_
          rintro _ H9 ⟨rfl, rfl⟩
          refine sr_x rfl (wtd_none rfl) rfl (Rd.x (x_move rfl)) ?_
          refine sr_x rfl (wtd_none rfl) rfl (Rd.x (x_lenSlice Try.underlying22 rfl)) ?_
          refine sr_cmp rfl (wtd_none rfl) rfl (Rd.x (x_ne rfl rfl)) (fun h11 => absurd h11 (by first | omega | decide)) (fun h11 => ?_)
          refine sr_nil ?_
          refine aw_keep (keep_cons (t := 0) rfl (keep_cons (t := 1) rfl (keep_cons (t := 4) rfl (keep_cons (t := 5) rfl (keep_cons (t := 6) rfl (keep_cons (t := 7) rfl (keep_cons (t := 10) rfl (keep_cons (t := 11) rfl (keep_cons (t := 12) rfl (keep_cons (t := 14) rfl (keep_cons (t := 71) rfl (keep_cons (t := 72) rfl (keep_cons (t := 73) rfl (keep_cons (t := 74) rfl (keep_cons (t := 75) rfl (keep_cons (t := 76) rfl (keep_cons (t := 77) rfl (keep_cons (t := 86) rfl (keep_cons (t := 102) rfl (keep_cons (t := 103) rfl (keep_cons (t := 104) rfl (keep_cons (t := 105) rfl (keep_cons (t := 106) rfl keep_nil))))))))))))))))))))))) ?_
          refine aw_false rfl ?_
          refine aw_skip ?_
          show AW _ _ _ _ _ _ _
          refine aw_region ?_
          refine sr_x rfl (wtd_none rfl) rfl (Rd.x (x_move rfl)) ?_
          refine sr_x rfl (wtd_none rfl) rfl (Rd.x (x_add' rfl rfl (i64w (by omega) (by omega)))) ?_
          refine sr_x rfl (wtd_none rfl) rfl (Rd.x (x_assign rfl)) ?_
          refine sr_nil ?_
          show ∃ s', _ ∧ _ ∧ _ ∧ _
          exact ⟨⟨i + 1, W, a, cap, E, IN, ai, ci, Ei⟩, ⟨by dsimp only; omega, by dsimp only; omega, hh, hpm, V, VI⟩, by dsimp only; omega, (by repeat (first | exact keep_nil | refine keep_cons rfl ?_)), (by repeat (first | exact Sub.refl _ | refine Sub.take (by repeat (first | exact Take.here | apply Take.there | apply Take.app)) ?_ | refine Sub.takeE (by repeat (first | exact TakeE.here | apply TakeE.there | apply TakeE.app)) ?_ | exact Sub.nil _ | apply Sub.drop | apply Sub.dropE))⟩
      · refine aw_seq_region ?_
        obtain ⟨y, hy⟩ := get_ex (show i < xs.length by omega)
        obtain ⟨by_, oy, hay, hcy⟩ := (hs []).at_ i _ hy
        refine sr_x rfl (wtd_none rfl) rfl (Rd.x (x_move rfl)) ?_
        refine sr_x rfl (wtd_none rfl) rfl (Rd.x (x_move rfl)) ?_
        refine sr_x rfl (wtd_none rfl) rfl (Rd.x (x_move rfl)) ?_
        refine sr_x rfl (wtd_none rfl) rfl (Rd.x (x_indexAddrN i Try.underlying22 sz28 rfl hay rfl (by omega) (by omega))) ?_
        refine sr_x rfl (wtd_none rfl) rfl (Rd.x (x_loadN ag28 sz28 rfl (Cells.mono hcy (Sub.nil _)) rfl)) ?_
        refine sr_new rfl (wtd_none rfl) rfl (x_buildSlice Try.underlying22 sz28 zr28 rfl rfl rfl rfl (by repeat (first | exact Parts.nil | (apply Parts.cons; rfl))) (by repeat (first | exact Fill.done | (apply Fill.part; rfl; rfl; rfl; focus (repeat (first | exact Spl.done | exact Spl.all rfl | apply Spl.put | apply Spl.skip)))))) ?_
        intro r22_5 hr22_5 gr22_5
        refine sr_d rfl (wtd_none rfl) rfl (opS_call rfl rfl rfl rfl cl40 (AC.sub (by repeat (first | exact Sub.refl _ | refine Sub.take (by repeat (first | exact Take.here | apply Take.there | apply Take.app)) ?_ | refine Sub.takeE (by repeat (first | exact TakeE.here | apply TakeE.there | apply TakeE.app)) ?_ | exact Sub.nil _ | apply Sub.drop | apply Sub.dropE)) (push_s q a cap W E ((r22_5, .cells (Job.cells y).toArray 28 (0, 0)) :: (Ei ++ [])) V (by omega) hh (some ⟨r22_5, 0, none⟩) 1 [y] (slv_own (n := 10) (enc := Job.cells) (xs := [y]) (post := []) (fun _ => rfl) List.mem_cons_self (hle := Nat.le_refl 1) (hcb := by decide)) (by show 1 ≤ 1000; decide)))) ?_
        rintro _ _ ⟨W3, a3, c3, E3, hp3, hh3, V3, rfl, rfl⟩
        have hl3 : W3.length = W.length + 1 := by have := hp3.length_eq; simpa using this
        refine sr_nil ?_
        refine aw_keep (keep_cons (t := 0) rfl (keep_cons (t := 1) rfl (keep_cons (t := 4) rfl (keep_cons (t := 5) rfl (keep_cons (t := 6) rfl (keep_cons (t := 7) rfl (keep_cons (t := 19) rfl (keep_cons (t := 20) rfl (keep_cons (t := 21) rfl (keep_cons (t := 22) rfl (keep_cons (t := 25) rfl (keep_cons (t := 26) rfl (keep_cons (t := 27) rfl (keep_cons (t := 28) rfl (keep_cons (t := 29) rfl (keep_cons (t := 30) rfl (keep_cons (t := 31) rfl (keep_cons (t := 32) rfl (keep_cons (t := 33) rfl (keep_cons (t := 34) rfl (keep_cons (t := 88) rfl (keep_cons (t := 89) rfl (keep_cons (t := 90) rfl (keep_cons (t := 91) rfl (keep_cons (t := 92) rfl (keep_cons (t := 93) rfl keep_nil)))))))))))))))))))))))))) ?_
        refine aw_region ?_
        refine sr_x rfl (wtd_none rfl) rfl (Rd.x (x_move rfl)) ?_
        refine sr_x rfl (wtd_none rfl) rfl (Rd.x (x_move rfl)) ?_
        refine sr_x rfl (wtd_none rfl) rfl (Rd.x (x_move rfl)) ?_
        refine sr_x rfl (wtd_none rfl) rfl (Rd.x (x_indexAddrN i Try.underlying22 sz28 rfl hay rfl (by omega) (by omega))) ?_
        refine sr_x rfl (wtd_none rfl) rfl (Rd.x (x_loadN ag28 sz28 rfl (Cells.mono hcy (Sub.nil _)) rfl)) ?_
        refine sr_new rfl (wtd_none rfl) rfl (x_buildSlice Try.underlying22 sz28 zr28 rfl rfl rfl rfl (by repeat (first | exact Parts.nil | (apply Parts.cons; rfl))) (by repeat (first | exact Fill.done | (apply Fill.part; rfl; rfl; rfl; focus (repeat (first | exact Spl.done | exact Spl.all rfl | apply Spl.put | apply Spl.skip)))))) ?_
        intro r23_5 hr23_5 gr23_5
        refine sr_d rfl (wtd_none rfl) rfl (opS_append (G := (r23_5, .cells (Job.cells y).toArray 28 (0, 0)) :: qu q (.slice a3 W3.length c3) :: (E3 ++ [])) (N := y.cells) (m := 1) Try.underlying22 sz28 zr28 rfl by28 rfl rfl VI (by repeat (first | exact Sub.refl _ | refine Sub.take (by repeat (first | exact Take.here | apply Take.there | apply Take.app)) ?_ | refine Sub.takeE (by repeat (first | exact TakeE.here | apply TakeE.there | apply TakeE.app)) ?_ | exact Sub.nil _ | apply Sub.drop | apply Sub.dropE)) (.inr ⟨_, _, rfl, (cells_ext (by repeat (first | exact List.mem_cons_self | apply List.mem_cons_of_mem | apply List.mem_append_right)) (by repeat (first | exact Ext.all _ | exact Ext.done | apply Ext.take | apply Ext.skip)))⟩) (rfl) rfl (by omega) (by omega)) ?_
        rintro v101 _ ⟨E101, hV101, rfl⟩
        obtain ⟨a101, cap101, rfl⟩ := hV101.isSl
        refine sr_x rfl (wtd_none rfl) rfl (Rd.x (x_assign rfl)) ?_
        refine sr_nil ?_
        show AW _ _ _ _ _ _ _
        refine aw_seq_region ?_
        refine sr_x rfl (wtd_none rfl) rfl (Rd.x (x_move rfl)) ?_
        refine sr_d rfl (wtd_none rfl) rfl (opS_call rfl rfl rfl rfl cl42 (qlen_s q a3 c3 W3 _ (cells_ext (by repeat (first | exact List.mem_cons_self | apply List.mem_cons_of_mem | apply List.mem_append_right)) (by repeat (first | exact Ext.all _ | exact Ext.done | apply Ext.take | apply Ext.skip))))) ?_
        rintro _ H9 ⟨rfl, rfl⟩
        refine sr_x rfl (wtd_none rfl) rfl (Rd.x (x_move rfl)) ?_
        refine sr_x rfl (wtd_none rfl) rfl (Rd.x (x_lenSlice Try.underlying22 rfl)) ?_
        refine sr_cmp rfl (wtd_none rfl) rfl (Rd.x (x_ne rfl rfl)) (fun h12 => absurd h12 (by first | omega | decide)) (fun h12 => ?_)
        refine sr_nil ?_
        refine aw_keep (keep_cons (t := 0) rfl (keep_cons (t := 1) rfl (keep_cons (t := 4) rfl (keep_cons (t := 5) rfl (keep_cons (t := 6) rfl (keep_cons (t := 7) rfl (keep_cons (t := 19) rfl (keep_cons (t := 20) rfl (keep_cons (t := 21) rfl (keep_cons (t := 22) rfl (keep_cons (t := 25) rfl (keep_cons (t := 26) rfl (keep_cons (t := 27) rfl (keep_cons (t := 28) rfl (keep_cons (t := 29) rfl (keep_cons (t := 30) rfl (keep_cons (t := 31) rfl (keep_cons (t := 32) rfl (keep_cons (t := 33) rfl (keep_cons (t := 34) rfl (keep_cons (t := 88) rfl (keep_cons (t := 89) rfl (keep_cons (t := 90) rfl (keep_cons (t := 91) rfl (keep_cons (t := 92) rfl (keep_cons (t := 93) rfl (keep_cons (t := 95) rfl (keep_cons (t := 96) rfl (keep_cons (t := 97) rfl (keep_cons (t := 98) rfl (keep_cons (t := 99) rfl (keep_cons (t := 100) rfl (keep_cons (t := 101) rfl (keep_cons (t := 102) rfl (keep_cons (t := 103) rfl (keep_cons (t := 104) rfl (keep_cons (t := 105) rfl (keep_cons (t := 106) rfl keep_nil)))))))))))))))))))))))))))))))))))))) ?_
        refine aw_false rfl ?_
        refine aw_skip ?_
        show AW _ _ _ _ _ _ _
        refine aw_region ?_
        refine sr_x rfl (wtd_none rfl) rfl (Rd.x (x_move rfl)) ?_
        refine sr_x rfl (wtd_none rfl) rfl (Rd.x (x_add' rfl rfl (i64w (by omega) (by omega)))) ?_
        refine sr_x rfl (wtd_none rfl) rfl (Rd.x (x_assign rfl)) ?_
        refine sr_nil ?_
        show ∃ s', _ ∧ _ ∧ _ ∧ _
        exact ⟨⟨i + 1, W3, a3, c3, E3, (IN ++ [y]), a101, cap101, E101⟩, ⟨by dsimp only; omega, by dsimp only; omega, hh3, ((hpm.append_right [y]).trans hp3.symm), V3, (OwnVec.snocS hV101)⟩, by dsimp only; omega, (by rw [List.length_append]; exact (by repeat (first | exact keep_nil | refine keep_cons rfl ?_))), (by repeat (first | exact Sub.refl _ | refine Sub.take (by repeat (first | exact Take.here | apply Take.there | apply Take.app)) ?_ | refine Sub.takeE (by repeat (first | exact TakeE.here | apply TakeE.there | apply TakeE.app)) ?_ | exact Sub.nil _ | apply Sub.drop | apply Sub.dropE))⟩
    · refine sr_x rfl (wtd_none rfl) rfl (Rd.x (x_move rfl)) ?_
      refine sr_skip rfl (wtd_no rfl rfl rfl rfl) rfl ?_
      refine sr_skip rfl (wtd_no rfl rfl rfl rfl) rfl ?_
      refine sr_skip rfl (wtd_no rfl rfl rfl rfl) rfl ?_
      refine sr_skip rfl (wtd_no rfl rfl rfl rfl) rfl ?_
      refine sr_x rfl (wtd_none rfl) rfl (Rd.x (x_pick_f rfl rfl rfl)) ?_
      refine sr_nil ?_
      refine aw_keep (keep_cons (t := 0) rfl (keep_cons (t := 1) rfl (keep_cons (t := 4) rfl (keep_cons (t := 5) rfl (keep_cons (t := 6) rfl (keep_cons (t := 7) rfl (keep_cons (t := 19) rfl (keep_cons (t := 20) rfl (keep_cons (t := 21) rfl (keep_cons (t := 22) rfl (keep_cons (t := 25) rfl (keep_cons (t := 26) rfl (keep_cons (t := 27) rfl (keep_cons (t := 28) rfl (keep_cons (t := 29) rfl (keep_cons (t := 30) rfl (keep_cons (t := 31) rfl (keep_cons (t := 32) rfl (keep_cons (t := 33) rfl (keep_cons (t := 34) rfl keep_nil)))))))))))))))))))) ?_
      refine aw_false rfl ?_
      refine aw_seq_region ?_
      obtain ⟨y, hy⟩ := get_ex (show i < xs.length by omega)
      obtain ⟨by_, oy, hay, hcy⟩ := (hs []).at_ i _ hy
      refine sr_x rfl (wtd_none rfl) rfl (Rd.x (x_move rfl)) ?_
      refine sr_x rfl (wtd_none rfl) rfl (Rd.x (x_move rfl)) ?_
      refine sr_x rfl (wtd_none rfl) rfl (Rd.x (x_move rfl)) ?_
      refine sr_x rfl (wtd_none rfl) rfl (Rd.x (x_indexAddrN i Try.underlying22 sz28 rfl hay rfl (by omega) (by omega))) ?_
      refine sr_x rfl (wtd_none rfl) rfl (Rd.x (x_loadN ag28 sz28 rfl (Cells.mono hcy (Sub.nil _)) rfl)) ?_
      refine sr_new rfl (wtd_none rfl) rfl (x_buildSlice Try.underlying22 sz28 zr28 rfl rfl rfl rfl (by repeat (first | exact Parts.nil | (apply Parts.cons; rfl))) (by repeat (first | exact Fill.done | (apply Fill.part; rfl; rfl; rfl; focus (repeat (first | exact Spl.done | exact Spl.all rfl | apply Spl.put | apply Spl.skip)))))) ?_
      intro r22_5 hr22_5 gr22_5
      refine sr_d rfl (wtd_none rfl) rfl (opS_call rfl rfl rfl rfl cl40 (AC.sub (by repeat (first | exact Sub.refl _ | refine Sub.take (by repeat (first | exact Take.here | apply Take.there | apply Take.app)) ?_ | refine Sub.takeE (by repeat (first | exact TakeE.here | apply TakeE.there | apply TakeE.app)) ?_ | exact Sub.nil _ | apply Sub.drop | apply Sub.dropE)) (push_s q a cap W E ((r22_5, .cells (Job.cells y).toArray 28 (0, 0)) :: (Ei ++ [])) V (by omega) hh (some ⟨r22_5, 0, none⟩) 1 [y] (slv_own (n := 10) (enc := Job.cells) (xs := [y]) (post := []) (fun _ => rfl) List.mem_cons_self (hle := Nat.le_refl 1) (hcb := by decide)) (by show 1 ≤ 1000; decide)))) ?_
      rintro _ _ ⟨W3, a3, c3, E3, hp3, hh3, V3, rfl, rfl⟩
      have hl3 : W3.length = W.length + 1 := by have := hp3.length_eq; simpa using this
      refine sr_nil ?_
      refine aw_keep (keep_cons (t := 0) rfl (keep_cons (t := 1) rfl (keep_cons (t := 4) rfl (keep_cons (t := 5) rfl (keep_cons (t := 6) rfl (keep_cons (t := 7) rfl (keep_cons (t := 19) rfl (keep_cons (t := 20) rfl (keep_cons (t := 21) rfl (keep_cons (t := 22) rfl (keep_cons (t := 25) rfl (keep_cons (t := 26) rfl (keep_cons (t := 27) rfl (keep_cons (t := 28) rfl (keep_cons (t := 29) rfl (keep_cons (t := 30) rfl (keep_cons (t := 31) rfl (keep_cons (t := 32) rfl (keep_cons (t := 33) rfl (keep_cons (t := 34) rfl (keep_cons (t := 88) rfl (keep_cons (t := 89) rfl (keep_cons (t := 90) rfl (keep_cons (t := 91) rfl (keep_cons (t := 92) rfl (keep_cons (t := 93) rfl keep_nil)))))))))))))))))))))))))) ?_
      refine aw_region ?_
      refine sr_x rfl (wtd_none rfl) rfl (Rd.x (x_move rfl)) ?_
      refine sr_x rfl (wtd_none rfl) rfl (Rd.x (x_move rfl)) ?_
      refine sr_x rfl (wtd_none rfl) rfl (Rd.x (x_move rfl)) ?_
      refine sr_x rfl (wtd_none rfl) rfl (Rd.x (x_indexAddrN i Try.underlying22 sz28 rfl hay rfl (by omega) (by omega))) ?_
      refine sr_x rfl (wtd_none rfl) rfl (Rd.x (x_loadN ag28 sz28 rfl (Cells.mono hcy (Sub.nil _)) rfl)) ?_
      refine sr_new rfl (wtd_none rfl) rfl (x_buildSlice Try.underlying22 sz28 zr28 rfl rfl rfl rfl (by repeat (first | exact Parts.nil | (apply Parts.cons; rfl))) (by repeat (first | exact Fill.done | (apply Fill.part; rfl; rfl; rfl; focus (repeat (first | exact Spl.done | exact Spl.all rfl | apply Spl.put | apply Spl.skip)))))) ?_
      intro r23_5 hr23_5 gr23_5
      refine sr_d rfl (wtd_none rfl) rfl (opS_append (G := (r23_5, .cells (Job.cells y).toArray 28 (0, 0)) :: qu q (.slice a3 W3.length c3) :: (E3 ++ [])) (N := y.cells) (m := 1) Try.underlying22 sz28 zr28 rfl by28 rfl rfl VI (by repeat (first | exact Sub.refl _ | refine Sub.take (by repeat (first | exact Take.here | apply Take.there | apply Take.app)) ?_ | refine Sub.takeE (by repeat (first | exact TakeE.here | apply TakeE.there | apply TakeE.app)) ?_ | exact Sub.nil _ | apply Sub.drop | apply Sub.dropE)) (.inr ⟨_, _, rfl, (cells_ext (by repeat (first | exact List.mem_cons_self | apply List.mem_cons_of_mem | apply List.mem_append_right)) (by repeat (first | exact Ext.all _ | exact Ext.done | apply Ext.take | apply Ext.skip)))⟩) (rfl) rfl (by omega) (by omega)) ?_
      rintro v101 _ ⟨E101, hV101, rfl⟩
      obtain ⟨a101, cap101, rfl⟩ := hV101.isSl
      refine sr_x rfl (wtd_none rfl) rfl (Rd.x (x_assign rfl)) ?_
      refine sr_nil ?_
      show AW _ _ _ _ _ _ _
      refine aw_seq_region ?_
      refine sr_x rfl (wtd_none rfl) rfl (Rd.x (x_move rfl)) ?_
      refine sr_d rfl (wtd_none rfl) rfl (opS_call rfl rfl rfl rfl cl42 (qlen_s q a3 c3 W3 _ (cells_ext (by repeat (first | exact List.mem_cons_self | apply List.mem_cons_of_mem | apply List.mem_append_right)) (by repeat (first | exact Ext.all _ | exact Ext.done | apply Ext.take | apply Ext.skip))))) ?_
      rintro _ H9 ⟨rfl, rfl⟩
      refine sr_x rfl (wtd_none rfl) rfl (Rd.x (x_move rfl)) ?_
      refine sr_x rfl (wtd_none rfl) rfl (Rd.x (x_lenSlice Try.underlying22 rfl)) ?_
      refine sr_cmp rfl (wtd_none rfl) rfl (Rd.x (x_ne rfl rfl)) (fun h13 => absurd h13 (by first | omega | decide)) (fun h13 => ?_)
      refine sr_nil ?_
      refine aw_keep (keep_cons (t := 0) rfl (keep_cons (t := 1) rfl (keep_cons (t := 4) rfl (keep_cons (t := 5) rfl (keep_cons (t := 6) rfl (keep_cons (t := 7) rfl (keep_cons (t := 19) rfl (keep_cons (t := 20) rfl (keep_cons (t := 21) rfl (keep_cons (t := 22) rfl (keep_cons (t := 25) rfl (keep_cons (t := 26) rfl (keep_cons (t := 27) rfl (keep_cons (t := 28) rfl (keep_cons (t := 29) rfl (keep_cons (t := 30) rfl (keep_cons (t := 31) rfl (keep_cons (t := 32) rfl (keep_cons (t := 33) rfl (keep_cons (t := 34) rfl (keep_cons (t := 88) rfl (keep_cons (t := 89) rfl (keep_cons (t := 90) rfl (keep_cons (t := 91) rfl (keep_cons (t := 92) rfl (keep_cons (t := 93) rfl (keep_cons (t := 95) rfl (keep_cons (t := 96) rfl (keep_cons (t := 97) rfl (keep_cons (t := 98) rfl (keep_cons (t := 99) rfl (keep_cons (t := 100) rfl (keep_cons (t := 101) rfl (keep_cons (t := 102) rfl (keep_cons (t := 103) rfl (keep_cons (t := 104) rfl (keep_cons (t := 105) rfl (keep_cons (t := 106) rfl keep_nil)))))))))))))))))))))))))))))))))))))) ?_
      refine aw_false rfl ?_
      refine aw_skip ?_
      show AW _ _ _ _ _ _ _
      refine aw_region ?_
      refine sr_x rfl (wtd_none rfl) rfl (Rd.x (x_move rfl)) ?_
      refine sr_x rfl (wtd_none rfl) rfl (Rd.x (x_add' rfl rfl (i64w (by omega) (by omega)))) ?_
      refine sr_x rfl (wtd_none rfl) rfl (Rd.x (x_assign rfl)) ?_
      refine sr_nil ?_
      show ∃ s', _ ∧ _ ∧ _ ∧ _
      exact ⟨⟨i + 1, W3, a3, c3, E3, (IN ++ [y]), a101, cap101, E101⟩, ⟨by dsimp only; omega, by dsimp only; omega, hh3, ((hpm.append_right [y]).trans hp3.symm), V3, (OwnVec.snocS hV101)⟩, by dsimp only; omega, (by rw [List.length_append]; exact (by repeat (first | exact keep_nil | refine keep_cons rfl ?_))), (by repeat (first | exact Sub.refl _ | refine Sub.take (by repeat (first | exact Take.here | apply Take.there | apply Take.app)) ?_ | refine Sub.takeE (by repeat (first | exact TakeE.here | apply TakeE.there | apply TakeE.app)) ?_ | exact Sub.nil _ | apply Sub.drop | apply Sub.dropE))⟩
  · refine sr_nil ?_
    refine aw_keep (keep_cons (t := 0) rfl (keep_cons (t := 1) rfl (keep_cons (t := 4) rfl (keep_cons (t := 5) rfl (keep_cons (t := 6) rfl (keep_cons (t := 7) rfl (keep_cons (t := 19) rfl (keep_cons (t := 20) rfl (keep_cons (t := 21) rfl (keep_cons (t := 22) rfl keep_nil)))))))))) ?_
    refine aw_false rfl ?_
    refine aw_exit ?_
    show AW _ _ _ _ _ _ _
    refine aw_seq_region ?_
    refine sr_d rfl (wtd_none rfl) rfl (opS_call rfl rfl rfl rfl cl20 (awake_s _)) ?_
    rintro _ H ⟨rfl, rfl⟩
    refine sr_x rfl (wtd_none rfl) rfl (Rd.x (x_assign rfl)) ?_
    refine sr_nil ?_
    refine aw_keep (keep_cons (t := 4) rfl keep_nil) ?_
    refine aw_ret ?_
    show ∃ v H2, ResV _ _ _ _ _ _ v ∧ Sub H2 _ ∧ _
    exact ⟨_, [], resV rfl (.cons rfl .nil), (Sub.nil _), rfl⟩
end
namespace OrderQueuesRow
open Go.ChangeShapes Go.WideShapes Go.ChangeAt Go.RowKit
theorem own : ownKnob Try.prog.godebug = none := by kernel_rfl
theorem laid : laidOutB Try.prog = true := by kernel_rfl
set_option maxRecDepth 100000 in
theorem lifted (os : Os) (started : os.Started) (H : Type) (enc : TypeId × Value → H) :
    ReturnsInHanded {} Try.checked os 10 .any (Rows.orderQueuesSpec.pre6 enc Try.prog Try.f10 Rows.orderQueuesRow.domain false) (Rows.orderQueuesSpec.post enc Try.prog Try.f10 false true false false) := by
  refine law_lifted (C := Try.checked) (tb := 4) own started (by kernel_rfl) Try.func10 (ChangeSpec.witness6 (enc := enc) (C := Try.checked) false ⟨#[], #[.slice none 0 0, .slice none 0 0], []⟩ 8 (by kernel_rfl) (by kernel_rfl) (by kernel_rfl) (by kernel_rfl)) rfl Try.underlying4 rfl laid (by kernel_rfl) ?_ ?_
  · intro ds h
    match ds, h with
    | [a0, a1], _ => rfl
  · intro W base args ds ps hval hA hlt hsz
    have hA' : DataW.TrodAll enc Try.prog W 0 (fun _ => true) true [22, 65] args ds ps := hA
    clear hA
    obtain ⟨v0, vs0, d0, ds0, p0, q0, rfl, rfl, rfl, h0, r0⟩ := trodAll_cons hA'
    obtain ⟨v1, vs1, d1, ds1, p1, q1, rfl, rfl, rfl, h1, r1⟩ := trodAll_cons r0
    obtain ⟨rfl, rfl, rfl⟩ := trodAll_nil r1
    obtain ⟨a, cap, xs, rfl, hs, _⟩ := opn_slice Try.underlying22 cells28 (by decide) (fun fuel cs x h => read_Job h) (hval 0 22 v0 rfl rfl) h0
    obtain ⟨pa, pcap, ps, rfl, hps, _⟩ := opn_slice (en := fun b : Bool => [.bool b]) (Ok := fun _ => True) Try.underlying65 cells4 (by decide) (fun fuel cs x h => read_boolC h) (hval 1 65 v1 rfl rfl) h1
    exact orderQueues_s a cap xs hs pa pcap ps hps
theorem over : Rows.orderQueuesRow.holds Try.pinned (OpenSpec.ofChange Rows.orderQueuesSpec) :=
  OpenClaim.holds_of_wide 10 Try.f10 rfl rfl rfl rfl rfl rfl rfl ⟨rfl, rfl, rfl, rfl, rfl⟩ rfl rfl rfl rfl rfl (by kernel_rfl) Try.func10 (by kernel_rfl)
    (of_decide_eq_true (by kernel_rfl)) (by unfold Func.isWrapper; first | (rw [if_pos (by decide +kernel)]; kernel_rfl) | (rw [if_neg (by decide +kernel)]; exact ⟨rfl, rfl⟩))
    (fun os started H enc _ => lifted os started H enc)
theorem proved : Rows.OrderQueuesSaid := over
#print axioms proved
end OrderQueuesRow
end Go.Proofs.Ytlhmoojffopheaa
