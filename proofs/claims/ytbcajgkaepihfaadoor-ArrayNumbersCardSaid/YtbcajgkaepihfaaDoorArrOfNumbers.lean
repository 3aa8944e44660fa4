/- The numbers of any parts, or why there are none; no condition but that the listed variables lie as the program's text lays them. -/
import Derived.Test.YtbcajgkaepihfaaDoorSgc
import Derived.Test.YtbcajgkaepihfaaDoorSymLaid
import Derived.Test.YtbcajgkaepihfaaDoorRows
import Derived.Test.YtbcajgkaepihfaaDoorCards
import Derived.Test.YtbcajgkaepihfaaDoorTie
import Derived.Test.YtbcajgkaepihfaaDoorCut
import Derived.SevenTiedAt
namespace Go.Proofs.YtbcajgkaepihfaaDoor
open Go.Proofs.YtbcajgkaepihfaaDoor.Sym
open Go.RowKit (Below)
set_option linter.unusedVariables false
set_option linter.unusedSimpArgs false
theorem zr64 : zeroOf Tryd.prog 64 = some (.agg Tryd.zeroCells64) := by kernel_rfl
def isF : Value → Bool
  | .bool false => true
  | _ => false
theorem isF_eq {v : Value} (h : isF v = true) : v = .bool false := by
  unfold isF at h
  split at h
  · rfl
  · cases h
theorem zall : Tryd.zeroCells64.toList.all isF = true := by kernel_rfl
theorem zrep : Tryd.zeroCells64.toList = List.replicate 10000 (.bool false) := by
  rw [List.eq_replicate_iff]
  refine ⟨?_, fun b hb => isF_eq (List.all_eq_true.1 zall b hb)⟩
  rw [Array.length_toList]; exact Tryd.zeroCells64_size
/-- Which numbers below 10000 are in a list. -/
def inB (S : List Int) : List Value := (List.range 10000).map fun (k : Nat) => .bool (decide ((k : Int) ∈ S))
theorem inB_len (S : List Int) : (inB S).length = 10000 := by unfold inB; rw [List.length_map, List.length_range]
theorem inB_get {S : List Int} {k : Nat} (h : k < 10000) : (inB S)[k]? = some (.bool (decide ((k : Int) ∈ S))) := by unfold inB; rw [List.getElem?_map, List.getElem?_range h]; rfl
theorem zero_inB : Tryd.zeroCells64.toList = inB [] := by
  rw [zrep]
  symm
  rw [List.eq_replicate_iff]
  refine ⟨inB_len _, fun b hb => ?_⟩
  unfold inB at hb
  rw [List.mem_map] at hb
  obtain ⟨k, _, rfl⟩ := hb
  exact congrArg Value.bool (decide_eq_false (List.not_mem_nil))
theorem inB_set {S : List Int} {n : Int} (h0 : 0 ≤ n) (h1 : n ≤ 9999) : (inB S).set n.toNat (.bool true) = inB (S ++ [n]) := by
  apply List.ext_getElem?
  intro k
  rcases Nat.lt_or_ge k 10000 with hk | hk
  · rw [inB_get hk, List.getElem?_set]
    by_cases e : n.toNat = k
    · rw [if_pos e, if_pos (by rw [inB_len]; omega)]
      have : (k : Int) ∈ S ++ [n] := by rw [List.mem_append, List.mem_singleton]; right; omega
      rw [decide_eq_true this]
    · rw [if_neg e, inB_get hk]
      congr 2
      exact decide_eq_decide.2 ⟨fun q => List.mem_append_left _ q, fun q => by
        rw [List.mem_append, List.mem_singleton] at q
        rcases q with q | q
        · exact q
        · omega⟩
  · rw [List.getElem?_eq_none (by rw [List.length_set, inB_len]; exact hk), List.getElem?_eq_none (by rw [inB_len]; exact hk)]
theorem spl_in {S : List Int} {n : Int} (h0 : 0 ≤ n) (h1 : n ≤ 9999) : Spl (inB S) (0 + n.toNat * 1) [.bool true] (inB (S ++ [n])) := by
  rw [← inB_set h0 h1, Nat.zero_add, Nat.mul_one]
  exact spl_set (by rw [inB_len]; omega)
theorem cells_in {W0 : World} {H : SHeap} {b : Nat} {S : List Int} {k : Nat} (hm : (b, Obj.cells (inB S).toArray 64 (0, 0)) ∈ H) (h : k < 10000) : Cells W0 H b (0 + (k : Int).toNat * 1) [.bool (decide ((k : Int) ∈ S))] :=
  cells_get (cells_own (pre := []) (vs := inB S) (post := []) (by rw [List.nil_append, List.append_nil]; exact hm) rfl) _ (by rw [Nat.mul_one, Int.toNat_natCast]; exact inB_get h)
def ascS (S : List Int) (k : Nat) : List Int := ((List.range k).map fun (i : Nat) => (i : Int)).filter fun t => decide (t ∈ S)
theorem ascS_y {S : List Int} {k : Nat} (h : (k : Int) ∈ S) : ascS S (k + 1) = ascS S k ++ [(k : Int)] := by
  unfold ascS; rw [List.range_succ, List.map_append, List.filter_append, List.map_cons, List.map_nil, List.filter_cons, if_pos (decide_eq_true h)]; rfl
theorem ascS_n {S : List Int} {k : Nat} (h : ¬ (k : Int) ∈ S) : ascS S (k + 1) = ascS S k := by
  unfold ascS; rw [List.range_succ, List.map_append, List.filter_append, List.map_cons, List.map_nil, List.filter_cons, if_neg (fun q => h (of_decide_eq_true q))]; simp
theorem ascS_len {S : List Int} : ∀ k : Nat, (ascS S k).length ≤ k
  | 0 => Nat.le_refl _
  | k + 1 => by
    have := ascS_len (S := S) k
    by_cases h : (k : Int) ∈ S
    · rw [ascS_y h, List.length_append, List.length_singleton]; omega
    · rw [ascS_n h]; omega
theorem ascS_pre {S : List Int} {k : Nat} (h : (k : Int) ∈ S) : ∀ m : Nat, k < m → ∃ r, ascS S m = ascS S k ++ (k : Int) :: r := by
  intro m
  induction m with
  | zero => intro q; omega
  | succ m ih =>
    intro q
    by_cases e : k = m
    · subst e; exact ⟨[], ascS_y h⟩
    · obtain ⟨r, hr⟩ := ih (by omega)
      by_cases h2 : (m : Int) ∈ S
      · exact ⟨r ++ [(m : Int)], by rw [ascS_y h2, hr, List.append_assoc]; rfl⟩
      · exact ⟨r, by rw [ascS_n h2, hr]⟩
theorem ascS_get {S : List Int} {k m : Nat} (h : (k : Int) ∈ S) (hk : k < m) : (ascS S m)[(ascS S k).length]? = some (k : Int) := by
  obtain ⟨r, hr⟩ := ascS_pre h m hk
  rw [hr, List.getElem?_append_right (Nat.le_refl _), Nat.sub_self]; rfl
theorem ascS_tms {S : List Int} (h : ∀ t ∈ S, 0 ≤ t ∧ t ≤ 9999) : Tms S (ascS S 10000) := by
  refine ⟨?_, fun t => ?_⟩
  · unfold ascS
    refine List.Pairwise.filter _ (List.pairwise_map.2 ?_)
    exact List.Pairwise.imp (fun q => by omega) List.pairwise_lt_range
  · unfold ascS
    rw [List.mem_filter, List.mem_map]
    refine ⟨fun q => of_decide_eq_true q.2, fun q => ⟨⟨t.toNat, ?_, ?_⟩, decide_eq_true q⟩⟩
    · rw [List.mem_range]; have := h t q; omega
    · have := h t q; omega
theorem partL_len {p : Part} : (partL p).length = (manyI p).toNat := partT_len
def NumE (xs : List Part) (e : Int) (S : List Int) (all : Int) (i : Nat) : Prop := (e = 0 ∧ numG [] xs = numG S (xs.drop i) ∧ all = S.length ∧ S.length ≤ 16000) ∨ (e ≠ 0 ∧ numG [] xs = .inr e)
/-- Why there are none, or which there are. -/
theorem num_end {xs : List Part} {ys : List Int} {e d : Int} {S : List Int} {all : Int} {i : Nat} (hR : NumR xs ys d) (h : NumE xs e S all i) (hi : ¬ (i < xs.length ∧ e = 0)) (hb : ∀ t ∈ S, 0 ≤ t ∧ t ≤ 9999) :
    (e ≠ 0 ∧ ys = [] ∧ d = e) ∨ (e = 0 ∧ 1000 < (ascS S 10000).length ∧ ys = [] ∧ d = 6) ∨ (e = 0 ∧ (ascS S 10000).length ≤ 1000 ∧ ys = ascS S 10000 ∧ d = 0) := by
  unfold NumR at hR
  rcases h with ⟨rfl, h1, h2, h3⟩ | ⟨h1, h2⟩
  · rw [List.drop_eq_nil_of_le (by omega)] at h1
    rw [h1] at hR
    obtain ⟨z, t, hz⟩ := hR
    have hz2 := t.uniq (ascS_tms hb)
    rw [hz2] at hz
    rcases hz with ⟨a1, a2, a3⟩ | ⟨a1, a2, a3⟩
    · exact .inr (.inl ⟨rfl, a1, a2, a3⟩)
    · exact .inr (.inr ⟨rfl, a1, a2, a3⟩)
  · rw [h2] at hR
    exact .inl ⟨h1, hR.1, hR.2⟩
structure AnG where
  i : Nat
  e : Int
  S : List Int
  all : Int
theorem ag4 : aggOf Tryd.prog 4 = some false := by kernel_rfl
theorem cells3 : Tryd.prog.cellsOf 3 = 1 := by kernel_rfl
theorem cells67 : Tryd.prog.cellsOf 67 = 3 := by kernel_rfl
theorem cl38 : Callable Tryd.prog 38 := ⟨Tryd.f38, Tryd.func38, by kernel_rfl, by kernel_rfl⟩
theorem cl39 : Callable Tryd.prog 39 := ⟨Tryd.f39, Tryd.func39, by kernel_rfl, by kernel_rfl⟩
theorem cl43 : Callable Tryd.prog 43 := ⟨Tryd.f43, Tryd.func43, by kernel_rfl, by kernel_rfl⟩
theorem sz4 : szOf Tryd.prog 4 = some 1 := by kernel_rfl
section
variable {W0 : World}
set_option maxRecDepth 100000 in
theorem read_Part {H : Type} {enc : TypeId × Value → H} {w : World} {base : Nat} {spare : Nat → Bool} {held : Bool} {fuel : Nat} {cs : List Value} {x : DataW H × List MemPlace} (h : DataW.trod enc Tryd.prog w base spare held fuel 67 cs = some x) : ∃ j : Part, cs = j.cells ∧ j.Wf := by
  obtain ⟨hlen, n, hf⟩ := read_struct Tryd.underlying67 h
  rw [cells67] at hlen
  obtain ⟨a0, e0, l0, u0⟩ := read_int Tryd.underlying3 cells3 (hf 0 _ rfl)
  obtain ⟨a1, e1, l1, u1⟩ := read_int Tryd.underlying3 cells3 (hf 1 _ rfl)
  obtain ⟨a2, e2, l2, u2⟩ := read_int Tryd.underlying3 cells3 (hf 2 _ rfl)
  refine ⟨⟨a0, a1, a2⟩, ?_, ⟨l0, u0, l1, u1, l2, u2⟩⟩
  apply List.ext_getElem?
  intro i
  match i with
  | 0 => exact e0
  | 1 => exact e1
  | 2 => exact e2
  | i + 3 => rw [List.getElem?_eq_none (by omega), List.getElem?_eq_none (by simp)]
set_option maxRecDepth 100000 in
theorem open_Part {H : Type} {enc : TypeId × Value → H} {w : World} {base b0 : Nat} {spare : Nat → Bool} {held : Bool} {v : Value} {d : DataW H} {p : List MemPlace} {r : Reach} (hv : Value.okWide Tryd.prog w r b0 67 v) (h : DataW.Trod enc Tryd.prog w base spare held 67 v d p) : ∃ j : Part, v = j.v ∧ j.Wf := by
  obtain ⟨cs, rfl, _⟩ := Go.WideShapes.okWide_struct Tryd.underlying67 hv
  obtain ⟨fuel, hf⟩ := h
  obtain ⟨j, h1, h2⟩ := read_Part hf
  refine ⟨j, ?_, h2⟩
  have : cs = j.cells.toArray := by apply Array.toList_inj.1; exact h1
  rw [this]
end

section
variable {W0 : World}
set_option maxRecDepth 100000 in
set_option maxHeartbeats 4000000 in
theorem arrayNumbers_s (sa : Option Addr) (scap : Nat) (l : List Part) (hs0 : ∀ G, SlV W0 G 3 Part.cells sa scap l) : AC Tryd.prog W0 13 [.slice sa l.length scap] [] (fun v _ => v = .bool true) := by
  have hle0 := (hs0 []).le
  have hcb0 := (hs0 []).capb
  refine ac_of Tryd.func13 rfl rfl rfl ?_
  refine aw_seq_region ?_
  refine sr_as ?_
  refine sr_nil ?_
  refine aw_kp [0, 2] ?_
  refine aw_seq_region ?_
  refine sr_mv ?_
  refine sr_d rfl (wtd_none rfl) rfl (opS_call rfl rfl rfl rfl cl38 (fewp_s sa scap l _ (by omega) (by omega))) ?_
  rintro _ _ ⟨rfl, rfl⟩
  obtain ⟨xs, hxs⟩ : ∃ xs, xs = l.take 20 := ⟨_, rfl⟩
  have hs : ∀ G, SlV W0 G 3 Part.cells sa scap xs := fun G => hxs ▸ (hs0 G).take 20
  have hx20 : xs.length ≤ 20 := by rw [hxs, List.length_take]; omega
  rw [← hxs]
  have hle := (hs []).le
  have hcb := (hs []).capb
  refine sr_as ?_
  refine sr_nil ?_
  refine aw_kp [0, 2] ?_
  refine aw_seq_region ?_
  refine sr_new rfl (wtd_none rfl) rfl (x_alloc (cs := Tryd.zeroCells64.toList) zr64 (Array.toArray_toList).symm) ?_
  intro r2_0 hr2_0 gr2_0
  refine sr_nil ?_
  refine aw_kp [0, 2, 3] ?_
  refine aw_seq_region ?_
  refine sr_as ?_
  refine sr_nil ?_
  refine aw_kp [0, 2, 3, 4] ?_
  refine aw_seq_region ?_
  refine sr_as ?_
  refine sr_nil ?_
  refine aw_kp [0, 2, 3, 4, 5] ?_
  refine aw_seq ?_
  refine aw_seq_region ?_
  refine sr_as ?_
  refine sr_nil ?_
  refine aw_kp [0, 2, 3, 4, 5, 6] ?_
  refine aw_block ?_
  refine aw_loop (ι := AnG) (fun s => s.i ≤ xs.length ∧ (∀ t ∈ s.S, 0 ≤ t ∧ t ≤ 9999) ∧ (0 ≤ s.all ∧ s.all ≤ 10000 * (s.i : Int)) ∧ NumE xs s.e s.S s.all s.i) (fun s => [(0, .slice sa xs.length scap), (2, .bool false), (3, .pointer (some ⟨r2_0, 0, none⟩)), (4, .int .i64 s.e), (5, .int .i64 s.all), (6, .int .i64 s.i)]) (fun s => [(r2_0, .cells (inB (s.S)).toArray 64 (0, 0))]) (fun s => xs.length - s.i) ⟨0, 0, [], 0⟩ (⟨Nat.zero_le _, by simp, by dsimp only; omega, .inl ⟨rfl, rfl, rfl, by simp⟩⟩) KeepF.auto (by rw [zero_inB]; exact Sub.refl _) ?_
  intro s hs9
  obtain ⟨i, e, S, all⟩ := s
  dsimp only at hs9 ⊢
  obtain ⟨hi, hb, hab, hor⟩ := hs9
  refine aw_seq ?_
  refine aw_seq_region ?_
  refine sr_mv ?_
  refine sr_mv ?_
  refine sr_rd (x_lenSlice Tryd.underlying62 rfl) ?_
  refine sr_c (x_lt rfl rfl) (fun h1 => ?_) (fun h1 => ?_)
  · refine sr_mv ?_
    refine sr_ry (x_move rfl) ?_
    refine sr_cy (x_eq rfl rfl) (fun h2 => ?_) (fun h2 => ?_)
    · refine sr_rd (x_pick_t rfl rfl rfl) ?_
      refine sr_nil ?_
      refine aw_kp [0, 2, 3, 4, 5, 6, 17, 18, 19, 20, 21, 22, 23, 24] ?_
      refine aw_true rfl ?_
      refine aw_skip ?_
      show AW _ _ _ _ _ _ _
      refine aw_seq ?_
      refine aw_block ?_
      refine aw_seq_region ?_
      have hor1 := hor.resolve_right (fun q => q.1 (by assumption))
      clear hor
      obtain ⟨rfl, hgo, hall, hSl⟩ := hor1
      obtain ⟨x, hx⟩ := get_ex (show i < xs.length by omega)
      obtain ⟨bx, ox, hax, hcx⟩ := (hs []).at_ i _ hx
      refine sr_as ?_
      refine sr_nil ?_
      refine aw_kp [0, 2, 3, 4, 5, 6, 7, 17, 18, 19, 20, 21, 22, 23, 24] ?_
      refine aw_seq ?_
      refine aw_seq_region ?_
      refine sr_mv ?_
      refine sr_mv ?_
      refine sr_rd (x_indexAddrN (i) Tryd.underlying62 sz67 rfl hax rfl (by omega) (by omega)) ?_
      refine sr_rd (x_loadN ag67 sz67 rfl (Cells.mono hcx (Sub.nil _)) rfl) ?_
      refine sr_d rfl (wtd_none rfl) rfl (opS_call rfl rfl rfl rfl cl39 (lpright_s x _)) ?_
      rintro _ H9 ⟨rfl, rfl⟩
      generalize hd : decide (PRight x) = d1
      cases d1
      · refine sr_nil ?_
        refine aw_kp [0, 2, 3, 4, 5, 6, 7, 17, 18, 19, 20, 21, 22, 23, 24, 27, 28, 29, 30, 31] ?_
        refine aw_false rfl ?_
        refine aw_region ?_
        refine sr_as ?_
        refine sr_nil ?_
        show AW _ _ _ _ _ _ _
        refine aw_seq_region ?_
        have hjm : (0 : Int) = manyI x := (many_n (of_decide_eq_false hd)).symm
        refine sr_mv ?_
        refine sr_mv ?_
        refine sr_rd (x_add' rfl rfl (i64w (by omega) (by omega))) ?_
        refine sr_as ?_
        refine sr_nil ?_
        refine aw_kp [0, 2, 3, 4, 5, 6, 7, 17, 18, 19, 20, 21, 22, 23, 24, 27, 28, 29, 30, 31, 55, 56, 57] ?_
        refine aw_seq ?_
        refine aw_seq_region ?_
        refine sr_mv ?_
        refine sr_c (x_eq rfl rfl) (fun h3 => absurd h3 (by first | rfl | decide | omega)) (fun h3 => ?_)
        refine sr_mv ?_
        refine sr_sk ?_
        refine sr_sk ?_
        refine sr_sk ?_
        refine sr_skip rfl (wtd_un rfl rfl rfl) rfl ?_
        refine sr_skip rfl (wtd_un rfl rfl rfl) rfl ?_
        refine sr_sk ?_
        refine sr_rd (x_pick_f rfl rfl rfl) ?_
        refine sr_nil ?_
        refine aw_kp [0, 2, 3, 4, 5, 6, 7, 17, 18, 19, 20, 21, 22, 23, 24, 27, 28, 29, 30, 31, 55, 56, 57, 58, 59, 60, 61, 62, 63, 64, 65, 66, 67] ?_
        refine aw_false rfl ?_
        refine aw_skip ?_
        show AW _ _ _ _ _ _ _
        refine aw_seq_dr ⟨_, 20, 153, [[], [], [0, 1], [0, 1, 2], [0, 1, 2, 3], [], [], [5, 6], [5, 6, 7], [0, 1, 2, 3, 4, 5, 6, 7, 8], [0, 1, 2, 3, 4, 5, 6, 7, 8, 9], [0, 1, 2, 3, 4, 5, 6, 7, 8, 9, 10], [0, 1, 2, 3, 4, 5, 6, 7, 8, 9, 10, 11], [0, 1, 2, 3, 4, 5, 6, 7, 8, 9, 10, 11], [0, 1, 2, 3, 4, 5, 6, 7, 8, 9, 10, 11, 12, 13], [0, 1, 2, 3, 4, 5, 6, 7, 8, 9, 10, 11, 12, 13, 14], [0, 1, 2, 3, 4, 5, 6, 7, 8, 9, 10, 11, 12, 13, 14, 15], [0, 1, 2, 3, 4, 5, 6, 7, 8, 9, 10, 11], [0, 1, 2, 3, 4, 5, 6, 7, 8, 9, 10, 11, 12, 13, 14, 15, 16, 17], [0, 1, 2, 3, 4, 5, 6, 7, 8, 9, 10, 11, 12, 13, 14, 15, 16, 17, 18]], [.light, .light, .light, .mem, .call, .light, .light, .light, .mem, .call, .light, .light, .light, .light, .light, .mem, .call, .light, .light, .light]⟩ (by kernel_rfl) rfl rfl mix ?_
        refine dr_l (x_move rfl) ?_
        refine dr_l (x_move rfl) ?_
        refine dr_l (x_indexAddrN (i) Tryd.underlying62 sz67 rfl hax rfl (by omega) (by omega)) ?_
        refine dr_mem0 rfl rfl (wtd_none rfl) (x_loadN ag67 sz67 rfl (Cells.mono hcx (Sub.nil _)) rfl) ?_
        refine dr_callq0 rfl rfl (wtd_none rfl) (opS_F rfl rfl rfl rfl cl40 ((pright_s x _))) (⟨_, rfl⟩) ?_
        rintro _ rfl
        refine dr_l (x_move rfl) ?_
        refine dr_l (x_move rfl) ?_
        refine dr_l (x_indexAddrN (i) Tryd.underlying62 sz67 rfl hax rfl (by omega) (by omega)) ?_
        refine dr_mem0 rfl rfl (wtd_none rfl) (x_loadN ag67 sz67 rfl (Cells.mono hcx (Sub.nil _)) rfl) ?_
        refine dr_callq0 rfl rfl (wtd_none rfl) (opS_F rfl rfl rfl rfl cl39 ((lpright_s x _))) (⟨_, rfl⟩) ?_
        rintro _ rfl
        refine dr_l (x_cast (u := .bool false) (x_neb Tryd.underlying4 rfl rfl) (by simp)) ?_
        refine dr_l (x_move rfl) ?_
        refine dr_y (x_move rfl) ?_
        refine dr_y (x_move rfl) ?_
        refine dr_y (x_indexAddrN (i) Tryd.underlying62 sz67 rfl hax rfl (by omega) (by omega)) ?_
        refine dr_mem0 rfl rfl (wtd_yes rfl rfl rfl) (x_loadN ag67 sz67 rfl (Cells.mono hcx (Sub.nil _)) rfl) ?_
        refine dr_callq0 rfl rfl (wtd_yes rfl rfl rfl) (opS_F rfl rfl rfl rfl cl41 ((many_s x _))) (⟨_, rfl⟩) ?_
        rintro _ rfl
        refine dr_y (x_move rfl) ?_
        refine dr_cmp rfl rfl (wtd_yes rfl rfl rfl) (x_ne rfl rfl) (fun h4 => absurd h4 (by first | omega | decide)) (fun h4 => ?_)
        refine dr_l (x_pick_f rfl rfl rfl) ?_
        refine dr_nil0 ?_
        refine aw_kp [0, 2, 3, 4, 5, 6, 7, 17, 18, 19, 20, 21, 22, 23, 24, 27, 28, 29, 30, 31, 55, 56, 57, 58, 59, 60, 61, 62, 63, 64, 65, 66, 67, 68, 69, 70, 71, 72, 73, 74, 75, 76, 77, 78, 79, 80, 81, 82, 83, 84, 85, 86, 87] ?_
        refine aw_false rfl ?_
        refine aw_skip ?_
        show AW _ _ _ _ _ _ _
        refine aw_region ?_
        refine sr_mv ?_
        refine sr_rd (x_add' rfl rfl (i64w (by omega) (by omega))) ?_
        refine sr_as ?_
        refine sr_nil ?_
        show ∃ s', _ ∧ _ ∧ _ ∧ _
        exact ⟨⟨i + 1, 5, S, all + 0⟩, ⟨by dsimp only; omega, hb, by dsimp only; omega, .inr ⟨(show (5 : Int) ≠ 0 by decide), (by dsimp only; rw [hgo, drop_at hx, numG_bad (of_decide_eq_false hd)])⟩⟩, by dsimp only; omega, KeepF.auto, Sub.autoP⟩
      · refine sr_nil ?_
        refine aw_kp [0, 2, 3, 4, 5, 6, 7, 17, 18, 19, 20, 21, 22, 23, 24, 27, 28, 29, 30, 31] ?_
        refine aw_true rfl ?_
        refine aw_seq_region ?_
        have hR : PRight x := of_decide_eq_true hd
        have hR2 := hR
        unfold PRight at hR2
        refine sr_mv ?_
        refine sr_mv ?_
        refine sr_rd (x_indexAddrN (i) Tryd.underlying62 sz67 rfl hax rfl (by omega) (by omega)) ?_
        refine sr_rd (x_fieldAddr fd67_0 rfl) ?_
        refine sr_rd (x_load ag3 rfl (cells_get (Cells.mono hcx (Sub.nil _)) 0 rfl)) ?_
        refine sr_as ?_
        refine sr_nil ?_
        refine aw_kp [0, 2, 3, 4, 5, 6, 7, 8, 17, 18, 19, 20, 21, 22, 23, 24, 27, 28, 29, 30, 31, 32, 33, 34, 35, 36] ?_
        refine aw_block ?_
        refine aw_keep (keep_cons (t := 0) rfl (keep_cons (t := 2) rfl (keep_cons (t := 3) rfl (keep_cons (t := 4) rfl (keep_cons (t := 5) rfl (keep_cons (t := 6) rfl (keep_cons (t := 7) rfl (keep_cons (t := 8) (v := .int .i64 (x.from_ + ((0 : Nat) : Int) * x.step)) (congrArg (fun z => some (Value.int .i64 z)) (by simp)) keep_nil)))))))) ?_
        refine aw_loop (ι := Nat) (fun j => j ≤ 10000 ∧ 0 ≤ (j : Int) * x.step ∧ x.from_ + (j : Int) * x.step ≤ x.to_ + x.step ∧ ∀ t ∈ S ++ partT x j, 0 ≤ t ∧ t ≤ 9999) (fun j => [(0, .slice sa xs.length scap), (2, .bool false), (3, .pointer (some ⟨r2_0, 0, none⟩)), (4, .int .i64 0), (5, .int .i64 all), (6, .int .i64 i), (7, .int .i64 (j : Nat)), (8, .int .i64 (x.from_ + (j : Int) * x.step))]) (fun j => [(r2_0, .cells (inB (S ++ partT x j)).toArray 64 (0, 0))]) (fun j => (x.to_ + 1 - (x.from_ + (j : Int) * x.step)).toNat) 0 (⟨Nat.zero_le _, by simp, by rw [show ((0 : Nat) : Int) * x.step = 0 by simp]; omega, by rw [show S ++ partT x 0 = S from List.append_nil S]; exact hb⟩) KeepF.auto (by rw [show S ++ partT x 0 = S from List.append_nil S]; exact Sub.refl _) ?_
        intro j hj9
        obtain ⟨hj1, hj2, hj3, hbj⟩ := hj9
        refine aw_seq ?_
        refine aw_seq_region ?_
        refine sr_mv ?_
        refine sr_mv ?_
        refine sr_mv ?_
        refine sr_rd (x_indexAddrN (i) Tryd.underlying62 sz67 rfl hax rfl (by omega) (by omega)) ?_
        refine sr_rd (x_fieldAddr fd67_1 rfl) ?_
        refine sr_rd (x_load ag3 rfl (cells_get (Cells.mono hcx (Sub.nil _)) 1 rfl)) ?_
        refine sr_c (x_le rfl rfl) (fun h5 => ?_) (fun h5 => ?_)
        · refine sr_nil ?_
          refine aw_kp [0, 2, 3, 4, 5, 6, 7, 8, 37, 38, 39, 40, 41, 42, 43] ?_
          refine aw_true rfl ?_
          refine aw_skip ?_
          show AW _ _ _ _ _ _ _
          refine aw_seq ?_
          refine aw_block ?_
          refine aw_seq_region ?_
          have hjl := jstep_le hR (by assumption)
          refine sr_mv ?_
          refine sr_rd (x_indexAddrA Tryd.underlying64 sz4 rfl rfl (by omega) (by omega)) ?_
          refine sr_x0 rfl (wtd_none rfl) (x_store sz4 rfl rfl rfl rfl rfl Repl.auto (spl_in (by omega) (by omega))) ?_
          refine sr_nil ?_
          refine aw_kp [0, 2, 3, 4, 5, 6, 7, 8, 37, 38, 39, 40, 41, 42, 43, 51, 52] ?_
          refine aw_region ?_
          refine sr_mv ?_
          refine sr_rd (x_add' rfl rfl (i64w (by omega) (by omega))) ?_
          refine sr_as ?_
          refine sr_nil ?_
          show AW _ _ _ _ _ _ _
          refine aw_region ?_
          refine sr_mv ?_
          refine sr_mv ?_
          refine sr_mv ?_
          refine sr_rd (x_indexAddrN (i) Tryd.underlying62 sz67 rfl hax rfl (by omega) (by omega)) ?_
          refine sr_rd (x_fieldAddr fd67_2 rfl) ?_
          refine sr_rd (x_load ag3 rfl (cells_get (Cells.mono hcx (Sub.nil _)) 2 rfl)) ?_
          refine sr_rd (x_cast (u := .int .i64 (x.from_ + ((j + 1 : Nat) : Int) * x.step)) (x_add' rfl rfl (i64w (by omega) (by omega))) (congrArg (Value.int .i64) (by rw [Int.natCast_succ, Int.add_mul, Int.one_mul, Int.add_assoc]))) ?_
          refine sr_as ?_
          refine sr_nil ?_
          show ∃ s', _ ∧ _ ∧ _ ∧ _
          exact ⟨j + 1, ⟨by omega, (by rw [Int.natCast_succ, Int.add_mul, Int.one_mul]; omega), (by rw [Int.natCast_succ, Int.add_mul, Int.one_mul]; omega), (by rw [partT_succ, ← List.append_assoc]; intro t ht; rw [List.mem_append, List.mem_singleton] at ht; rcases ht with ht | ht; exact hbj t ht; omega)⟩, (by rw [Int.natCast_succ, Int.add_mul, Int.one_mul]; omega), KeepF.auto, (by rw [partT_succ, ← List.append_assoc]; exact Sub.refl _)⟩
        · refine sr_nil ?_
          refine aw_kp [0, 2, 3, 4, 5, 6, 7, 8, 37, 38, 39, 40, 41, 42, 43] ?_
          refine aw_false rfl ?_
          refine aw_exit ?_
          show AW _ _ _ _ _ _ _
          refine aw_seq_region ?_
          have hend : partT x j = partL x := partT_end hR (by omega) (by omega)
          have hjm : (j : Int) = manyI x := by have h9 := congrArg List.length hend; rw [partT_len, partL_len] at h9; have := many_bd x; omega
          refine sr_mv ?_
          refine sr_mv ?_
          refine sr_rd (x_add' rfl rfl (i64w (by omega) (by omega))) ?_
          refine sr_as ?_
          refine sr_nil ?_
          refine aw_kp [0, 2, 3, 4, 5, 6, 7, 8, 37, 38, 39, 40, 41, 42, 43, 55, 56, 57] ?_
          refine aw_seq ?_
          refine aw_seq_region ?_
          refine sr_mv ?_
          refine sr_c (x_eq rfl rfl) (fun h6 => ?_) (fun h6 => absurd (by first | rfl | decide | omega) h6)
          refine sr_mv ?_
          refine sr_ry (x_move rfl) ?_
          refine sr_cy (x_gt rfl rfl) (fun h7 => ?_) (fun h7 => ?_)
          · refine sr_ry (x_move rfl) ?_
            refine sr_sk ?_
            refine sr_sk ?_
            refine sr_ry (x_pick_t rfl rfl rfl) ?_
            refine sr_rd (x_pick_t rfl rfl rfl) ?_
            refine sr_nil ?_
            refine aw_kp [0, 2, 3, 4, 5, 6, 7, 8, 37, 38, 39, 40, 41, 42, 43, 55, 56, 57, 58, 59, 60, 61, 62, 63, 64, 65, 66, 67] ?_
            refine aw_true rfl ?_
            refine aw_region ?_
            refine sr_as ?_
            refine sr_nil ?_
            show AW _ _ _ _ _ _ _
            refine aw_seq_dr ⟨_, 20, 153, [[], [], [0, 1], [0, 1, 2], [0, 1, 2, 3], [], [], [5, 6], [5, 6, 7], [0, 1, 2, 3, 4, 5, 6, 7, 8], [0, 1, 2, 3, 4, 5, 6, 7, 8, 9], [0, 1, 2, 3, 4, 5, 6, 7, 8, 9, 10], [0, 1, 2, 3, 4, 5, 6, 7, 8, 9, 10, 11], [0, 1, 2, 3, 4, 5, 6, 7, 8, 9, 10, 11], [0, 1, 2, 3, 4, 5, 6, 7, 8, 9, 10, 11, 12, 13], [0, 1, 2, 3, 4, 5, 6, 7, 8, 9, 10, 11, 12, 13, 14], [0, 1, 2, 3, 4, 5, 6, 7, 8, 9, 10, 11, 12, 13, 14, 15], [0, 1, 2, 3, 4, 5, 6, 7, 8, 9, 10, 11], [0, 1, 2, 3, 4, 5, 6, 7, 8, 9, 10, 11, 12, 13, 14, 15, 16, 17], [0, 1, 2, 3, 4, 5, 6, 7, 8, 9, 10, 11, 12, 13, 14, 15, 16, 17, 18]], [.light, .light, .light, .mem, .call, .light, .light, .light, .mem, .call, .light, .light, .light, .light, .light, .mem, .call, .light, .light, .light]⟩ (by kernel_rfl) rfl rfl mix ?_
            refine dr_l (x_move rfl) ?_
            refine dr_l (x_move rfl) ?_
            refine dr_l (x_indexAddrN (i) Tryd.underlying62 sz67 rfl hax rfl (by omega) (by omega)) ?_
            refine dr_mem0 rfl rfl (wtd_none rfl) (x_loadN ag67 sz67 rfl (Cells.mono hcx (Sub.nil _)) rfl) ?_
            refine dr_callq0 rfl rfl (wtd_none rfl) (opS_F rfl rfl rfl rfl cl40 ((pright_s x _))) (⟨_, rfl⟩) ?_
            rintro _ rfl
            refine dr_l (x_move rfl) ?_
            refine dr_l (x_move rfl) ?_
            refine dr_l (x_indexAddrN (i) Tryd.underlying62 sz67 rfl hax rfl (by omega) (by omega)) ?_
            refine dr_mem0 rfl rfl (wtd_none rfl) (x_loadN ag67 sz67 rfl (Cells.mono hcx (Sub.nil _)) rfl) ?_
            refine dr_callq0 rfl rfl (wtd_none rfl) (opS_F rfl rfl rfl rfl cl39 ((lpright_s x _))) (⟨_, rfl⟩) ?_
            rintro _ rfl
            refine dr_l (x_cast (u := .bool false) (x_neb Tryd.underlying4 rfl rfl) (by simp)) ?_
            refine dr_l (x_move rfl) ?_
            refine dr_y (x_move rfl) ?_
            refine dr_y (x_move rfl) ?_
            refine dr_y (x_indexAddrN (i) Tryd.underlying62 sz67 rfl hax rfl (by omega) (by omega)) ?_
            refine dr_mem0 rfl rfl (wtd_yes rfl rfl rfl) (x_loadN ag67 sz67 rfl (Cells.mono hcx (Sub.nil _)) rfl) ?_
            refine dr_callq0 rfl rfl (wtd_yes rfl rfl rfl) (opS_F rfl rfl rfl rfl cl41 ((many_s x _))) (⟨_, rfl⟩) ?_
            rintro _ rfl
            refine dr_y (x_move rfl) ?_
            refine dr_cmp rfl rfl (wtd_yes rfl rfl rfl) (x_ne rfl rfl) (fun h8 => absurd h8 (by first | omega | decide)) (fun h8 => ?_)
            refine dr_l (x_pick_f rfl rfl rfl) ?_
            refine dr_nil0 ?_
            refine aw_kp [0, 2, 3, 4, 5, 6, 7, 8, 37, 38, 39, 40, 41, 42, 43, 55, 56, 57, 58, 59, 60, 61, 62, 63, 64, 65, 66, 67, 68, 69, 70, 71, 72, 73, 74, 75, 76, 77, 78, 79, 80, 81, 82, 83, 84, 85, 86, 87] ?_
            refine aw_false rfl ?_
            refine aw_skip ?_
            show AW _ _ _ _ _ _ _
            refine aw_region ?_
            refine sr_mv ?_
            refine sr_rd (x_add' rfl rfl (i64w (by omega) (by omega))) ?_
            refine sr_as ?_
            refine sr_nil ?_
            show ∃ s', _ ∧ _ ∧ _ ∧ _
            exact ⟨⟨i + 1, 6, S ++ partT x j, all + (j : Int)⟩, ⟨by dsimp only; omega, hbj, by dsimp only; omega, .inr ⟨(show (6 : Int) ≠ 0 by decide), (by dsimp only; rw [hgo, drop_at hx, numG_full hR (by omega)])⟩⟩, by dsimp only; omega, KeepF.auto, Sub.autoP⟩
          · refine sr_ry (x_move rfl) ?_
            refine sr_ry (x_move rfl) ?_
            refine sr_cy (x_gt rfl rfl) (fun h9 => ?_) (fun h9 => ?_)
            · refine sr_ry (x_pick_f rfl rfl rfl) ?_
              refine sr_rd (x_pick_t rfl rfl rfl) ?_
              refine sr_nil ?_
              refine aw_kp [0, 2, 3, 4, 5, 6, 7, 8, 37, 38, 39, 40, 41, 42, 43, 55, 56, 57, 58, 59, 60, 61, 62, 63, 64, 65, 66, 67] ?_
              refine aw_true rfl ?_
              refine aw_region ?_
              refine sr_as ?_
              refine sr_nil ?_
              show AW _ _ _ _ _ _ _
              refine aw_seq_dr ⟨_, 20, 153, [[], [], [0, 1], [0, 1, 2], [0, 1, 2, 3], [], [], [5, 6], [5, 6, 7], [0, 1, 2, 3, 4, 5, 6, 7, 8], [0, 1, 2, 3, 4, 5, 6, 7, 8, 9], [0, 1, 2, 3, 4, 5, 6, 7, 8, 9, 10], [0, 1, 2, 3, 4, 5, 6, 7, 8, 9, 10, 11], [0, 1, 2, 3, 4, 5, 6, 7, 8, 9, 10, 11], [0, 1, 2, 3, 4, 5, 6, 7, 8, 9, 10, 11, 12, 13], [0, 1, 2, 3, 4, 5, 6, 7, 8, 9, 10, 11, 12, 13, 14], [0, 1, 2, 3, 4, 5, 6, 7, 8, 9, 10, 11, 12, 13, 14, 15], [0, 1, 2, 3, 4, 5, 6, 7, 8, 9, 10, 11], [0, 1, 2, 3, 4, 5, 6, 7, 8, 9, 10, 11, 12, 13, 14, 15, 16, 17], [0, 1, 2, 3, 4, 5, 6, 7, 8, 9, 10, 11, 12, 13, 14, 15, 16, 17, 18]], [.light, .light, .light, .mem, .call, .light, .light, .light, .mem, .call, .light, .light, .light, .light, .light, .mem, .call, .light, .light, .light]⟩ (by kernel_rfl) rfl rfl mix ?_
              refine dr_l (x_move rfl) ?_
              refine dr_l (x_move rfl) ?_
              refine dr_l (x_indexAddrN (i) Tryd.underlying62 sz67 rfl hax rfl (by omega) (by omega)) ?_
              refine dr_mem0 rfl rfl (wtd_none rfl) (x_loadN ag67 sz67 rfl (Cells.mono hcx (Sub.nil _)) rfl) ?_
              refine dr_callq0 rfl rfl (wtd_none rfl) (opS_F rfl rfl rfl rfl cl40 ((pright_s x _))) (⟨_, rfl⟩) ?_
              rintro _ rfl
              refine dr_l (x_move rfl) ?_
              refine dr_l (x_move rfl) ?_
              refine dr_l (x_indexAddrN (i) Tryd.underlying62 sz67 rfl hax rfl (by omega) (by omega)) ?_
              refine dr_mem0 rfl rfl (wtd_none rfl) (x_loadN ag67 sz67 rfl (Cells.mono hcx (Sub.nil _)) rfl) ?_
              refine dr_callq0 rfl rfl (wtd_none rfl) (opS_F rfl rfl rfl rfl cl39 ((lpright_s x _))) (⟨_, rfl⟩) ?_
              rintro _ rfl
              refine dr_l (x_cast (u := .bool false) (x_neb Tryd.underlying4 rfl rfl) (by simp)) ?_
              refine dr_l (x_move rfl) ?_
              refine dr_y (x_move rfl) ?_
              refine dr_y (x_move rfl) ?_
              refine dr_y (x_indexAddrN (i) Tryd.underlying62 sz67 rfl hax rfl (by omega) (by omega)) ?_
              refine dr_mem0 rfl rfl (wtd_yes rfl rfl rfl) (x_loadN ag67 sz67 rfl (Cells.mono hcx (Sub.nil _)) rfl) ?_
              refine dr_callq0 rfl rfl (wtd_yes rfl rfl rfl) (opS_F rfl rfl rfl rfl cl41 ((many_s x _))) (⟨_, rfl⟩) ?_
              rintro _ rfl
              refine dr_y (x_move rfl) ?_
              refine dr_cmp rfl rfl (wtd_yes rfl rfl rfl) (x_ne rfl rfl) (fun h10 => absurd h10 (by first | omega | decide)) (fun h10 => ?_)
              refine dr_l (x_pick_f rfl rfl rfl) ?_
              refine dr_nil0 ?_
              refine aw_kp [0, 2, 3, 4, 5, 6, 7, 8, 37, 38, 39, 40, 41, 42, 43, 55, 56, 57, 58, 59, 60, 61, 62, 63, 64, 65, 66, 67, 68, 69, 70, 71, 72, 73, 74, 75, 76, 77, 78, 79, 80, 81, 82, 83, 84, 85, 86, 87] ?_
              refine aw_false rfl ?_
              refine aw_skip ?_
              show AW _ _ _ _ _ _ _
              refine aw_region ?_
              refine sr_mv ?_
              refine sr_rd (x_add' rfl rfl (i64w (by omega) (by omega))) ?_
              refine sr_as ?_
              refine sr_nil ?_
              show ∃ s', _ ∧ _ ∧ _ ∧ _
              exact ⟨⟨i + 1, 6, S ++ partT x j, all + (j : Int)⟩, ⟨by dsimp only; omega, hbj, by dsimp only; omega, .inr ⟨(show (6 : Int) ≠ 0 by decide), (by dsimp only; rw [hgo, drop_at hx, numG_full hR (by omega)])⟩⟩, by dsimp only; omega, KeepF.auto, Sub.autoP⟩
            · refine sr_ry (x_pick_f rfl rfl rfl) ?_
              refine sr_rd (x_pick_t rfl rfl rfl) ?_
              refine sr_nil ?_
              refine aw_kp [0, 2, 3, 4, 5, 6, 7, 8, 37, 38, 39, 40, 41, 42, 43, 55, 56, 57, 58, 59, 60, 61, 62, 63, 64, 65, 66, 67] ?_
              refine aw_false rfl ?_
              refine aw_skip ?_
              show AW _ _ _ _ _ _ _
              refine aw_seq_dr ⟨_, 20, 153, [[], [], [0, 1], [0, 1, 2], [0, 1, 2, 3], [], [], [5, 6], [5, 6, 7], [0, 1, 2, 3, 4, 5, 6, 7, 8], [0, 1, 2, 3, 4, 5, 6, 7, 8, 9], [0, 1, 2, 3, 4, 5, 6, 7, 8, 9, 10], [0, 1, 2, 3, 4, 5, 6, 7, 8, 9, 10, 11], [0, 1, 2, 3, 4, 5, 6, 7, 8, 9, 10, 11], [0, 1, 2, 3, 4, 5, 6, 7, 8, 9, 10, 11, 12, 13], [0, 1, 2, 3, 4, 5, 6, 7, 8, 9, 10, 11, 12, 13, 14], [0, 1, 2, 3, 4, 5, 6, 7, 8, 9, 10, 11, 12, 13, 14, 15], [0, 1, 2, 3, 4, 5, 6, 7, 8, 9, 10, 11], [0, 1, 2, 3, 4, 5, 6, 7, 8, 9, 10, 11, 12, 13, 14, 15, 16, 17], [0, 1, 2, 3, 4, 5, 6, 7, 8, 9, 10, 11, 12, 13, 14, 15, 16, 17, 18]], [.light, .light, .light, .mem, .call, .light, .light, .light, .mem, .call, .light, .light, .light, .light, .light, .mem, .call, .light, .light, .light]⟩ (by kernel_rfl) rfl rfl mix ?_
              refine dr_l (x_move rfl) ?_
              refine dr_l (x_move rfl) ?_
              refine dr_l (x_indexAddrN (i) Tryd.underlying62 sz67 rfl hax rfl (by omega) (by omega)) ?_
              refine dr_mem0 rfl rfl (wtd_none rfl) (x_loadN ag67 sz67 rfl (Cells.mono hcx (Sub.nil _)) rfl) ?_
              refine dr_callq0 rfl rfl (wtd_none rfl) (opS_F rfl rfl rfl rfl cl40 ((pright_s x _))) (⟨_, rfl⟩) ?_
              rintro _ rfl
              refine dr_l (x_move rfl) ?_
              refine dr_l (x_move rfl) ?_
              refine dr_l (x_indexAddrN (i) Tryd.underlying62 sz67 rfl hax rfl (by omega) (by omega)) ?_
              refine dr_mem0 rfl rfl (wtd_none rfl) (x_loadN ag67 sz67 rfl (Cells.mono hcx (Sub.nil _)) rfl) ?_
              refine dr_callq0 rfl rfl (wtd_none rfl) (opS_F rfl rfl rfl rfl cl39 ((lpright_s x _))) (⟨_, rfl⟩) ?_
              rintro _ rfl
              refine dr_l (x_cast (u := .bool false) (x_neb Tryd.underlying4 rfl rfl) (by simp)) ?_
              refine dr_l (x_move rfl) ?_
              refine dr_y (x_move rfl) ?_
              refine dr_y (x_move rfl) ?_
              refine dr_y (x_indexAddrN (i) Tryd.underlying62 sz67 rfl hax rfl (by omega) (by omega)) ?_
              refine dr_mem0 rfl rfl (wtd_yes rfl rfl rfl) (x_loadN ag67 sz67 rfl (Cells.mono hcx (Sub.nil _)) rfl) ?_
              refine dr_callq0 rfl rfl (wtd_yes rfl rfl rfl) (opS_F rfl rfl rfl rfl cl41 ((many_s x _))) (⟨_, rfl⟩) ?_
              rintro _ rfl
              refine dr_y (x_move rfl) ?_
              refine dr_cmp rfl rfl (wtd_yes rfl rfl rfl) (x_ne rfl rfl) (fun h11 => absurd h11 (by first | omega | decide)) (fun h11 => ?_)
              refine dr_l (x_pick_f rfl rfl rfl) ?_
              refine dr_nil0 ?_
              refine aw_kp [0, 2, 3, 4, 5, 6, 7, 8, 37, 38, 39, 40, 41, 42, 43, 55, 56, 57, 58, 59, 60, 61, 62, 63, 64, 65, 66, 67, 68, 69, 70, 71, 72, 73, 74, 75, 76, 77, 78, 79, 80, 81, 82, 83, 84, 85, 86, 87] ?_
              refine aw_false rfl ?_
              refine aw_skip ?_
              show AW _ _ _ _ _ _ _
              refine aw_region ?_
              refine sr_mv ?_
              refine sr_rd (x_add' rfl rfl (i64w (by omega) (by omega))) ?_
              refine sr_as ?_
              refine sr_nil ?_
              show ∃ s', _ ∧ _ ∧ _ ∧ _
              exact ⟨⟨i + 1, 0, S ++ partT x j, all + (j : Int)⟩, ⟨by dsimp only; omega, hbj, by dsimp only; omega, .inl ⟨rfl, (by dsimp only; rw [hgo, drop_at hx, numG_ok hR (by omega), hend]), (by dsimp only; rw [List.length_append, partT_len]; omega), (by dsimp only; rw [List.length_append, partT_len]; omega)⟩⟩, by dsimp only; omega, KeepF.auto, Sub.autoP⟩
    · refine sr_rd (x_pick_t rfl rfl rfl) ?_
      refine sr_nil ?_
      refine aw_kp [0, 2, 3, 4, 5, 6, 17, 18, 19, 20, 21, 22, 23, 24] ?_
      refine aw_false rfl ?_
      refine aw_exit ?_
      show AW _ _ _ _ _ _ _
      refine aw_seq_region ?_
      have hstop : ¬ (i < xs.length ∧ e = 0) := by omega
      refine sr_as ?_
      refine sr_nil ?_
      refine aw_kp [0, 2, 3, 4, 9] ?_
      refine aw_seq ?_
      refine aw_seq_region ?_
      refine sr_as ?_
      refine sr_nil ?_
      refine aw_kp [0, 2, 3, 4, 9, 10] ?_
      refine aw_block ?_
      refine aw_loop (ι := Nat) (fun k => k ≤ 10000) (fun k => [(0, .slice sa xs.length scap), (2, .bool false), (3, .pointer (some ⟨r2_0, 0, none⟩)), (4, .int .i64 e), (9, .int .i64 (ascS S k).length), (10, .int .i64 k)]) (fun _ => [(r2_0, .cells (inB (S)).toArray 64 (0, 0))]) (fun k => 10000 - k) 0 (Nat.zero_le _) KeepF.auto Sub.autoP ?_
      intro k hk
      have hal := ascS_len (S := S) k
      refine aw_seq ?_
      refine aw_seq_region ?_
      refine sr_mv ?_
      refine sr_c (x_lt rfl rfl) (fun h12 => ?_) (fun h12 => ?_)
      · refine sr_nil ?_
        refine aw_kp [0, 2, 3, 4, 9, 10, 88, 89] ?_
        refine aw_true rfl ?_
        refine aw_skip ?_
        show AW _ _ _ _ _ _ _
        refine aw_seq ?_
        refine aw_block ?_
        refine aw_seq_region ?_
        refine sr_mv ?_
        refine sr_rd (x_indexAddrA Tryd.underlying64 sz4 rfl rfl (by omega) (by omega)) ?_
        refine sr_rd (x_load ag4 rfl (cells_in mauto (by omega))) ?_
        refine sr_nil ?_
        refine aw_kp [0, 2, 3, 4, 9, 10, 88, 89, 92, 93, 94] ?_
        refine aw_cond rfl (fun hb13 => ?_) (fun hb13 => ?_)
        · refine aw_region ?_
          refine sr_mv ?_
          refine sr_rd (x_add' rfl rfl (i64w (by omega) (by omega))) ?_
          refine sr_as ?_
          refine sr_nil ?_
          show AW _ _ _ _ _ _ _
          refine aw_region ?_
          refine sr_mv ?_
          refine sr_rd (x_add' rfl rfl (i64w (by omega) (by omega))) ?_
          refine sr_as ?_
          refine sr_nil ?_
          show ∃ s', _ ∧ _ ∧ _ ∧ _
          first | exact ⟨k + 1, by omega, by omega, (by rw [ascS_y (S := S) (k := k) (of_decide_eq_true (by assumption)), List.length_append]; exact KeepF.auto), Sub.autoD⟩ | exact ⟨k + 1, by omega, by omega, (by rw [ascS_n (S := S) (k := k) (of_decide_eq_false (by assumption))]; exact KeepF.auto), Sub.autoD⟩
        · refine aw_skip ?_
          show AW _ _ _ _ _ _ _
          refine aw_region ?_
          refine sr_mv ?_
          refine sr_rd (x_add' rfl rfl (i64w (by omega) (by omega))) ?_
          refine sr_as ?_
          refine sr_nil ?_
          show ∃ s', _ ∧ _ ∧ _ ∧ _
          first | exact ⟨k + 1, by omega, by omega, (by rw [ascS_y (S := S) (k := k) (of_decide_eq_true (by assumption)), List.length_append]; exact KeepF.auto), Sub.autoD⟩ | exact ⟨k + 1, by omega, by omega, (by rw [ascS_n (S := S) (k := k) (of_decide_eq_false (by assumption))]; exact KeepF.auto), Sub.autoD⟩
      · refine sr_nil ?_
        refine aw_kp [0, 2, 3, 4, 9, 10, 88, 89] ?_
        refine aw_false rfl ?_
        refine aw_exit ?_
        show AW _ _ _ _ _ _ _
        refine aw_seq ?_
        refine aw_seq_region ?_
        have ek2 : (ascS S k).length = (ascS S 10000).length := by rw [show k = 10000 by omega]
        refine sr_mv ?_
        refine sr_c (x_eq rfl rfl) (fun h14 => ?_) (fun h14 => ?_)
        · refine sr_mv ?_
          refine sr_ry (x_move rfl) ?_
          refine sr_cy (x_gt rfl rfl) (fun h15 => ?_) (fun h15 => ?_)
          · refine sr_rd (x_pick_t rfl rfl rfl) ?_
            refine sr_nil ?_
            refine aw_kp [0, 2, 3, 4, 102] ?_
            refine aw_true rfl ?_
            refine aw_region ?_
            refine sr_as ?_
            refine sr_nil ?_
            show AW _ _ _ _ _ _ _
            refine aw_seq_region ?_
            refine sr_mv ?_
            refine sr_d rfl (wtd_none rfl) rfl (opS_call rfl rfl rfl rfl cl42 (numbers_s sa scap xs _ (hs _))) ?_
            rintro _ _ ⟨ys, d, a9, c9, E9, rfl, hN, V9, rfl⟩
            obtain ⟨rfl, rfl⟩ : ys = [] ∧ d = 6 := by rcases num_end hN hor hstop hb with ⟨q1, q2, q3⟩ | ⟨q1, q2, q3, q4⟩ | ⟨q1, q2, q3, q4⟩ <;> first | exact ⟨q2, q3⟩ | exact ⟨q3, q4⟩ | (exfalso; omega)
            refine sr_mv ?_
            refine sr_rd (x_extract rfl rfl) ?_
            refine sr_rd (x_extract rfl rfl) ?_
            refine sr_as ?_
            refine sr_as ?_
            refine sr_nil ?_
            refine aw_kp [2, 3, 4, 11, 12] ?_
            refine aw_seq ?_
            refine aw_seq_region ?_
            refine sr_mv ?_
            refine sr_c (x_ne rfl rfl) (fun h16 => ?_) (fun h16 => absurd (by first | assumption | decide | omega) h16)
            refine sr_nil ?_
            refine aw_kp [2, 3, 4, 11, 12, 109] ?_
            refine aw_true rfl ?_
            refine aw_seq_region ?_
            refine sr_mv ?_
            refine sr_rd (x_lenSlice Tryd.underlying69 rfl) ?_
            refine sr_c (x_eq rfl rfl) (fun h17 => ?_) (fun h17 => absurd (by rfl) h17)
            refine sr_mv ?_
            refine sr_ry (x_move rfl) ?_
            refine sr_ry (x_move rfl) ?_
            refine sr_cy (x_eq rfl rfl) (fun h18 => ?_) (fun h18 => absurd (by rfl) h18)
            refine sr_rd (x_pick_t rfl rfl rfl) ?_
            refine sr_mv ?_
            refine sr_d rfl (wtd_yes rfl rfl rfl) rfl (opS_call rfl rfl rfl rfl cl43 (awake35_s _)) ?_
            rintro _ H9 ⟨rfl, rfl⟩
            refine sr_rd (x_pick_t rfl rfl rfl) ?_
            refine sr_as ?_
            refine sr_nil ?_
            refine aw_kp [2, 3, 11, 12] ?_
            refine aw_ret ?_
            show ∃ v H2, ResV _ _ _ _ _ _ v ∧ Sub H2 _ ∧ _
            exact ⟨_, [], resV rfl (.cons rfl .nil), (Sub.nil _), rfl⟩
          · refine sr_rd (x_pick_t rfl rfl rfl) ?_
            refine sr_nil ?_
            refine aw_kp [0, 2, 3, 4, 102] ?_
            refine aw_false rfl ?_
            refine aw_skip ?_
            show AW _ _ _ _ _ _ _
            refine aw_seq_region ?_
            refine sr_mv ?_
            refine sr_d rfl (wtd_none rfl) rfl (opS_call rfl rfl rfl rfl cl42 (numbers_s sa scap xs _ (hs _))) ?_
            rintro _ _ ⟨ys, d, a9, c9, E9, rfl, hN, V9, rfl⟩
            obtain ⟨rfl, rfl⟩ : ys = ascS S 10000 ∧ d = 0 := by rcases num_end hN hor hstop hb with ⟨q1, q2, q3⟩ | ⟨q1, q2, q3, q4⟩ | ⟨q1, q2, q3, q4⟩ <;> first | exact ⟨q2, q3⟩ | exact ⟨q3, q4⟩ | (exfalso; omega)
            have hV9s := V9.slv' (W0 := W0) (xs := ascS S 10000) (fun _ => rfl) rfl (Sub.refl _)
            have hle9 := hV9s.le
            have hcb9 := hV9s.capb
            refine sr_mv ?_
            refine sr_rd (x_extract rfl rfl) ?_
            refine sr_rd (x_extract rfl rfl) ?_
            refine sr_as ?_
            refine sr_as ?_
            refine sr_nil ?_
            refine aw_kp [2, 3, 4, 11, 12] ?_
            refine aw_seq ?_
            refine aw_seq_region ?_
            refine sr_mv ?_
            refine sr_c (x_ne rfl rfl) (fun h19 => absurd h19 (by first | assumption | decide | omega)) (fun h19 => ?_)
            refine sr_nil ?_
            refine aw_kp [2, 3, 4, 11, 12, 109] ?_
            refine aw_false rfl ?_
            refine aw_skip ?_
            show AW _ _ _ _ _ _ _
            refine aw_seq_region ?_
            refine sr_as ?_
            refine sr_nil ?_
            refine aw_kp [2, 3, 11, 12, 13] ?_
            refine aw_seq ?_
            refine aw_seq_region ?_
            refine sr_as ?_
            refine sr_nil ?_
            refine aw_kp [2, 3, 11, 12, 13, 14] ?_
            refine aw_block ?_
            refine aw_loop (ι := Nat) (fun k => k ≤ 10000) (fun k => [(2, .bool false), (3, .pointer (some ⟨r2_0, 0, none⟩)), (11, .slice a9 (ascS S 10000).length c9), (12, .int .i64 0), (13, .int .i64 (ascS S k).length), (14, .int .i64 k)]) (fun _ => E9 ++ [(r2_0, .cells (inB (S)).toArray 64 (0, 0))]) (fun k => 10000 - k) 0 (Nat.zero_le _) KeepF.auto Sub.autoP ?_
            intro k hk
            refine aw_seq ?_
            refine aw_seq_region ?_
            refine sr_mv ?_
            refine sr_c (x_lt rfl rfl) (fun h20 => ?_) (fun h20 => ?_)
            · refine sr_nil ?_
              refine aw_kp [2, 3, 11, 12, 13, 14, 121, 122] ?_
              refine aw_true rfl ?_
              refine aw_skip ?_
              show AW _ _ _ _ _ _ _
              refine aw_seq ?_
              refine aw_block ?_
              refine aw_seq_region ?_
              refine sr_mv ?_
              refine sr_rd (x_indexAddrA Tryd.underlying64 sz4 rfl rfl (by omega) (by omega)) ?_
              refine sr_rd (x_load ag4 rfl (cells_in mauto (by omega))) ?_
              refine sr_nil ?_
              refine aw_kp [2, 3, 11, 12, 13, 14, 121, 122, 125, 126, 127] ?_
              refine aw_cond rfl (fun hb21 => ?_) (fun hb21 => ?_)
              · refine aw_seq ?_
                refine aw_seq_region ?_
                have hkS : (k : Int) ∈ S := of_decide_eq_true (by assumption)
                have hgk := ascS_get hkS (show k < 10000 by omega)
                have hlt := get_lt hgk
                obtain ⟨by_, oy, hay, hcy⟩ := hV9s.at_ _ _ hgk
                refine sr_mv ?_
                refine sr_mv ?_
                refine sr_rd (x_lenSlice Tryd.underlying69 rfl) ?_
                refine sr_c (x_ge rfl rfl) (fun h22 => absurd h22 (by omega)) (fun h22 => ?_)
                refine sr_mv ?_
                refine sr_ry (x_move rfl) ?_
                refine sr_ry (x_move rfl) ?_
                refine sr_ry (x_indexAddrN ((ascS S k).length) Tryd.underlying69 sz3 rfl hay rfl (by omega) (by omega)) ?_
                refine sr_ry (x_load ag3 rfl (Cells.mono hcy Sub.autoE)) ?_
                refine sr_ry (x_move rfl) ?_
                refine sr_cy (x_ne rfl rfl) (fun h23 => absurd h23 (by exact fun h => h rfl)) (fun h23 => ?_)
                refine sr_rd (x_pick_f rfl rfl rfl) ?_
                refine sr_nil ?_
                refine aw_kp [2, 3, 11, 12, 13, 14, 121, 122, 125, 126, 127, 128, 129, 130, 131, 132, 133, 134, 135, 136, 137, 138, 139] ?_
                refine aw_false rfl ?_
                refine aw_skip ?_
                show AW _ _ _ _ _ _ _
                refine aw_region ?_
                refine sr_mv ?_
                refine sr_rd (x_add' rfl rfl (i64w (by omega) (by omega))) ?_
                refine sr_as ?_
                refine sr_nil ?_
                show AW _ _ _ _ _ _ _
                refine aw_region ?_
                refine sr_mv ?_
                refine sr_rd (x_add' rfl rfl (i64w (by omega) (by omega))) ?_
                refine sr_as ?_
                refine sr_nil ?_
                show ∃ s', _ ∧ _ ∧ _ ∧ _
                first | exact ⟨k + 1, by omega, by omega, (by rw [ascS_y (S := S) (k := k) (of_decide_eq_true (by assumption)), List.length_append]; exact KeepF.auto), Sub.autoD⟩ | exact ⟨k + 1, by omega, by omega, (by rw [ascS_n (S := S) (k := k) (of_decide_eq_false (by assumption))]; exact KeepF.auto), Sub.autoD⟩
              · refine aw_skip ?_
                show AW _ _ _ _ _ _ _
                refine aw_region ?_
                refine sr_mv ?_
                refine sr_rd (x_add' rfl rfl (i64w (by omega) (by omega))) ?_
                refine sr_as ?_
                refine sr_nil ?_
                show ∃ s', _ ∧ _ ∧ _ ∧ _
                first | exact ⟨k + 1, by omega, by omega, (by rw [ascS_y (S := S) (k := k) (of_decide_eq_true (by assumption)), List.length_append]; exact KeepF.auto), Sub.autoD⟩ | exact ⟨k + 1, by omega, by omega, (by rw [ascS_n (S := S) (k := k) (of_decide_eq_false (by assumption))]; exact KeepF.auto), Sub.autoD⟩
            · refine sr_nil ?_
              refine aw_kp [2, 3, 11, 12, 13, 14, 121, 122] ?_
              refine aw_false rfl ?_
              refine aw_exit ?_
              show AW _ _ _ _ _ _ _
              refine aw_seq_region ?_
              refine sr_mv ?_
              refine sr_mv ?_
              refine sr_rd (x_lenSlice Tryd.underlying69 rfl) ?_
              refine sr_c (x_eq rfl rfl) (fun h24 => ?_) (fun h24 => absurd (by (have ek : k = 10000 := by omega); subst ek; rfl) h24)
              refine sr_mv ?_
              refine sr_ry (x_move rfl) ?_
              refine sr_cy (x_eq rfl rfl) (fun h25 => ?_) (fun h25 => absurd (by rfl) h25)
              refine sr_rd (x_pick_t rfl rfl rfl) ?_
              refine sr_mv ?_
              refine sr_d rfl (wtd_yes rfl rfl rfl) rfl (opS_call rfl rfl rfl rfl cl43 (awake35_s _)) ?_
              rintro _ H9 ⟨rfl, rfl⟩
              refine sr_rd (x_pick_t rfl rfl rfl) ?_
              refine sr_as ?_
              refine sr_nil ?_
              refine aw_kp [2] ?_
              refine aw_ret ?_
              show ∃ v H2, ResV _ _ _ _ _ _ v ∧ Sub H2 _ ∧ _
              exact ⟨_, [], resV rfl (.cons rfl .nil), (Sub.nil _), rfl⟩
        · refine sr_mv ?_
          refine sr_sk ?_
          refine sr_sk ?_
          refine sr_rd (x_pick_f rfl rfl rfl) ?_
          refine sr_nil ?_
          refine aw_kp [0, 2, 3, 4, 102] ?_
          refine aw_false rfl ?_
          refine aw_skip ?_
          show AW _ _ _ _ _ _ _
          refine aw_seq_region ?_
          refine sr_mv ?_
          refine sr_d rfl (wtd_none rfl) rfl (opS_call rfl rfl rfl rfl cl42 (numbers_s sa scap xs _ (hs _))) ?_
          rintro _ _ ⟨ys, d, a9, c9, E9, rfl, hN, V9, rfl⟩
          obtain ⟨rfl, rfl⟩ : ys = [] ∧ d = e := by rcases num_end hN hor hstop hb with ⟨q1, q2, q3⟩ | ⟨q1, q2, q3, q4⟩ | ⟨q1, q2, q3, q4⟩ <;> first | exact ⟨q2, q3⟩ | exact ⟨q3, q4⟩ | (exfalso; omega)
          refine sr_mv ?_
          refine sr_rd (x_extract rfl rfl) ?_
          refine sr_rd (x_extract rfl rfl) ?_
          refine sr_as ?_
          refine sr_as ?_
          refine sr_nil ?_
          refine aw_kp [2, 3, 4, 11, 12] ?_
          refine aw_seq ?_
          refine aw_seq_region ?_
          refine sr_mv ?_
          refine sr_c (x_ne rfl rfl) (fun h26 => ?_) (fun h26 => absurd (by first | assumption | decide | omega) h26)
          refine sr_nil ?_
          refine aw_kp [2, 3, 4, 11, 12, 109] ?_
          refine aw_true rfl ?_
          refine aw_seq_region ?_
          refine sr_mv ?_
          refine sr_rd (x_lenSlice Tryd.underlying69 rfl) ?_
          refine sr_c (x_eq rfl rfl) (fun h27 => ?_) (fun h27 => absurd (by rfl) h27)
          refine sr_mv ?_
          refine sr_ry (x_move rfl) ?_
          refine sr_ry (x_move rfl) ?_
          refine sr_cy (x_eq rfl rfl) (fun h28 => ?_) (fun h28 => absurd (by rfl) h28)
          refine sr_rd (x_pick_t rfl rfl rfl) ?_
          refine sr_mv ?_
          refine sr_d rfl (wtd_yes rfl rfl rfl) rfl (opS_call rfl rfl rfl rfl cl43 (awake35_s _)) ?_
          rintro _ H9 ⟨rfl, rfl⟩
          refine sr_rd (x_pick_t rfl rfl rfl) ?_
          refine sr_as ?_
          refine sr_nil ?_
          refine aw_kp [2, 3, 11, 12] ?_
          refine aw_ret ?_
          show ∃ v H2, ResV _ _ _ _ _ _ v ∧ Sub H2 _ ∧ _
          exact ⟨_, [], resV rfl (.cons rfl .nil), (Sub.nil _), rfl⟩
  · refine sr_mv ?_
    refine sr_sk ?_
    refine sr_sk ?_
    refine sr_rd (x_pick_f rfl rfl rfl) ?_
    refine sr_nil ?_
    refine aw_kp [0, 2, 3, 4, 5, 6, 17, 18, 19, 20, 21, 22, 23, 24] ?_
    refine aw_false rfl ?_
    refine aw_exit ?_
    show AW _ _ _ _ _ _ _
    refine aw_seq_region ?_
    have hstop : ¬ (i < xs.length ∧ e = 0) := by omega
    refine sr_as ?_
    refine sr_nil ?_
    refine aw_kp [0, 2, 3, 4, 9] ?_
    refine aw_seq ?_
    refine aw_seq_region ?_
    refine sr_as ?_
    refine sr_nil ?_
    refine aw_kp [0, 2, 3, 4, 9, 10] ?_
    refine aw_block ?_
    refine aw_loop (ι := Nat) (fun k => k ≤ 10000) (fun k => [(0, .slice sa xs.length scap), (2, .bool false), (3, .pointer (some ⟨r2_0, 0, none⟩)), (4, .int .i64 e), (9, .int .i64 (ascS S k).length), (10, .int .i64 k)]) (fun _ => [(r2_0, .cells (inB (S)).toArray 64 (0, 0))]) (fun k => 10000 - k) 0 (Nat.zero_le _) KeepF.auto Sub.autoP ?_
    intro k hk
    have hal := ascS_len (S := S) k
    refine aw_seq ?_
    refine aw_seq_region ?_
    refine sr_mv ?_
    refine sr_c (x_lt rfl rfl) (fun h29 => ?_) (fun h29 => ?_)
    · refine sr_nil ?_
      refine aw_kp [0, 2, 3, 4, 9, 10, 88, 89] ?_
      refine aw_true rfl ?_
      refine aw_skip ?_
      show AW _ _ _ _ _ _ _
      refine aw_seq ?_
      refine aw_block ?_
      refine aw_seq_region ?_
      refine sr_mv ?_
      refine sr_rd (x_indexAddrA Tryd.underlying64 sz4 rfl rfl (by omega) (by omega)) ?_
      refine sr_rd (x_load ag4 rfl (cells_in mauto (by omega))) ?_
      refine sr_nil ?_
      refine aw_kp [0, 2, 3, 4, 9, 10, 88, 89, 92, 93, 94] ?_
      refine aw_cond rfl (fun hb30 => ?_) (fun hb30 => ?_)
      · refine aw_region ?_
        refine sr_mv ?_
        refine sr_rd (x_add' rfl rfl (i64w (by omega) (by omega))) ?_
        refine sr_as ?_
        refine sr_nil ?_
        show AW _ _ _ _ _ _ _
        refine aw_region ?_
        refine sr_mv ?_
        refine sr_rd (x_add' rfl rfl (i64w (by omega) (by omega))) ?_
        refine sr_as ?_
        refine sr_nil ?_
        show ∃ s', _ ∧ _ ∧ _ ∧ _
        first | exact ⟨k + 1, by omega, by omega, (by rw [ascS_y (S := S) (k := k) (of_decide_eq_true (by assumption)), List.length_append]; exact KeepF.auto), Sub.autoD⟩ | exact ⟨k + 1, by omega, by omega, (by rw [ascS_n (S := S) (k := k) (of_decide_eq_false (by assumption))]; exact KeepF.auto), Sub.autoD⟩
      · refine aw_skip ?_
        show AW _ _ _ _ _ _ _
        refine aw_region ?_
        refine sr_mv ?_
        refine sr_rd (x_add' rfl rfl (i64w (by omega) (by omega))) ?_
        refine sr_as ?_
        refine sr_nil ?_
        show ∃ s', _ ∧ _ ∧ _ ∧ _
        first | exact ⟨k + 1, by omega, by omega, (by rw [ascS_y (S := S) (k := k) (of_decide_eq_true (by assumption)), List.length_append]; exact KeepF.auto), Sub.autoD⟩ | exact ⟨k + 1, by omega, by omega, (by rw [ascS_n (S := S) (k := k) (of_decide_eq_false (by assumption))]; exact KeepF.auto), Sub.autoD⟩
    · refine sr_nil ?_
      refine aw_kp [0, 2, 3, 4, 9, 10, 88, 89] ?_
      refine aw_false rfl ?_
      refine aw_exit ?_
      show AW _ _ _ _ _ _ _
      refine aw_seq ?_
      refine aw_seq_region ?_
      have ek2 : (ascS S k).length = (ascS S 10000).length := by rw [show k = 10000 by omega]
      refine sr_mv ?_
      refine sr_c (x_eq rfl rfl) (fun h31 => ?_) (fun h31 => ?_)
      · refine sr_mv ?_
        refine sr_ry (x_move rfl) ?_
        refine sr_cy (x_gt rfl rfl) (fun h32 => ?_) (fun h32 => ?_)
        · refine sr_rd (x_pick_t rfl rfl rfl) ?_
          refine sr_nil ?_
          refine aw_kp [0, 2, 3, 4, 102] ?_
          refine aw_true rfl ?_
          refine aw_region ?_
          refine sr_as ?_
          refine sr_nil ?_
          show AW _ _ _ _ _ _ _
          refine aw_seq_region ?_
          refine sr_mv ?_
          refine sr_d rfl (wtd_none rfl) rfl (opS_call rfl rfl rfl rfl cl42 (numbers_s sa scap xs _ (hs _))) ?_
          rintro _ _ ⟨ys, d, a9, c9, E9, rfl, hN, V9, rfl⟩
          obtain ⟨rfl, rfl⟩ : ys = [] ∧ d = 6 := by rcases num_end hN hor hstop hb with ⟨q1, q2, q3⟩ | ⟨q1, q2, q3, q4⟩ | ⟨q1, q2, q3, q4⟩ <;> first | exact ⟨q2, q3⟩ | exact ⟨q3, q4⟩ | (exfalso; omega)
          refine sr_mv ?_
          refine sr_rd (x_extract rfl rfl) ?_
          refine sr_rd (x_extract rfl rfl) ?_
          refine sr_as ?_
          refine sr_as ?_
          refine sr_nil ?_
          refine aw_kp [2, 3, 4, 11, 12] ?_
          refine aw_seq ?_
          refine aw_seq_region ?_
          refine sr_mv ?_
          refine sr_c (x_ne rfl rfl) (fun h33 => ?_) (fun h33 => absurd (by first | assumption | decide | omega) h33)
          refine sr_nil ?_
          refine aw_kp [2, 3, 4, 11, 12, 109] ?_
          refine aw_true rfl ?_
          refine aw_seq_region ?_
          refine sr_mv ?_
          refine sr_rd (x_lenSlice Tryd.underlying69 rfl) ?_
          refine sr_c (x_eq rfl rfl) (fun h34 => ?_) (fun h34 => absurd (by rfl) h34)
          refine sr_mv ?_
          refine sr_ry (x_move rfl) ?_
          refine sr_ry (x_move rfl) ?_
          refine sr_cy (x_eq rfl rfl) (fun h35 => ?_) (fun h35 => absurd (by rfl) h35)
          refine sr_rd (x_pick_t rfl rfl rfl) ?_
          refine sr_mv ?_
          refine sr_d rfl (wtd_yes rfl rfl rfl) rfl (opS_call rfl rfl rfl rfl cl43 (awake35_s _)) ?_
          rintro _ H9 ⟨rfl, rfl⟩
          refine sr_rd (x_pick_t rfl rfl rfl) ?_
          refine sr_as ?_
          refine sr_nil ?_
          refine aw_kp [2, 3, 11, 12] ?_
          refine aw_ret ?_
          show ∃ v H2, ResV _ _ _ _ _ _ v ∧ Sub H2 _ ∧ _
          exact ⟨_, [], resV rfl (.cons rfl .nil), (Sub.nil _), rfl⟩
        · refine sr_rd (x_pick_t rfl rfl rfl) ?_
          refine sr_nil ?_
          refine aw_kp [0, 2, 3, 4, 102] ?_
          refine aw_false rfl ?_
          refine aw_skip ?_
          show AW _ _ _ _ _ _ _
          refine aw_seq_region ?_
          refine sr_mv ?_
          refine sr_d rfl (wtd_none rfl) rfl (opS_call rfl rfl rfl rfl cl42 (numbers_s sa scap xs _ (hs _))) ?_
          rintro _ _ ⟨ys, d, a9, c9, E9, rfl, hN, V9, rfl⟩
          obtain ⟨rfl, rfl⟩ : ys = ascS S 10000 ∧ d = 0 := by rcases num_end hN hor hstop hb with ⟨q1, q2, q3⟩ | ⟨q1, q2, q3, q4⟩ | ⟨q1, q2, q3, q4⟩ <;> first | exact ⟨q2, q3⟩ | exact ⟨q3, q4⟩ | (exfalso; omega)
          have hV9s := V9.slv' (W0 := W0) (xs := ascS S 10000) (fun _ => rfl) rfl (Sub.refl _)
          have hle9 := hV9s.le
          have hcb9 := hV9s.capb
          refine sr_mv ?_
          refine sr_rd (x_extract rfl rfl) ?_
          refine sr_rd (x_extract rfl rfl) ?_
          refine sr_as ?_
          refine sr_as ?_
          refine sr_nil ?_
          refine aw_kp [2, 3, 4, 11, 12] ?_
          refine aw_seq ?_
          refine aw_seq_region ?_
          refine sr_mv ?_
          refine sr_c (x_ne rfl rfl) (fun h36 => absurd h36 (by first | assumption | decide | omega)) (fun h36 => ?_)
          refine sr_nil ?_
          refine aw_kp [2, 3, 4, 11, 12, 109] ?_
          refine aw_false rfl ?_
          refine aw_skip ?_
          show AW _ _ _ _ _ _ _
          refine aw_seq_region ?_
          refine sr_as ?_
          refine sr_nil ?_
          refine aw_kp [2, 3, 11, 12, 13] ?_
          refine aw_seq ?_
          refine aw_seq_region ?_
          refine sr_as ?_
          refine sr_nil ?_
          refine aw_kp [2, 3, 11, 12, 13, 14] ?_
          refine aw_block ?_
          refine aw_loop (ι := Nat) (fun k => k ≤ 10000) (fun k => [(2, .bool false), (3, .pointer (some ⟨r2_0, 0, none⟩)), (11, .slice a9 (ascS S 10000).length c9), (12, .int .i64 0), (13, .int .i64 (ascS S k).length), (14, .int .i64 k)]) (fun _ => E9 ++ [(r2_0, .cells (inB (S)).toArray 64 (0, 0))]) (fun k => 10000 - k) 0 (Nat.zero_le _) KeepF.auto Sub.autoP ?_
          intro k hk
          refine aw_seq ?_
          refine aw_seq_region ?_
          refine sr_mv ?_
          refine sr_c (x_lt rfl rfl) (fun h37 => ?_) (fun h37 => ?_)
          · refine sr_nil ?_
            refine aw_kp [2, 3, 11, 12, 13, 14, 121, 122] ?_
            refine aw_true rfl ?_
            refine aw_skip ?_
            show AW _ _ _ _ _ _ _
            refine aw_seq ?_
            refine aw_block ?_
            refine aw_seq_region ?_
            refine sr_mv ?_
            refine sr_rd (x_indexAddrA Tryd.underlying64 sz4 rfl rfl (by omega) (by omega)) ?_
            refine sr_rd (x_load ag4 rfl (cells_in mauto (by omega))) ?_
            refine sr_nil ?_
            refine aw_kp [2, 3, 11, 12, 13, 14, 121, 122, 125, 126, 127] ?_
            refine aw_cond rfl (fun hb38 => ?_) (fun hb38 => ?_)
            · refine aw_seq ?_
              refine aw_seq_region ?_
              have hkS : (k : Int) ∈ S := of_decide_eq_true (by assumption)
              have hgk := ascS_get hkS (show k < 10000 by omega)
              have hlt := get_lt hgk
              obtain ⟨by_, oy, hay, hcy⟩ := hV9s.at_ _ _ hgk
              refine sr_mv ?_
              refine sr_mv ?_
              refine sr_rd (x_lenSlice Tryd.underlying69 rfl) ?_
              refine sr_c (x_ge rfl rfl) (fun h39 => absurd h39 (by omega)) (fun h39 => ?_)
              refine sr_mv ?_
              refine sr_ry (x_move rfl) ?_
              refine sr_ry (x_move rfl) ?_
              refine sr_ry (x_indexAddrN ((ascS S k).length) Tryd.underlying69 sz3 rfl hay rfl (by omega) (by omega)) ?_
              refine sr_ry (x_load ag3 rfl (Cells.mono hcy Sub.autoE)) ?_
              refine sr_ry (x_move rfl) ?_
              refine sr_cy (x_ne rfl rfl) (fun h40 => absurd h40 (by exact fun h => h rfl)) (fun h40 => ?_)
              refine sr_rd (x_pick_f rfl rfl rfl) ?_
              refine sr_nil ?_
              refine aw_kp [2, 3, 11, 12, 13, 14, 121, 122, 125, 126, 127, 128, 129, 130, 131, 132, 133, 134, 135, 136, 137, 138, 139] ?_
              refine aw_false rfl ?_
              refine aw_skip ?_
              show AW _ _ _ _ _ _ _
              refine aw_region ?_
              refine sr_mv ?_
              refine sr_rd (x_add' rfl rfl (i64w (by omega) (by omega))) ?_
              refine sr_as ?_
              refine sr_nil ?_
              show AW _ _ _ _ _ _ _
              refine aw_region ?_
              refine sr_mv ?_
              refine sr_rd (x_add' rfl rfl (i64w (by omega) (by omega))) ?_
              refine sr_as ?_
              refine sr_nil ?_
              show ∃ s', _ ∧ _ ∧ _ ∧ _
              first | exact ⟨k + 1, by omega, by omega, (by rw [ascS_y (S := S) (k := k) (of_decide_eq_true (by assumption)), List.length_append]; exact KeepF.auto), Sub.autoD⟩ | exact ⟨k + 1, by omega, by omega, (by rw [ascS_n (S := S) (k := k) (of_decide_eq_false (by assumption))]; exact KeepF.auto), Sub.autoD⟩
            · refine aw_skip ?_
              show AW _ _ _ _ _ _ _
              refine aw_region ?_
              refine sr_mv ?_
              refine sr_rd (x_add' rfl rfl (i64w (by omega) (by omega))) ?_
              refine sr_as ?_
              refine sr_nil ?_
              show ∃ s', _ ∧ _ ∧ _ ∧ _
              first | exact ⟨k + 1, by omega, by omega, (by rw [ascS_y (S := S) (k := k) (of_decide_eq_true (by assumption)), List.length_append]; exact KeepF.auto), Sub.autoD⟩ | exact ⟨k + 1, by omega, by omega, (by rw [ascS_n (S := S) (k := k) (of_decide_eq_false (by assumption))]; exact KeepF.auto), Sub.autoD⟩
          · refine sr_nil ?_
            refine aw_kp [2, 3, 11, 12, 13, 14, 121, 122] ?_
            refine aw_false rfl ?_
            refine aw_exit ?_
            show AW _ _ _ _ _ _ _
            refine aw_seq_region ?_
            refine sr_mv ?_
            refine sr_mv ?_
            refine sr_rd (x_lenSlice Tryd.underlying69 rfl) ?_
            refine sr_c (x_eq rfl rfl) (fun h41 => ?_) (fun h41 => absurd (by (have ek : k = 10000 := by omega); subst ek; rfl) h41)
            refine sr_mv ?_
            refine sr_ry (x_move rfl) ?_
            refine sr_cy (x_eq rfl rfl) (fun h42 => ?_) (fun h42 => absurd (by rfl) h42)
            refine sr_rd (x_pick_t rfl rfl rfl) ?_
            refine sr_mv ?_
            refine sr_d rfl (wtd_yes rfl rfl rfl) rfl (opS_call rfl rfl rfl rfl cl43 (awake35_s _)) ?_
            rintro _ H9 ⟨rfl, rfl⟩
            refine sr_rd (x_pick_t rfl rfl rfl) ?_
            refine sr_as ?_
            refine sr_nil ?_
            refine aw_kp [2] ?_
            refine aw_ret ?_
            show ∃ v H2, ResV _ _ _ _ _ _ v ∧ Sub H2 _ ∧ _
            exact ⟨_, [], resV rfl (.cons rfl .nil), (Sub.nil _), rfl⟩
      · refine sr_mv ?_
        refine sr_sk ?_
        refine sr_sk ?_
        refine sr_rd (x_pick_f rfl rfl rfl) ?_
        refine sr_nil ?_
        refine aw_kp [0, 2, 3, 4, 102] ?_
        refine aw_false rfl ?_
        refine aw_skip ?_
        show AW _ _ _ _ _ _ _
        refine aw_seq_region ?_
        refine sr_mv ?_
        refine sr_d rfl (wtd_none rfl) rfl (opS_call rfl rfl rfl rfl cl42 (numbers_s sa scap xs _ (hs _))) ?_
        rintro _ _ ⟨ys, d, a9, c9, E9, rfl, hN, V9, rfl⟩
        obtain ⟨rfl, rfl⟩ : ys = [] ∧ d = e := by rcases num_end hN hor hstop hb with ⟨q1, q2, q3⟩ | ⟨q1, q2, q3, q4⟩ | ⟨q1, q2, q3, q4⟩ <;> first | exact ⟨q2, q3⟩ | exact ⟨q3, q4⟩ | (exfalso; omega)
        refine sr_mv ?_
        refine sr_rd (x_extract rfl rfl) ?_
        refine sr_rd (x_extract rfl rfl) ?_
        refine sr_as ?_
        refine sr_as ?_
        refine sr_nil ?_
        refine aw_kp [2, 3, 4, 11, 12] ?_
        refine aw_seq ?_
        refine aw_seq_region ?_
        refine sr_mv ?_
        refine sr_c (x_ne rfl rfl) (fun h43 => ?_) (fun h43 => absurd (by first | assumption | decide | omega) h43)
        refine sr_nil ?_
        refine aw_kp [2, 3, 4, 11, 12, 109] ?_
        refine aw_true rfl ?_
        refine aw_seq_region ?_
        refine sr_mv ?_
        refine sr_rd (x_lenSlice Tryd.underlying69 rfl) ?_
        refine sr_c (x_eq rfl rfl) (fun h44 => ?_) (fun h44 => absurd (by rfl) h44)
        refine sr_mv ?_
        refine sr_ry (x_move rfl) ?_
        refine sr_ry (x_move rfl) ?_
        refine sr_cy (x_eq rfl rfl) (fun h45 => ?_) (fun h45 => absurd (by rfl) h45)
        refine sr_rd (x_pick_t rfl rfl rfl) ?_
        refine sr_mv ?_
        refine sr_d rfl (wtd_yes rfl rfl rfl) rfl (opS_call rfl rfl rfl rfl cl43 (awake35_s _)) ?_
        rintro _ H9 ⟨rfl, rfl⟩
        refine sr_rd (x_pick_t rfl rfl rfl) ?_
        refine sr_as ?_
        refine sr_nil ?_
        refine aw_kp [2, 3, 11, 12] ?_
        refine aw_ret ?_
        show ∃ v H2, ResV _ _ _ _ _ _ v ∧ Sub H2 _ ∧ _
        exact ⟨_, [], resV rfl (.cons rfl .nil), (Sub.nil _), rfl⟩
end
namespace ArrayNumbersRow
open Go.ChangeShapes Go.WideShapes Go.ChangeAt Go.RowKit
theorem own : ownKnob Tryd.prog.godebug = none := by kernel_rfl
theorem laidOut : laidOutB Tryd.prog = true := by kernel_rfl
def laid : List (String × DataW Unit) := [("unicode/utf8.acceptRanges", Rows.laid_unicode_utf8_acceptRanges), ("unicode/utf8.first", Rows.laid_unicode_utf8_first)]
set_option maxRecDepth 100000 in
theorem lifted (os : Os) (started : os.Started) (H : Type) (enc : TypeId × Value → H) :
    ReturnsInHanded {} Tryd.checked os 13 .any (fun w args => (Rows.arrayNumbersSpec.pre enc Tryd.prog Tryd.f13 [] false w args ∧ laidMetH Tryd.prog laid w) ∧ sizedMet enc Tryd.prog Tryd.f13 (OpenSpec.ofChange Rows.arrayNumbersSpec) false w args)
      (Rows.arrayNumbersSpec.post enc Tryd.prog Tryd.f13 false true false false) := by
  refine law_lifted_laid (C := Tryd.checked) (tb := 4) (laid := laid) own started (by kernel_rfl) Tryd.func13
    (ChangeSpec.witness_shaped (enc := enc) (C := Tryd.checked) (os := os) (X := fun w _ => laidMetH Tryd.prog laid w) false (World.laidAll Tryd.prog os laid) #[.slice none 0 0] 8 (World.laidAll_os _ _ _)
      (World.shaped_of_ZipB (by kernel_rfl) (by kernel_rfl)) (by kernel_rfl) (by kernel_rfl) (by kernel_rfl)
      (by rw [MakeChecks.laidMetH_plain _ _ _ (by kernel_rfl)]; exact laidMet_laidAll _ (by kernel_rfl) (by kernel_rfl)))
    (fun w => MakeChecks.laidMetH_plain _ _ _ (by kernel_rfl)) rfl Tryd.underlying4 rfl laidOut (by kernel_rfl) ?_ ?_
  · intro ds h
    match ds, h with
    | [a0], _ => rfl
  · intro W base args ds ps hval hA hlt hsz
    have hA' : DataW.TrodAll enc Tryd.prog W 0 (fun _ => true) true [62] args ds ps := hA
    clear hA
    obtain ⟨v0, vs0, d0, ds0, p0, q0, rfl, rfl, rfl, h0, r0⟩ := trodAll_cons hA'
    obtain ⟨rfl, rfl, rfl⟩ := trodAll_nil r0
    obtain ⟨a, cap, xs, rfl, hs, hw⟩ := opn_slice Tryd.underlying62 cells67 (by decide) (fun fuel cs x h => read_Part h) (hval 0 62 v0 rfl rfl) h0
    exact arrayNumbers_s a cap xs hs
theorem joined : joinedFacts Tryd.prog 13 Tryd.f13 Rows.arrayNumbersSpec Rows.arrayNumbersRow = true := by
  unfold joinedFacts
  rw [cutMay, cutLif, cutMk]
  kernel_rfl
theorem over : Rows.arrayNumbersRow.holds Tryd.pinned (OpenSpec.ofChange Rows.arrayNumbersSpec) :=
  OpenClaim.holds_of_wide 13 Tryd.f13 rfl rfl rfl rfl rfl rfl rfl ⟨rfl, rfl, rfl, rfl, rfl⟩ rfl rfl rfl rfl rfl (by kernel_rfl) Tryd.func13 joined
    (of_decide_eq_true (by kernel_rfl)) (by unfold Func.isWrapper; first | (rw [if_pos (by decide +kernel)]; kernel_rfl) | (rw [if_neg (by decide +kernel)]; exact ⟨rfl, rfl⟩))
    (fun os started H enc _ => lifted os started H enc)
theorem proved : Rows.ArrayNumbersCardSaid :=
  Claim7.holds_tied_plain_at .later [] [.data, .pinned] true (true, "426c9bee184f4b528ab0760080dc1cc7cd819b0490f5c9691bd34e83eb6dee88") false over (fun _ h => by cases h) (by kernel_rfl) (fun _ h => by cases h) arrayNumbers_row_tie rfl ⟨rfl, rfl⟩ (by kernel_rfl) rfl
    (fun f fn hf hfn => by
      obtain rfl : f = 13 := Option.some.inj ((show Tryd.prog.funcNamed "berthage/berthagelaw35.ArrayNumbers" = some 13 by kernel_rfl).symm.trans hf) |>.symm
      obtain rfl : fn = Tryd.f13 := (Option.some.inj (Tryd.func13.symm.trans hfn)).symm
      exact ⟨by kernel_rfl, fun j t ht => by
        have ht' : (#[62] : Array TypeId)[j]? = some t := ht
        have hm : t ∈ [62] := by simpa using Array.mem_of_getElem? ht'
        have hall : ([62].all fun u => !Tryd.prog.wantsStandIn u) = true := by kernel_rfl
        exact (show Tryd.prog.wantsStandIn t = false by simpa using List.all_eq_true.1 hall t hm)⟩)
    (by kernel_rfl)
#print axioms proved
end ArrayNumbersRow
end Go.Proofs.YtbcajgkaepihfaaDoor
