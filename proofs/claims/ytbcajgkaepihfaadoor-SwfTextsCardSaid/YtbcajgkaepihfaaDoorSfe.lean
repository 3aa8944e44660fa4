/- Entries as a text. -/
import Derived.Test.YtbcajgkaepihfaaDoorSfd
namespace Go.Proofs.YtbcajgkaepihfaaDoor
open Go.Proofs.YtbcajgkaepihfaaDoor.Sym
open Go.RowKit (Below)
set_option linter.unusedVariables false
set_option linter.unusedSimpArgs false
theorem joinW_snoc {c : UInt8} {w : List UInt8} : ∀ {ws : List (List UInt8)}, ws ≠ [] → joinW c (ws ++ [w]) = (joinW c ws ++ [c]) ++ w
  | [], h => absurd rfl h
  | [v], _ => by simp [joinW]
  | v :: u :: ws, _ => by
    have h := joinW_snoc (c := c) (w := w) (ws := u :: ws) (by simp)
    rw [List.cons_append, joinW_cons (w := v) (ws := u :: ws ++ [w]) (by simp), h, joinW_cons (w := v) (ws := u :: ws) (by simp)]; simp
theorem joinW_len {c : UInt8} : ∀ {ws : List (List UInt8)}, (∀ w ∈ ws, w.length ≤ 20) → (joinW c ws).length ≤ 21 * ws.length
  | [], _ => by simp [joinW]
  | [v], h => by have := h v (by simp); simp [joinW]; omega
  | v :: u :: ws, h => by
    have h1 := h v (by simp)
    have h2 := joinW_len (c := c) (ws := u :: ws) fun w hw => h w (List.mem_cons_of_mem _ hw)
    rw [joinW_cons (by simp), List.length_append, List.length_cons, List.length_cons]
    omega
def elT (e : Ent) (k : Nat) : List UInt8 := joinW 32 (((entL e).take k).map numB)
theorem elT_len {e : Ent} (h : EWf e) (k : Nat) : (elT e k).length ≤ 126 := by
  have h1 := joinW_len (c := 32) (ws := ((entL e).take k).map numB) (by
    intro w hw
    rw [List.mem_map] at hw
    obtain ⟨x, hx, rfl⟩ := hw
    have := h x (List.mem_of_mem_take hx)
    exact numB_len this.1 this.2)
  rw [List.length_map, List.length_take] at h1
  have : (entL e).length = 6 := rfl
  unfold elT; omega
theorem elT_s {e : Ent} {k : Nat} {x : Int} (h : (entL e)[k]? = some x) (h0 : 0 < k) : elT e (k + 1) = (elT e k ++ [32]) ++ numB x := by
  unfold elT
  rw [takeS h, List.map_append]
  have hk := get_lt h
  exact joinW_snoc (by
    intro q
    have := congrArg List.length q
    rw [List.length_map, List.length_take, List.length_nil] at this
    omega)
theorem elT_0 {e : Ent} {k : Nat} {x : Int} (h : (entL e)[k]? = some x) (h0 : ¬ 0 < k) : elT e (k + 1) = elT e k ++ numB x := by
  obtain rfl : k = 0 := by omega
  unfold elT
  rw [takeS h]; rfl
theorem elT_6 (e : Ent) : elT e 6 = elB e := rfl
theorem ent_at {e : Ent} {k : Nat} {x : Int} (h : (entL e)[k]? = some x) : e.cells[(k : Int).toNat * 1]? = some (.int .i64 x) := by
  show ((entL e).map fun x => Value.int .i64 x)[(k : Int).toNat * 1]? = _
  rw [Nat.mul_one, Int.toNat_natCast, List.getElem?_map, h]; rfl
def moreE (r : List UInt8) (es : List Ent) : List UInt8 := es.flatMap fun e => 59 :: (r ++ 10 :: 10 :: (elB e ++ [10]))
theorem moreE_snoc (r : List UInt8) (es : List Ent) (e : Ent) : moreE r (es ++ [e]) = ((((moreE r es ++ [59]) ++ r) ++ [10, 10]) ++ elB e) ++ [10] := by unfold moreE; rw [List.flatMap_append]; simp
theorem moreE_len {r : List UInt8} : ∀ {es : List Ent}, (∀ e ∈ es, ERight e) → (moreE r es).length ≤ (129 + r.length) * es.length
  | [], _ => by simp [moreE]
  | e :: es, h => by
    have h1 := el_len (ewf_of (h e List.mem_cons_self))
    have h2 := moreE_len (r := r) (es := es) fun x hx => h x (List.mem_cons_of_mem _ hx)
    unfold moreE at h2 ⊢
    have e1 : (e :: es).length = es.length + 1 := rfl
    rw [List.flatMap_cons, List.length_append, e1, Nat.mul_add, Nat.mul_one]
    simp only [List.length_append, List.length_cons, List.length_nil]; omega
theorem spl_more {r : List UInt8} (h : (10 : UInt8) ∉ r) : ∀ es : List Ent, spl 10 (moreE r es) = (es.flatMap fun e => [59 :: r, [], elB e]) ++ [[]]
  | [] => rfl
  | e :: es => by
    have h0 : moreE r (e :: es) = (59 :: r) ++ 10 :: ([] ++ 10 :: (elB e ++ 10 :: moreE r es)) := by unfold moreE; rw [List.flatMap_cons]; simp
    rw [h0, spl_find (by rw [List.mem_cons, not_or]; exact ⟨by decide, h⟩), spl_find (by simp), spl_find el_no, spl_more h es]; rfl
theorem rdE_more {r : List UInt8} : ∀ (es : List Ent) (i : Nat) (acc : List Ent), (∀ e ∈ es, ERight e) → acc.length + es.length ≤ 1024 → rdE i acc ((es.flatMap fun e => [59 :: r, [], elB e]) ++ [[]]) = (acc ++ es, 0, 0)
  | [], i, acc, _, _ => by
    show rdE i acc [[]] = _
    rw [rdE_skip (.inl rfl), List.append_nil]; rfl
  | e :: es, i, acc, h, hl => by
    rw [List.length_cons] at hl
    rw [List.flatMap_cons]
    show rdE i acc ((59 :: r) :: [] :: elB e :: ((es.flatMap fun e => [59 :: r, [], elB e]) ++ [[]])) = _
    rw [rdE_skip sk_cons, rdE_skip (.inl rfl), rdE_ok el_ns (eparse_el (h e List.mem_cons_self)) (by omega), rdE_more es _ (acc ++ [e]) (fun x hx => h x (List.mem_cons_of_mem _ hx)) (by rw [List.length_append, List.length_singleton]; omega), List.append_assoc]; rfl
theorem rd_more {r : List UInt8} {es : List Ent} (h : (10 : UInt8) ∉ r) (he : ∀ e ∈ es, ERight e) (hl : es.length ≤ 1024) : rdR (moreE r es) = (es, 0, 0) := by
  unfold rdR
  rw [spl_more h, rdE_more es 0 [] he (by simpa using hl)]; rfl
theorem rd_txt {es : List Ent} (he : ∀ e ∈ es, ERight e) (hl : es.length ≤ 1024) : rdR (txtE es) = (es, 0, 0) := by
  have h := rd_es (s := []) he (by simp) hl
  rw [List.append_nil] at h
  rw [h]; exact rdE_skip (.inl rfl)
structure TxG where
  k : Nat
  sl : Value
  E : SHeap
theorem ag97 : aggOf Tryd.prog 97 = some true := by kernel_rfl
theorem cl30 : Callable Tryd.prog 30 := ⟨Tryd.f30, Tryd.func30, by kernel_rfl, by kernel_rfl⟩
theorem cl59 : Callable Tryd.prog 59 := ⟨Tryd.f59, Tryd.func59, by kernel_rfl, by kernel_rfl⟩
theorem cl60 : Callable Tryd.prog 60 := ⟨Tryd.f60, Tryd.func60, by kernel_rfl, by kernel_rfl⟩
theorem sz97 : szOf Tryd.prog 97 = some 6 := by kernel_rfl
theorem zr100 : zeroOf Tryd.prog 100 = some (.agg #[.pointer none, .slice none 0 0]) := by kernel_rfl
section
variable {W0 : World}
set_option maxRecDepth 100000 in
set_option maxHeartbeats 1000000 in
theorem eline_s (e : Ent) (hw : EWf e) (H : SHeap) : AC Tryd.prog W0 30 [e.v] H (fun v H' => v = .string (bs (elB e)) ∧ H' = H) := by
  refine ac_of Tryd.func30 rfl rfl rfl ?_
  refine aw_seq_region ?_
  refine sr_new rfl (wtd_none rfl) rfl (x_box rfl rfl) ?_
  intro r0_0 hr0_0 gr0_0
  refine sr_as ?_
  refine sr_nil ?_
  refine aw_kp [1, 2] ?_
  refine aw_seq_region ?_
  refine sr_rd (x_fieldAddr fd30_0 rfl) ?_
  refine sr_rd (x_load ag2 rfl (cells_ext mauto Ext.auto)) ?_
  refine sr_rd (x_fieldAddr fd30_1 rfl) ?_
  refine sr_rd (x_load ag2 rfl (cells_ext mauto Ext.auto)) ?_
  refine sr_rd (x_fieldAddr fd30_2 rfl) ?_
  refine sr_rd (x_load ag2 rfl (cells_ext mauto Ext.auto)) ?_
  refine sr_rd (x_fieldAddr fd30_3 rfl) ?_
  refine sr_rd (x_load ag3 rfl (cells_ext mauto Ext.auto)) ?_
  refine sr_rd (x_fieldAddr fd30_4 rfl) ?_
  refine sr_rd (x_load ag3 rfl (cells_ext mauto Ext.auto)) ?_
  refine sr_rd (x_fieldAddr fd30_5 rfl) ?_
  refine sr_rd (x_load ag3 rfl (cells_ext mauto Ext.auto)) ?_
  refine sr_rd (x_buildA zr97 rfl Tryd.underlying97 sz2 Parts.auto Fill.auto) ?_
  refine sr_new rfl (wtd_none rfl) rfl (x_alloc zr97 rfl) ?_
  intro r1_13 hr1_13 gr1_13
  refine sr_x0 rfl (wtd_none rfl) (x_store sz97 rfl rfl rfl rfl rfl Repl.auto Spl.auto) ?_
  refine sr_nil ?_
  refine aw_kp [2, 3] ?_
  refine aw_seq_region ?_
  refine sr_as ?_
  refine sr_nil ?_
  refine aw_kp [2, 3, 4] ?_
  refine aw_seq ?_
  refine aw_seq_region ?_
  refine sr_rd (x_loadN ag97 sz97 rfl (cells_ext mauto Ext.auto) rfl) ?_
  refine sr_mv ?_
  refine sr_nil ?_
  refine aw_kp [2, 4, 20, 21] ?_
  refine aw_block ?_
  refine aw_loop (ι := Nat) (fun k => k ≤ 6) (fun k => [(2, .string (bs [])), (4, .string (bs (elT e k))), (20, e.v), (21, .int .i64 k)]) (fun _ => H) (fun k => 6 - k) 0 (Nat.zero_le _) KeepF.auto Sub.autoP ?_
  intro k hk
  refine aw_seq_region ?_
  refine sr_c (x_lt rfl rfl) (fun h1 => ?_) (fun h1 => ?_)
  · refine sr_nil ?_
    refine aw_kp [2, 4, 20, 21, 22] ?_
    refine aw_seq ?_
    refine aw_true rfl ?_
    refine aw_skip ?_
    show AW _ _ _ _ _ _ _
    refine aw_seq ?_
    refine aw_block ?_
    refine aw_seq_region ?_
    obtain ⟨x, hx⟩ := get_ex (show k < (entL e).length from (by have : (entL e).length = 6 := rfl; omega))
    have hxl := numB_len (hw x (List.mem_of_getElem? hx)).1 (hw x (List.mem_of_getElem? hx)).2
    have hel := elT_len hw k
    refine sr_mv ?_
    refine sr_rd (x_index (cs := e.cells) Tryd.underlying97 sz2 ag2 rfl rfl (by omega) (by omega) (ent_at hx)) ?_
    refine sr_as ?_
    refine sr_as ?_
    refine sr_nil ?_
    refine aw_kp [2, 4, 5, 6, 20, 21, 22, 23, 24] ?_
    refine aw_seq ?_
    refine aw_seq_region ?_
    refine sr_mv ?_
    refine sr_c (x_gt rfl rfl) (fun h2 => ?_) (fun h2 => ?_)
    · refine sr_nil ?_
      refine aw_kp [2, 4, 5, 6, 20, 21, 22, 23, 24, 25, 26] ?_
      refine aw_true rfl ?_
      refine aw_region ?_
      refine sr_mv ?_
      refine sr_rd (x_catB rfl rfl (by first | omega | (simp only [List.length_append, List.length_cons, List.length_nil]; omega))) ?_
      refine sr_as ?_
      refine sr_nil ?_
      show AW _ _ _ _ _ _ _
      refine aw_region ?_
      refine sr_mv ?_
      refine sr_mv ?_
      refine sr_d rfl (wtd_none rfl) rfl (opS_call rfl rfl rfl rfl cl27 (number_s x (hw x (List.mem_of_getElem? hx)) _)) ?_
      rintro _ H9 ⟨rfl, rfl⟩
      refine sr_rd (x_catB rfl rfl (by first | omega | (simp only [List.length_append, List.length_cons, List.length_nil]; omega))) ?_
      refine sr_as ?_
      refine sr_nil ?_
      show AW _ _ _ _ _ _ _
      refine aw_region ?_
      refine sr_rd (x_add' rfl rfl (i64w (by omega) (by omega))) ?_
      refine sr_mv ?_
      refine sr_nil ?_
      show ∃ s', _ ∧ _ ∧ _ ∧ _
      first | exact ⟨k + 1, by omega, by omega, (by rw [elT_s hx (by omega)]; exact KeepF.auto), Sub.autoD⟩ | exact ⟨k + 1, by omega, by omega, (by rw [elT_0 hx (by omega)]; exact KeepF.auto), Sub.autoD⟩
    · refine sr_nil ?_
      refine aw_kp [2, 4, 5, 6, 20, 21, 22, 23, 24, 25, 26] ?_
      refine aw_false rfl ?_
      refine aw_skip ?_
      show AW _ _ _ _ _ _ _
      refine aw_region ?_
      refine sr_mv ?_
      refine sr_mv ?_
      refine sr_d rfl (wtd_none rfl) rfl (opS_call rfl rfl rfl rfl cl27 (number_s x (hw x (List.mem_of_getElem? hx)) _)) ?_
      rintro _ H9 ⟨rfl, rfl⟩
      refine sr_rd (x_catB rfl rfl (by first | omega | (simp only [List.length_append, List.length_cons, List.length_nil]; omega))) ?_
      refine sr_as ?_
      refine sr_nil ?_
      show AW _ _ _ _ _ _ _
      refine aw_region ?_
      refine sr_rd (x_add' rfl rfl (i64w (by omega) (by omega))) ?_
      refine sr_mv ?_
      refine sr_nil ?_
      show ∃ s', _ ∧ _ ∧ _ ∧ _
      first | exact ⟨k + 1, by omega, by omega, (by rw [elT_s hx (by omega)]; exact KeepF.auto), Sub.autoD⟩ | exact ⟨k + 1, by omega, by omega, (by rw [elT_0 hx (by omega)]; exact KeepF.auto), Sub.autoD⟩
  · refine sr_nil ?_
    refine aw_kp [2, 4, 20, 21, 22] ?_
    refine aw_seq ?_
    refine aw_false rfl ?_
    refine aw_exit ?_
    show AW _ _ _ _ _ _ _
    refine aw_seq_region ?_
    obtain rfl : k = 6 := by omega
    refine sr_mv ?_
    refine sr_as ?_
    refine sr_nil ?_
    refine aw_kp [2] ?_
    refine aw_ret ?_
    show ∃ v H2, ResV _ _ _ _ _ _ v ∧ Sub H2 _ ∧ _
    exact ⟨_, H, resV rfl (.cons rfl .nil), Sub.autoP, ⟨rfl, rfl⟩⟩
set_option maxRecDepth 100000 in
set_option maxHeartbeats 1000000 in
theorem etext_s (sa : Option Addr) (scap : Nat) (xs : List Ent) (H : SHeap) (hs : SlV W0 H 6 Ent.cells sa scap xs) (hxl : xs.length ≤ 100) : AC Tryd.prog W0 31 [.slice sa xs.length scap] H (fun v H' => v = .string (bs (txtE (okE xs))) ∧ H' = H) := by
  have hle := hs.le
  have hcb := hs.capb
  refine ac_of Tryd.func31 rfl rfl rfl ?_
  refine aw_seq_region ?_
  refine sr_as ?_
  refine sr_nil ?_
  refine aw_kp [0, 2] ?_
  refine aw_seq_region ?_
  refine sr_new rfl (wtd_none rfl) rfl (x_alloc zr100 rfl) ?_
  intro r1_0 hr1_0 gr1_0
  refine sr_nil ?_
  refine aw_kp [0, 2, 3] ?_
  refine aw_seq ?_
  refine aw_seq_region ?_
  refine sr_mv ?_
  refine sr_rd (x_lenSlice Tryd.underlying24 rfl) ?_
  refine sr_mv ?_
  refine sr_nil ?_
  refine aw_kp [2, 3, 6, 7, 8] ?_
  refine aw_block ?_
  refine aw_loop (ι := BldG) (fun s => s.k ≤ xs.length ∧ s.l = txtE (okE (xs.take s.k)) ∧ s.l.length ≤ 126 * s.k ∧ (s.a = .pointer none ∨ s.a = selfP r1_0) ∧ OwnVec 1 5 s.sl s.l.length (byC s.l) s.E ∧ (s.l = [] → s.sl = .slice none 0 0)) (fun s => [(2, .string (bs [])), (3, selfP r1_0), (6, .slice sa xs.length scap), (7, .int .i64 xs.length), (8, .int .i64 s.k)]) (fun s => s.E ++ ((r1_0, .cells (bldC (s.a) (s.sl)).toArray 100 (0, 0)) :: H)) (fun s => xs.length - s.k) ⟨0, [], .pointer none, .slice none 0 0, []⟩ (⟨Nat.zero_le _, rfl, Nat.zero_le _, .inl rfl, .nil, fun _ => rfl⟩) KeepF.auto Sub.autoP ?_
  intro s hs9
  obtain ⟨k, l, a, sl, E⟩ := s
  dsimp only at hs9 ⊢
  obtain ⟨hk, hl, hll, ha, V, hn⟩ := hs9
  refine aw_seq_region ?_
  refine sr_c (x_lt rfl rfl) (fun h1 => ?_) (fun h1 => ?_)
  · refine sr_nil ?_
    refine aw_kp [2, 3, 6, 7, 8, 9] ?_
    refine aw_seq ?_
    refine aw_true rfl ?_
    refine aw_skip ?_
    show AW _ _ _ _ _ _ _
    refine aw_seq ?_
    refine aw_block ?_
    refine aw_seq_region ?_
    obtain ⟨x, hx⟩ := get_ex (show k < xs.length by omega)
    obtain ⟨bx, ox, hax, hcx⟩ := hs.at_ k _ hx
    refine sr_rd (x_indexAddrN k Tryd.underlying24 sz30 rfl hax rfl (by omega) (by omega)) ?_
    refine sr_rd (x_loadN ag30 sz30 rfl (Cells.mono hcx Sub.autoR) rfl) ?_
    refine sr_new rfl (wtd_none rfl) rfl (x_alloc zr30 rfl) ?_
    intro r4_2 hr4_2 gr4_2
    refine sr_x0 rfl (wtd_none rfl) (x_store sz30 rfl rfl rfl rfl rfl Repl.auto Spl.auto) ?_
    refine sr_nil ?_
    refine aw_kp [2, 3, 5, 6, 7, 8, 9, 10, 11] ?_
    refine aw_seq_region ?_
    refine sr_rd (x_loadN ag30 sz30 rfl (cells_ext mauto Ext.auto) rfl) ?_
    refine sr_d rfl (wtd_none rfl) rfl (opS_call rfl rfl rfl rfl cl29 (eright_s x _)) ?_
    rintro _ H9 ⟨rfl, rfl⟩
    generalize hd : decide (ERight x) = d1
    cases d1
    · refine sr_nil ?_
      refine aw_kp [2, 3, 5, 6, 7, 8, 9, 10, 11, 12, 13] ?_
      refine aw_false rfl ?_
      refine aw_skip ?_
      show AW _ _ _ _ _ _ _
      refine aw_region ?_
      refine sr_rd (x_add' rfl rfl (i64w (by omega) (by omega))) ?_
      refine sr_mv ?_
      refine sr_nil ?_
      show ∃ s', _ ∧ _ ∧ _ ∧ _
      first | exact ⟨⟨k + 1, l ++ (elB x ++ [10]), selfP r1_0, .slice a2 (l ++ (elB x ++ [10])).length c2, E2⟩, ⟨by dsimp only; omega, (by dsimp only; rw [okE_yes hx (of_decide_eq_true hd), txtE_snoc, hl, List.append_assoc]), (by dsimp only; rw [List.length_append]; omega), .inr rfl, V2, fun q => absurd (congrArg List.length q) (by dsimp only; rw [List.length_append, List.length_nil]; omega)⟩, by dsimp only; omega, KeepF.auto, Sub.autoD⟩ | exact ⟨⟨k + 1, l, a, sl, E⟩, ⟨by dsimp only; omega, (by dsimp only; rw [okE_no hx (of_decide_eq_false hd)]; exact hl), (by dsimp only; omega), ha, V, hn⟩, by dsimp only; omega, KeepF.auto, Sub.autoD⟩
    · refine sr_nil ?_
      refine aw_kp [2, 3, 5, 6, 7, 8, 9, 10, 11, 12, 13] ?_
      refine aw_true rfl ?_
      refine aw_region ?_
      refine sr_rd (x_loadN ag30 sz30 rfl (cells_ext mauto Ext.auto) rfl) ?_
      refine sr_d rfl (wtd_none rfl) rfl (opS_call rfl rfl rfl rfl cl30 (eline_s x (ewf_of (of_decide_eq_true hd)) _)) ?_
      rintro _ H9 ⟨rfl, rfl⟩
      have hell := el_len (ewf_of (of_decide_eq_true hd))
      have hen : (elB x ++ [10]).length = (elB x).length + 1 := by rw [List.length_append]; rfl
      refine sr_rd (x_catB rfl rfl (by first | omega | (simp only [List.length_append, List.length_cons, List.length_nil]; omega))) ?_
      refine sr_d rfl (wtd_none rfl) rfl (opS_call rfl rfl rfl rfl cl59 (AC.sub Sub.autoP (write_s r1_0 a sl l (elB x ++ [10]) E ((r4_2, .cells (Ent.cells x).toArray 30 (0, 0)) :: H) ha V (by omega)))) ?_
      rintro _ _ ⟨a2, c2, E2, V2, rfl⟩
      refine sr_nil ?_
      show AW _ _ _ _ _ _ _
      refine aw_region ?_
      refine sr_rd (x_add' rfl rfl (i64w (by omega) (by omega))) ?_
      refine sr_mv ?_
      refine sr_nil ?_
      show ∃ s', _ ∧ _ ∧ _ ∧ _
      first | exact ⟨⟨k + 1, l ++ (elB x ++ [10]), selfP r1_0, .slice a2 (l ++ (elB x ++ [10])).length c2, E2⟩, ⟨by dsimp only; omega, (by dsimp only; rw [okE_yes hx (of_decide_eq_true hd), txtE_snoc, hl, List.append_assoc]), (by dsimp only; rw [List.length_append]; omega), .inr rfl, V2, fun q => absurd (congrArg List.length q) (by dsimp only; rw [List.length_append, List.length_nil]; omega)⟩, by dsimp only; omega, KeepF.auto, Sub.autoD⟩ | exact ⟨⟨k + 1, l, a, sl, E⟩, ⟨by dsimp only; omega, (by dsimp only; rw [okE_no hx (of_decide_eq_false hd)]; exact hl), (by dsimp only; omega), ha, V, hn⟩, by dsimp only; omega, KeepF.auto, Sub.autoD⟩
  · refine sr_nil ?_
    refine aw_kp [2, 3, 6, 7, 8, 9] ?_
    refine aw_seq ?_
    refine aw_false rfl ?_
    refine aw_exit ?_
    show AW _ _ _ _ _ _ _
    refine aw_seq_region ?_
    rw [List.take_of_length_le (show xs.length ≤ k by omega)] at hl
    obtain ⟨a3, c3, rfl⟩ := V.isSl
    refine sr_d rfl (wtd_none rfl) rfl (opS_call rfl rfl rfl rfl cl60 (AC.sub Sub.autoP (string_s r1_0 a a3 c3 l E H V (fun q => hn (List.length_eq_zero_iff.1 q)) (by omega)))) ?_
    rintro _ _ ⟨rfl, rfl⟩
    refine sr_as ?_
    refine sr_nil ?_
    refine aw_kp [2] ?_
    refine aw_ret ?_
    show ∃ v H2, ResV _ _ _ _ _ _ v ∧ Sub H2 _ ∧ _
    exact ⟨_, H, resV rfl (.cons rfl .nil), Sub.autoP, ⟨congrArg (fun l => Value.string (bs l)) hl, rfl⟩⟩
end
end Go.Proofs.YtbcajgkaepihfaaDoor
