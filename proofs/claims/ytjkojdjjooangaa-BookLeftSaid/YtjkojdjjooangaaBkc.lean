/- Books: what is left, when, which is next; nobody's book. -/
import Derived.Test.YtjkojdjjooangaaBkb
namespace Go.Proofs.Ytjkojdjjooangaa
open Go.Proofs.Ytjkojdjjooangaa.Sym
open Go.RowKit (Below)
set_option linter.unusedVariables false
set_option linter.unusedSimpArgs false
structure BOp where
  kind : Int
  name : ByteArray
  sp : PSpan
@[reducible] def BOp.cells (j : BOp) : List Value := [.int .i64 j.kind, .string j.name, .int .i64 j.sp.from_, .int .i64 j.sp.to_, .int .i64 j.sp.width]
@[reducible] def BOp.v (j : BOp) : Value := .agg (BOp.cells j).toArray
structure LpG where
  k : Nat
  S : List PStep
  ver : Int
  a : Option Addr
  c : Nat
  E : SHeap
structure NxG where
  k : Nat
  e : BEnt
  has : Bool
structure BmG where
  k : Nat
  B : List BEnt
  a : Option Addr
  c : Nat
  E : SHeap
  a2 : Option Addr
  c2 : Nat
  E2 : SHeap
theorem rep_newB (n : Int) : Rep [⟨0, n⟩] 0 (fun t => n - atS [] t) := ⟨⟨_, rfl, rfl⟩, List.pairwise_singleton _ _, trivial, fun t _ => by show n = n - 0; omega, fun s hs => by simp at hs; subst hs; dsimp only; omega⟩
theorem atB_acc (t : Int) : ∀ (l : List BEnt) (n : Int), l.foldl (fun n e => if e.sp.from_ ≤ t ∧ t < e.sp.to_ then n + e.sp.width else n) n = n + atB l t
  | [], n => by unfold atB; simp
  | e :: l, n => by
    unfold atB
    rw [List.foldl_cons, List.foldl_cons, atB_acc t l, atB_acc t l]
    split <;> omega
theorem atB_cons (e : BEnt) (l : List BEnt) (t : Int) : atB (e :: l) t = (if e.sp.from_ ≤ t ∧ t < e.sp.to_ then e.sp.width else 0) + atB l t := by
  have h : atB (e :: l) t = l.foldl (fun n e => if e.sp.from_ ≤ t ∧ t < e.sp.to_ then n + e.sp.width else n) (if e.sp.from_ ≤ t ∧ t < e.sp.to_ then 0 + e.sp.width else 0) := rfl
  rw [h, atB_acc]
  split <;> omega
theorem atB_ins (e : BEnt) (t : Int) : ∀ B : List BEnt, atB (insB e B) t = (if e.sp.from_ ≤ t ∧ t < e.sp.to_ then e.sp.width else 0) + atB B t
  | [] => atB_cons e [] t
  | x :: l => by
    unfold insB
    split
    · exact atB_cons e _ t
    · rw [atB_cons, atB_ins e t l, atB_cons]; omega
theorem atB_gon {nm : ByteArray} {now : Int} {ended : Bool} {t : Int} : ∀ {B : List BEnt}, (∀ e ∈ B, bR e) → atB (gonL nm now ended B) t ≤ atB B t
  | [], _ => Int.le_refl _
  | x :: l, h => by
    have ih := atB_gon (nm := nm) (now := now) (ended := ended) (t := t) (B := l) fun e he => h e (List.mem_cons_of_mem _ he)
    have hx := h x List.mem_cons_self
    unfold bR at hx
    unfold gonL at *
    rw [atB_cons]
    cases q : gonP nm now ended x with
    | true => rw [List.filter_cons_of_neg (by rw [q]; decide)]; split <;> omega
    | false => rw [List.filter_cons_of_pos (by rw [q]; rfl), atB_cons]; omega
theorem atB_nil (t : Int) : atB [] t = 0 := rfl
theorem BkI.nil {n : Int} (h : 1 ≤ n) : BkI [] n := ⟨fun e h => (by cases h), List.Pairwise.nil, Nat.zero_le _, fun t => by rw [atB_nil]; omega⟩
theorem BkI.add {B B' : List BEnt} {n r : Int} {e : BEnt} (hI : BkI B n) (h : AddB B n e r B') : BkI B' n := by
  cases h with
  | arg => exact hI
  | twice => exact hI
  | long => exact hI
  | full => exact hI
  | ok h1 h2 h3 h4 =>
    refine ⟨fun x hx => ?_, insB_srt hI.srt h2, by rw [insB_len]; omega, fun t => ?_⟩
    · rcases insB_mem.1 hx with rfl | hx
      · exact h1
      · exact hI.ok x hx
    · have h5 := (room_iff hI.ok (by unfold bR at h1; omega)).1 h4 t
      have h6 := hI.room t
      rw [atB_ins]
      split
      · have := h5 (by omega) (by omega); omega
      · omega
theorem BkI.gon {B : List BEnt} {n : Int} {nm : ByteArray} {now : Int} {ended : Bool} (hI : BkI B n) : BkI (gonL nm now ended B) n :=
  ⟨fun e he => hI.ok e (gonL_mem he), gonL_srt hI.srt, Nat.le_trans gonL_len hI.len, fun t => Int.le_trans (atB_gon hI.ok) (hI.room t)⟩
theorem gon_lt {B : List BEnt} {nm : ByteArray} (h : ∃ x ∈ B, x.name = nm) : (gonL nm 0 false B).length < B.length := by
  obtain ⟨x, hx, e⟩ := h
  have h1 := gonL_len (nm := nm) (now := 0) (ended := false) (B := B)
  rcases Nat.lt_or_ge (gonL nm 0 false B).length B.length with q | q
  · exact q
  · exfalso
    have h2 : gonL nm 0 false B = B := List.filter_eq_self.2 (by
      intro y hy
      have h3 := (List.length_filter_eq_length_iff (p := fun e => !gonP nm 0 false e) (l := B)).1 (by unfold gonL at q h1; omega)
      exact h3 y hy)
    rw [← h2] at hx
    have := (List.mem_filter.1 hx).2
    unfold gonP at this
    simp [e] at this
theorem gon_eq {B : List BEnt} {nm : ByteArray} (h : ∀ x ∈ B, x.name ≠ nm) : (gonL nm 0 false B).length = B.length := by
  have : gonL nm 0 false B = B := List.filter_eq_self.2 fun y hy => by unfold gonP; simp [h y hy]
  rw [this]
theorem atS_take_le (L : List PSpan) (t : Int) (j : Nat) : atS (L.take j) t ≤ atS L t := by
  have key : ∀ (l : List PSpan) (n : Int), n ≤ l.foldl (fun n s => if onS s t = true then n + s.width else n) n := by
    intro l
    induction l with
    | nil => intro n; exact Int.le_refl _
    | cons s l ih =>
      intro n
      rw [List.foldl_cons]
      have := ih (if onS s t = true then n + s.width else n)
      split at this
      · next q =>
        have h := spR_iff.1 (onS_iff.1 q).1
        rw [if_pos q]; omega
      · next q => rw [if_neg q]; exact this
  unfold atS
  conv => rhs; rw [← List.take_append_drop j L, List.foldl_append]
  exact key _ _
/-- One more span is taken of a profile. -/
theorem left_step {L : List PSpan} {S' : List PStep} {n e : Int} {ch : Bool} {k : Nat} {s : PSpan} (hs : L[k]? = some s) (hr : spR s = true) (hto : s.to_ < 1152921504606846976) (hn : n ≤ 64) (hroom : ∀ t, atS L t ≤ n)
    (hC : AddC (fun t => n - atS (L.take k) t) 0 s.from_ s.to_ (0 - s.width) e ch) (hR : Rep S' 0 (if ch = true then addF (fun t => n - atS (L.take k) t) 0 s.from_ s.to_ (0 - s.width) else (fun t => n - atS (L.take k) t))) : Rep S' 0 (fun t => n - atS (L.take (k + 1)) t) := by
  have h := spR_iff.1 hr
  have ok : AddC (fun t => n - atS (L.take k) t) 0 s.from_ s.to_ (0 - s.width) 0 true := by
    refine .ok (by omega) (by omega) fun t q1 q2 => ?_
    have h1 := atS_take_le L t (k + 1)
    have h2 := hroom t
    have h3 := atS_bd (L.take k) t
    rw [atS_take hs, if_pos (onS_iff.2 ⟨hr, by omega, by omega⟩)] at h1
    omega
  obtain ⟨-, rfl⟩ := hC.uniq ok
  rw [if_pos rfl] at hR
  refine hR.congr fun t ht => ?_
  unfold addF
  dsimp only
  rw [atS_take hs]
  by_cases q : onS s t = true
  · obtain ⟨q1, q2, q3⟩ := onS_iff.1 q
    rw [if_pos q, if_pos ⟨by omega, .inl q3⟩]; omega
  · rw [if_neg q, if_neg (fun h9 => q (onS_iff.2 ⟨hr, by omega, by omega⟩))]; omega
/-- The entry that comes next. -/
def nxF (at_ : Int) (B : List BEnt) : BEnt × Bool := B.foldl (fun p e => if at_ ≤ e.sp.from_ ∧ (p.2 = false ∨ e.sp.from_ < p.1.sp.from_) then (e, true) else p) (⟨.empty, ⟨0, 0, 0⟩⟩, false)
theorem nxF_take {at_ : Int} {B : List BEnt} {k : Nat} {e : BEnt} (he : B[k]? = some e) : nxF at_ (B.take (k + 1)) = if at_ ≤ e.sp.from_ ∧ ((nxF at_ (B.take k)).2 = false ∨ e.sp.from_ < (nxF at_ (B.take k)).1.sp.from_) then (e, true) else nxF at_ (B.take k) := by
  unfold nxF; rw [takeS he, List.foldl_append]; rfl
theorem aw_ear {t e : Int} (h : EarC (fun t => 4 - atB [⟨⟨#[120]⟩, ⟨5, 9, 3⟩⟩] t) 0 0 6 2 t e) : t = 9 ∧ e = 0 := by
  refine h.uniq (.some (by omega) ⟨by omega, by omega, fun u q1 q2 => ?_, fun t' q1 q2 hf => ?_⟩)
  · show 2 ≤ 4 - (if (5 : Int) ≤ u ∧ u < 9 then (0 : Int) + 3 else 0)
    rw [if_neg (by omega)]; omega
  · have := hf (max t' 5) (by omega) (by omega)
    have h2 : (2 : Int) ≤ 4 - (if (5 : Int) ≤ max t' 5 ∧ max t' 5 < 9 then (0 : Int) + 3 else 0) := this
    rw [if_pos (by omega)] at h2
    omega
theorem aw_add {r : Int} {B' : List BEnt} (h : AddB [] 4 ⟨⟨#[120]⟩, ⟨5, 9, 3⟩⟩ r B') : r = 0 ∧ B' = [⟨⟨#[120]⟩, ⟨5, 9, 3⟩⟩] :=
  h.uniq (.ok (by decide) (fun x h => by cases h) (by decide) ⟨by decide, fun e h => by cases h⟩)
theorem cl24 : Callable Try.prog 24 := ⟨Try.f24, Try.func24, by kernel_rfl, by kernel_rfl⟩
theorem cl26 : Callable Try.prog 26 := ⟨Try.f26, Try.func26, by kernel_rfl, by kernel_rfl⟩
theorem cl40 : Callable Try.prog 40 := ⟨Try.f40, Try.func40, by kernel_rfl, by kernel_rfl⟩
theorem cl87 : Callable Try.prog 87 := ⟨Try.f87, Try.func87, by kernel_rfl, by kernel_rfl⟩
section
variable {W0 : World}
set_option maxRecDepth 100000 in
set_option maxHeartbeats 4000000 in
theorem bleft_s (bk : Nat) (a : Option Addr) (cap : Nat) (B : List BEnt) (nodes : Int) (H : SHeap) (hc : Cells W0 H bk 0 [.slice a B.length cap, .int .i64 nodes]) (hs : SlV W0 H 4 BEnt.cells a cap B) (hI : BkI B nodes) (hn : 1 ≤ nodes ∧ nodes ≤ 64) : AC Try.prog W0 87 [.pointer (some ⟨bk, 0, none⟩)] H (fun v H' => ∃ (p : Nat) (S : List PStep) (ver : Int) (a' : Option Addr) (c' : Nat) (E' : SHeap), v = .pointer (some ⟨p, 0, none⟩) ∧ Rep S 0 (fun t => nodes - atB B t) ∧ S.length ≤ 200 ∧ (0 ≤ ver ∧ ver ≤ 100) ∧ OffVec 2 76 (.slice a' S.length c') S.length (S.flatMap PStep.cells) E' ∧ H' = prB p (.slice a' S.length c') ver :: (E' ++ H)) := by
  have hml : (B.map BEnt.sp).length = B.length := List.length_map _
  have hBl := hI.len
  have hroom : ∀ t, atS (B.map BEnt.sp) t ≤ nodes := fun t => by rw [← atB_atS hI.ok]; exact hI.room t
  have hmr : ∀ s ∈ (B.map BEnt.sp), spR s = true ∧ s.to_ ≤ 2199023255552 := fun s hs => by obtain ⟨e, he, rfl⟩ := List.mem_map.1 hs; have h9 := hI.ok e he; exact ⟨h9.ok, by unfold bR at h9; omega⟩
  refine ac_of Try.func87 rfl rfl rfl ?_
  refine aw_seq_region ?_
  refine sr_as ?_
  refine sr_nil ?_
  refine aw_kp [0, 2] ?_
  refine aw_seq ?_
  refine aw_seq_region ?_
  refine sr_mv ?_
  refine sr_d rfl (wtd_none rfl) rfl (opS_call rfl rfl rfl rfl cl116 (bnone_s bk a cap B nodes _ (Cells.mono hc Sub.autoR) (hs.mono Sub.autoR) hn hI.len)) ?_
  rintro _ H ⟨rfl, rfl⟩
  refine sr_nil ?_
  refine aw_kp [0, 2, 8] ?_
  refine aw_false rfl ?_
  refine aw_skip ?_
  show AW _ _ _ _ _ _ _
  refine aw_seq_region ?_
  refine sr_mv ?_
  refine sr_rd (x_nilCheck rfl) ?_
  refine sr_rd (x_fieldAddr fd139_1 rfl) ?_
  refine sr_rd (x_load ag3 rfl (cells_get (Cells.mono hc Sub.autoR) 1 rfl)) ?_
  refine sr_d rfl (wtd_none rfl) rfl (opS_call rfl rfl rfl rfl cl26 (pnew_s nodes _ (by omega))) ?_
  rintro _ _ ⟨p, r, rfl, V0, rfl⟩
  refine sr_mv ?_
  refine sr_rd (x_extract rfl rfl) ?_
  refine sr_rd (x_extract rfl rfl) ?_
  refine sr_as ?_
  refine sr_as ?_
  refine sr_nil ?_
  refine aw_kp [0, 2, 3] ?_
  refine aw_seq ?_
  refine aw_seq_region ?_
  refine sr_mv ?_
  refine sr_d rfl (wtd_none rfl) rfl (opS_call rfl rfl rfl rfl cl84 (bspans_s bk a cap B nodes _ (Cells.mono hc Sub.autoR) (hs.mono Sub.autoR) hn hI.len)) ?_
  rintro _ _ ⟨EC, ⟨aC, cC, VC, rfl⟩, rfl⟩
  have hsl := VC.slv' (W0 := W0) (fun _ => rfl) rfl (Sub.refl _)
  have hle := hsl.le
  have hcb := hsl.capb
  refine sr_rd (x_lenSlice Try.underlying34 rfl) ?_
  refine sr_mv ?_
  refine sr_nil ?_
  refine aw_kp [2, 3, 18, 19, 20] ?_
  refine aw_block ?_
  refine aw_loop (ι := LpG) (fun s => s.k ≤ (B.map BEnt.sp).length ∧ Rep s.S 0 (fun t => nodes - atS ((B.map BEnt.sp).take s.k) t) ∧ s.S.length ≤ 2 * s.k + 1 ∧ (0 ≤ s.ver ∧ s.ver ≤ s.k) ∧ OffVec 2 76 (.slice s.a s.S.length s.c) s.S.length (s.S.flatMap PStep.cells) s.E) (fun s => [(3, .pointer (some ⟨p, 0, none⟩)), (18, .slice aC (B.map BEnt.sp).length cC), (19, .int .i64 (B.map BEnt.sp).length), (20, .int .i64 s.k)]) (fun s => prB p (.slice s.a s.S.length s.c) s.ver :: (s.E ++ (EC ++ H))) (fun s => (B.map BEnt.sp).length - s.k) ⟨0, [⟨0, nodes⟩], 0, some ⟨r, 0, none⟩, 1, [(r, .cells (PStep.cells ⟨0, nodes⟩).toArray 76 (0, 0))]⟩ (⟨Nat.zero_le _, rep_newB nodes, Nat.le_refl _, by dsimp only; omega, V0⟩) KeepF.auto Sub.autoP ?_
  intro s9 hs9
  obtain ⟨k, S, ver, a3, c3, E3⟩ := s9
  dsimp only at hs9 ⊢
  obtain ⟨hk, hR, hSl, hver, V3⟩ := hs9
  have hrng : ∀ t, 0 ≤ t → 0 ≤ (fun t => nodes - atS ((B.map BEnt.sp).take k) t) t ∧ (fun t => nodes - atS ((B.map BEnt.sp).take k) t) t ≤ 64 := fun t _ => by (have h1 := atS_take_le (B.map BEnt.sp) t k); (have h2 := hroom t); (have h3 := atS_bd ((B.map BEnt.sp).take k) t); dsimp only; omega
  refine aw_seq_region ?_
  refine sr_c (x_lt rfl rfl) (fun h1 => ?_) (fun h1 => ?_)
  · refine sr_nil ?_
    refine aw_kp [3, 18, 19, 20, 21] ?_
    refine aw_seq ?_
    refine aw_true rfl ?_
    refine aw_skip ?_
    show AW _ _ _ _ _ _ _
    refine aw_seq ?_
    refine aw_block ?_
    refine aw_seq_region ?_
    obtain ⟨x, hx⟩ := get_ex (show k < (B.map BEnt.sp).length by omega)
    obtain ⟨bx, ox, hax, hcx⟩ := hsl.at_ _ _ hx
    have hxr := hmr x (List.mem_of_getElem? hx)
    have hxr2 := spR_iff.1 hxr.1
    refine sr_rd (x_indexAddrN (k) Try.underlying34 sz55 rfl hax rfl (by omega) (by omega)) ?_
    refine sr_rd (x_loadN ag55 sz55 rfl (Cells.mono hcx (by first | exact Sub.autoE | exact Sub.drop (Sub.dropE Sub.autoE))) rfl) ?_
    refine sr_new rfl (wtd_none rfl) rfl (x_alloc zr55 rfl) ?_
    intro r6_2 hr6_2 gr6_2
    refine sr_x0 rfl (wtd_none rfl) (x_store sz55 rfl rfl rfl rfl rfl Repl.auto Spl.auto) ?_
    refine sr_nil ?_
    refine aw_kp [3, 6, 18, 19, 20, 21, 22, 23] ?_
    refine aw_region ?_
    refine sr_mv ?_
    refine sr_rd (x_loadN ag55 sz55 rfl (cells_ext mauto Ext.auto) rfl) ?_
    refine sr_d rfl (wtd_none rfl) rfl (opS_call rfl rfl rfl rfl cl40 (AC.sub Sub.autoP (pres_s p a3 c3 S.length S ver E3 ((r6_2, .cells (PSpan.cells x).toArray 55 (0, 0)) :: (EC ++ H)) V3 rfl (by omega) 0 (fun t => nodes - atS ((B.map BEnt.sp).take k) t) hR hrng (by omega) (by omega) x (by omega)))) ?_
    rintro _ _ ⟨e, ch, S4, a4, c4, E4, rfl, hC4, hR4, hl4, V4, rfl⟩
    have hvv : 0 ≤ (if ch = true then ver + 1 else ver) ∧ (if ch = true then ver + 1 else ver) ≤ ver + 1 := by split <;> omega
    refine sr_nil ?_
    show AW _ _ _ _ _ _ _
    refine aw_region ?_
    refine sr_rd (x_add' rfl rfl (i64w (by omega) (by omega))) ?_
    refine sr_mv ?_
    refine sr_nil ?_
    show ∃ s', _ ∧ _ ∧ _ ∧ _
    exact ⟨⟨k + 1, S4, if ch = true then ver + 1 else ver, a4, c4, E4⟩, ⟨by dsimp only; omega, left_step hx hxr.1 (by omega) (by omega) hroom hC4 hR4, by dsimp only; omega, by dsimp only; omega, V4⟩, by dsimp only; omega, KeepF.auto, Sub.autoP⟩
  · refine sr_nil ?_
    refine aw_kp [3, 18, 19, 20, 21] ?_
    refine aw_seq ?_
    refine aw_false rfl ?_
    refine aw_exit ?_
    show AW _ _ _ _ _ _ _
    refine aw_seq_region ?_
    refine sr_mv ?_
    refine sr_as ?_
    refine sr_nil ?_
    refine aw_kp [2] ?_
    refine aw_ret ?_
    show ∃ v H2, ResV _ _ _ _ _ _ v ∧ Sub H2 _ ∧ _
    exact ⟨_, prB p (.slice a3 S.length c3) ver :: (E3 ++ H), resV rfl (.cons rfl .nil), Sub.autoD, p, S, ver, a3, c3, E3, rfl, (by rw [List.take_of_length_le (by omega)] at hR; exact hR.congr (fun t _ => by rw [atB_atS hI.ok])), by omega, by omega, V3, rfl⟩
set_option maxRecDepth 100000 in
set_option maxHeartbeats 400000 in
theorem bleftN_s (H : SHeap) : AC Try.prog W0 87 [.pointer none] H (fun v H' => v = .pointer none ∧ H' = H) := by
  refine ac_of Try.func87 rfl rfl rfl ?_
  refine aw_seq_region ?_
  refine sr_as ?_
  refine sr_nil ?_
  refine aw_kp [0, 2] ?_
  refine aw_seq ?_
  refine aw_seq_region ?_
  refine sr_mv ?_
  refine sr_d rfl (wtd_none rfl) rfl (opS_call rfl rfl rfl rfl cl116 (bnoneN_s _)) ?_
  rintro _ H ⟨rfl, rfl⟩
  refine sr_nil ?_
  refine aw_kp [0, 2, 8] ?_
  refine aw_true rfl ?_
  refine aw_seq_region ?_
  refine sr_as ?_
  refine sr_nil ?_
  refine aw_kp [0, 2] ?_
  refine aw_ret ?_
  show ∃ v H2, ResV _ _ _ _ _ _ v ∧ Sub H2 _ ∧ _
  exact ⟨_, H, resV rfl (.cons rfl .nil), (by repeat (first | exact Sub.refl _ | apply Sub.drop)), ⟨rfl, rfl⟩⟩
set_option maxRecDepth 100000 in
set_option maxHeartbeats 1000000 in
theorem bwhen_s (bk : Nat) (a : Option Addr) (cap : Nat) (B : List BEnt) (nodes : Int) (H : SHeap) (hc : Cells W0 H bk 0 [.slice a B.length cap, .int .i64 nodes]) (hs : SlV W0 H 4 BEnt.cells a cap B) (hI : BkI B nodes) (hn : 1 ≤ nodes ∧ nodes ≤ 64) (from_ long w : Int) : AC Try.prog W0 80 [.pointer (some ⟨bk, 0, none⟩), .int .i64 from_, .int .i64 long, .int .i64 w] H (fun v H' => (∃ t e, v = .tuple #[.int .i64 t, .int .i64 e] ∧ EarC (fun t => nodes - atB B t) 0 (max from_ 0) long w t e) ∧ H' = H) := by
  refine ac_of Try.func80 rfl rfl rfl ?_
  refine aw_seq_region ?_
  refine sr_as ?_
  refine sr_as ?_
  refine sr_nil ?_
  refine aw_kp [0, 1, 2, 3, 8, 9] ?_
  refine aw_seq_region ?_
  refine sr_mv ?_
  refine sr_d rfl (wtd_none rfl) rfl (opS_call rfl rfl rfl rfl cl87 (bleft_s bk a cap B nodes _ hc hs hI hn)) ?_
  rintro _ _ ⟨p, S, ver, a3, c3, E3, rfl, hR, hSl, hver, V3, rfl⟩
  have hsS := V3.slv' (W0 := W0) (fun _ => rfl) rfl (Sub.refl _)
  refine sr_mv ?_
  refine sr_rd (x_max rfl rfl) ?_
  refine sr_mv ?_
  refine sr_mv ?_
  refine sr_d rfl (wtd_none rfl) rfl (opS_call rfl rfl rfl rfl cl24 (pear_s p a3 c3 S ver _ (cells_ext mauto Ext.auto) (hsS.mono Sub.autoE) 0 (fun t => nodes - atB B t) hR (by omega) (Int.le_refl _) (max from_ 0) long w)) ?_
  rintro _ H9 ⟨⟨t, e, rfl, hE⟩, rfl⟩
  refine sr_rd (x_extract rfl rfl) ?_
  refine sr_rd (x_extract rfl rfl) ?_
  refine sr_as ?_
  refine sr_as ?_
  refine sr_nil ?_
  refine aw_kp [8, 9] ?_
  refine aw_ret ?_
  show ∃ v H2, ResV _ _ _ _ _ _ v ∧ Sub H2 _ ∧ _
  exact ⟨_, H, resV rfl (.cons rfl (.cons rfl .nil)), Sub.autoR, ⟨⟨t, e, rfl, hE⟩, rfl⟩⟩
set_option maxRecDepth 100000 in
set_option maxHeartbeats 400000 in
theorem bwhenN_s (from_ long w : Int) (H : SHeap) : AC Try.prog W0 80 [.pointer none, .int .i64 from_, .int .i64 long, .int .i64 w] H (fun v H' => v = .tuple #[.int .i64 0, .int .i64 8] ∧ H' = H) := by
  refine ac_of Try.func80 rfl rfl rfl ?_
  refine aw_seq_region ?_
  refine sr_as ?_
  refine sr_as ?_
  refine sr_nil ?_
  refine aw_kp [0, 1, 2, 3, 8, 9] ?_
  refine aw_seq_region ?_
  refine sr_mv ?_
  refine sr_d rfl (wtd_none rfl) rfl (opS_call rfl rfl rfl rfl cl87 (bleftN_s _)) ?_
  rintro _ H ⟨rfl, rfl⟩
  refine sr_mv ?_
  refine sr_rd (x_max rfl rfl) ?_
  refine sr_mv ?_
  refine sr_mv ?_
  refine sr_d rfl (wtd_none rfl) rfl (opS_call rfl rfl rfl rfl cl24 (pearN_s _ long w _)) ?_
  rintro _ H ⟨rfl, rfl⟩
  refine sr_rd (x_extract rfl rfl) ?_
  refine sr_rd (x_extract rfl rfl) ?_
  refine sr_as ?_
  refine sr_as ?_
  refine sr_nil ?_
  refine aw_kp [8, 9] ?_
  refine aw_ret ?_
  show ∃ v H2, ResV _ _ _ _ _ _ v ∧ Sub H2 _ ∧ _
  exact ⟨_, H, resV rfl (.cons rfl (.cons rfl .nil)), (by repeat (first | exact Sub.refl _ | apply Sub.drop)), ⟨rfl, rfl⟩⟩
set_option maxRecDepth 100000 in
set_option maxHeartbeats 4000000 in
theorem bnext_s (bk : Nat) (a : Option Addr) (cap : Nat) (B : List BEnt) (nodes : Int) (H : SHeap) (hc : Cells W0 H bk 0 [.slice a B.length cap, .int .i64 nodes]) (hs : SlV W0 H 4 BEnt.cells a cap B) (hI : BkI B nodes) (hn : 1 ≤ nodes ∧ nodes ≤ 64) (at_ : Int) : AC Try.prog W0 88 [.pointer (some ⟨bk, 0, none⟩), .int .i64 at_] H (fun v H' => v = .tuple #[BEnt.v (nxF at_ B).1, .bool (nxF at_ B).2] ∧ H' = H) := by
  refine ac_of Try.func88 rfl rfl rfl ?_
  refine aw_seq_region ?_
  refine sr_new rfl (wtd_none rfl) rfl (x_alloc zr128 rfl) ?_
  intro r0_0 hr0_0 gr0_0
  refine sr_as ?_
  refine sr_nil ?_
  refine aw_kp [0, 1, 4, 5] ?_
  refine aw_seq_region ?_
  refine sr_rd (x_build zr128 rfl fl128 Parts.auto Fill.auto) ?_
  refine sr_new rfl (wtd_none rfl) rfl (x_alloc zr128 rfl) ?_
  intro r1_1 hr1_1 gr1_1
  refine sr_x0 rfl (wtd_none rfl) (x_store sz128 rfl rfl rfl rfl rfl Repl.auto Spl.auto) ?_
  refine sr_as ?_
  refine sr_nil ?_
  refine aw_kp [0, 1, 4, 5, 6, 7] ?_
  refine aw_seq ?_
  refine aw_seq_region ?_
  refine sr_mv ?_
  refine sr_d rfl (wtd_none rfl) rfl (opS_call rfl rfl rfl rfl cl83 (bents_s bk a cap B nodes _ (Cells.mono hc Sub.autoR) (hs.mono Sub.autoR) hn hI.len)) ?_
  rintro _ _ ⟨E2, ⟨a2, c2, V2, rfl⟩, rfl⟩
  have hse := V2.slv' (W0 := W0) (fun _ => rfl) rfl (Sub.refl _)
  have hle := hse.le
  have hcb := hse.capb
  refine sr_rd (x_lenSlice Try.underlying122 rfl) ?_
  refine sr_mv ?_
  refine sr_nil ?_
  refine aw_kp [1, 4, 5, 6, 7, 12, 13, 14] ?_
  refine aw_block ?_
  refine aw_loop (ι := NxG) (fun s => s.k ≤ B.length ∧ (s.e, s.has) = nxF at_ (B.take s.k)) (fun s => [(1, .int .i64 at_), (4, .pointer (some ⟨r0_0, 0, none⟩)), (6, .pointer (some ⟨r1_1, 0, none⟩)), (7, .bool s.has), (12, .slice a2 B.length c2), (13, .int .i64 B.length), (14, .int .i64 s.k)]) (fun s => E2 ++ ((r1_1, .cells (BEnt.cells s.e).toArray 128 (0, 0)) :: ((r0_0, .cells (BEnt.cells ⟨.empty, ⟨0, 0, 0⟩⟩).toArray 128 (0, 0)) :: H))) (fun s => B.length - s.k) ⟨0, ⟨.empty, ⟨0, 0, 0⟩⟩, false⟩ (⟨Nat.zero_le _, rfl⟩) KeepF.auto Sub.autoP ?_
  intro s9 hs9
  obtain ⟨k, e, has⟩ := s9
  dsimp only at hs9 ⊢
  obtain ⟨hk, hnx⟩ := hs9
  cases has
  · refine aw_seq_region ?_
    refine sr_c (x_lt rfl rfl) (fun h1 => ?_) (fun h1 => ?_)
    · refine sr_nil ?_
      refine aw_kp [1, 4, 6, 7, 12, 13, 14, 15] ?_
      refine aw_seq ?_
      refine aw_true rfl ?_
      refine aw_skip ?_
      show AW _ _ _ _ _ _ _
      refine aw_seq ?_
      refine aw_block ?_
      refine aw_seq_region ?_
      obtain ⟨x, hx⟩ := get_ex (show k < B.length by omega)
      obtain ⟨bx, ox, hax, hcx⟩ := hse.at_ _ _ hx
      refine sr_rd (x_indexAddrN (k) Try.underlying122 sz128 rfl hax rfl (by omega) (by omega)) ?_
      refine sr_rd (x_loadN ag128 sz128 rfl (Cells.mono hcx Sub.autoE) rfl) ?_
      refine sr_new rfl (wtd_none rfl) rfl (x_alloc zr128 rfl) ?_
      intro r4_2 hr4_2 gr4_2
      refine sr_x0 rfl (wtd_none rfl) (x_store sz128 rfl rfl rfl rfl rfl Repl.auto Spl.auto) ?_
      refine sr_nil ?_
      refine aw_kp [1, 4, 6, 7, 9, 12, 13, 14, 15, 16, 17] ?_
      refine aw_seq_region ?_
      refine sr_rd (x_fieldAddr fd128_1 rfl) ?_
      refine sr_rd (x_fieldAddr fd55_0 rfl) ?_
      refine sr_rd (x_load ag2 rfl (cells_ext mauto Ext.auto)) ?_
      refine sr_mv ?_
      refine sr_c (x_ge rfl rfl) (fun h2 => ?_) (fun h2 => ?_)
      · refine sr_mv ?_
        refine sr_ry (x_move rfl) ?_
        refine sr_ry (x_not rfl) ?_
        refine sr_ry (x_move rfl) ?_
        refine sr_sk ?_
        refine sr_sk ?_
        refine sr_sk ?_
        refine sr_sk ?_
        refine sr_sk ?_
        refine sr_sk ?_
        refine sr_sk ?_
        refine sr_ry (x_pick_t rfl rfl rfl) ?_
        refine sr_rd (x_pick_t rfl rfl rfl) ?_
        refine sr_nil ?_
        refine aw_kp [1, 4, 6, 7, 9, 12, 13, 14, 15, 16, 17, 18, 19, 20, 21, 22, 23, 24, 25, 26, 27, 28, 29, 30, 31, 32, 33, 34, 35] ?_
        refine aw_true rfl ?_
        refine aw_region ?_
        refine sr_rd (x_loadN ag128 sz128 rfl (cells_ext mauto Ext.auto) rfl) ?_
        refine sr_x0 rfl (wtd_none rfl) (x_store sz128 rfl rfl rfl rfl rfl Repl.auto Spl.auto) ?_
        refine sr_as ?_
        refine sr_nil ?_
        show AW _ _ _ _ _ _ _
        refine aw_region ?_
        refine sr_rd (x_add' rfl rfl (i64w (by omega) (by omega))) ?_
        refine sr_mv ?_
        refine sr_nil ?_
        show ∃ s', _ ∧ _ ∧ _ ∧ _
        first | exact ⟨⟨k + 1, x, true⟩, ⟨by dsimp only; omega, (by rw [nxF_take hx, ← hnx]; dsimp only; first | (rw [if_pos (by simp; omega)]; done) | (rw [if_neg (by simp; omega)]; done) | fail)⟩, by dsimp only; omega, KeepF.auto, Sub.autoD⟩ | exact ⟨⟨k + 1, e, true⟩, ⟨by dsimp only; omega, (by rw [nxF_take hx, ← hnx]; dsimp only; first | (rw [if_pos (by simp; omega)]; done) | (rw [if_neg (by simp; omega)]; done) | fail)⟩, by dsimp only; omega, KeepF.auto, Sub.autoD⟩ | exact ⟨⟨k + 1, e, false⟩, ⟨by dsimp only; omega, (by rw [nxF_take hx, ← hnx]; dsimp only; first | (rw [if_pos (by simp; omega)]; done) | (rw [if_neg (by simp; omega)]; done) | fail)⟩, by dsimp only; omega, KeepF.auto, Sub.autoD⟩
      · refine sr_mv ?_
        refine sr_sk ?_
        refine sr_sk ?_
        refine sr_sk ?_
        refine sr_skip rfl (wtd_un rfl rfl rfl) rfl ?_
        refine sr_skip rfl (wtd_un rfl rfl rfl) rfl ?_
        refine sr_skip rfl (wtd_un rfl rfl rfl) rfl ?_
        refine sr_skip rfl (wtd_un rfl rfl rfl) rfl ?_
        refine sr_skip rfl (wtd_un rfl rfl rfl) rfl ?_
        refine sr_skip rfl (wtd_un rfl rfl rfl) rfl ?_
        refine sr_skip rfl (wtd_un rfl rfl rfl) rfl ?_
        refine sr_sk ?_
        refine sr_rd (x_pick_f rfl rfl rfl) ?_
        refine sr_nil ?_
        refine aw_kp [1, 4, 6, 7, 9, 12, 13, 14, 15, 16, 17, 18, 19, 20, 21, 22, 23, 24, 25, 26, 27, 28, 29, 30, 31, 32, 33, 34, 35] ?_
        refine aw_false rfl ?_
        refine aw_skip ?_
        show AW _ _ _ _ _ _ _
        refine aw_region ?_
        refine sr_rd (x_add' rfl rfl (i64w (by omega) (by omega))) ?_
        refine sr_mv ?_
        refine sr_nil ?_
        show ∃ s', _ ∧ _ ∧ _ ∧ _
        first | exact ⟨⟨k + 1, x, true⟩, ⟨by dsimp only; omega, (by rw [nxF_take hx, ← hnx]; dsimp only; first | (rw [if_pos (by simp; omega)]; done) | (rw [if_neg (by simp; omega)]; done) | fail)⟩, by dsimp only; omega, KeepF.auto, Sub.autoD⟩ | exact ⟨⟨k + 1, e, true⟩, ⟨by dsimp only; omega, (by rw [nxF_take hx, ← hnx]; dsimp only; first | (rw [if_pos (by simp; omega)]; done) | (rw [if_neg (by simp; omega)]; done) | fail)⟩, by dsimp only; omega, KeepF.auto, Sub.autoD⟩ | exact ⟨⟨k + 1, e, false⟩, ⟨by dsimp only; omega, (by rw [nxF_take hx, ← hnx]; dsimp only; first | (rw [if_pos (by simp; omega)]; done) | (rw [if_neg (by simp; omega)]; done) | fail)⟩, by dsimp only; omega, KeepF.auto, Sub.autoD⟩
    · refine sr_nil ?_
      refine aw_kp [1, 4, 6, 7, 12, 13, 14, 15] ?_
      refine aw_seq ?_
      refine aw_false rfl ?_
      refine aw_exit ?_
      show AW _ _ _ _ _ _ _
      refine aw_seq_region ?_
      rw [List.take_of_length_le (by omega)] at hnx
      refine sr_rd (x_loadN ag128 sz128 rfl (cells_ext mauto Ext.auto) rfl) ?_
      refine sr_mv ?_
      refine sr_x0 rfl (wtd_none rfl) (x_store sz128 rfl rfl rfl rfl rfl Repl.auto Spl.auto) ?_
      refine sr_as ?_
      refine sr_nil ?_
      refine aw_kp [4, 5] ?_
      refine aw_ret ?_
      show ∃ v H2, ResV _ _ _ _ _ _ v ∧ Sub H2 _ ∧ _
      exact ⟨_, H, resV rfl (.cons (⟨_, rfl, fun hw => rd_loadVarN ag128 sz128 hw (cells_ext mauto Ext.auto) rfl⟩) (.cons rfl .nil)), Sub.autoR, ⟨by rw [← hnx]; rfl, rfl⟩⟩
  · refine aw_seq_region ?_
    refine sr_c (x_lt rfl rfl) (fun h3 => ?_) (fun h3 => ?_)
    · refine sr_nil ?_
      refine aw_kp [1, 4, 6, 7, 12, 13, 14, 15] ?_
      refine aw_seq ?_
      refine aw_true rfl ?_
      refine aw_skip ?_
      show AW _ _ _ _ _ _ _
      refine aw_seq ?_
      refine aw_block ?_
      refine aw_seq_region ?_
      obtain ⟨x, hx⟩ := get_ex (show k < B.length by omega)
      obtain ⟨bx, ox, hax, hcx⟩ := hse.at_ _ _ hx
      refine sr_rd (x_indexAddrN (k) Try.underlying122 sz128 rfl hax rfl (by omega) (by omega)) ?_
      refine sr_rd (x_loadN ag128 sz128 rfl (Cells.mono hcx Sub.autoE) rfl) ?_
      refine sr_new rfl (wtd_none rfl) rfl (x_alloc zr128 rfl) ?_
      intro r4_2 hr4_2 gr4_2
      refine sr_x0 rfl (wtd_none rfl) (x_store sz128 rfl rfl rfl rfl rfl Repl.auto Spl.auto) ?_
      refine sr_nil ?_
      refine aw_kp [1, 4, 6, 7, 9, 12, 13, 14, 15, 16, 17] ?_
      refine aw_seq_region ?_
      refine sr_rd (x_fieldAddr fd128_1 rfl) ?_
      refine sr_rd (x_fieldAddr fd55_0 rfl) ?_
      refine sr_rd (x_load ag2 rfl (cells_ext mauto Ext.auto)) ?_
      refine sr_mv ?_
      refine sr_c (x_ge rfl rfl) (fun h4 => ?_) (fun h4 => ?_)
      · refine sr_mv ?_
        refine sr_ry (x_move rfl) ?_
        refine sr_ry (x_not rfl) ?_
        refine sr_ry (x_move rfl) ?_
        refine sr_ry (x_fieldAddr fd128_1 rfl) ?_
        refine sr_ry (x_fieldAddr fd55_0 rfl) ?_
        refine sr_ry (x_load ag2 rfl (cells_ext mauto Ext.auto)) ?_
        refine sr_ry (x_fieldAddr fd128_1 rfl) ?_
        refine sr_ry (x_fieldAddr fd55_0 rfl) ?_
        refine sr_ry (x_load ag2 rfl (cells_ext mauto Ext.auto)) ?_
        refine sr_cy (x_lt rfl rfl) (fun h5 => ?_) (fun h5 => ?_)
        · refine sr_ry (x_pick_f rfl rfl rfl) ?_
          refine sr_rd (x_pick_t rfl rfl rfl) ?_
          refine sr_nil ?_
          refine aw_kp [1, 4, 6, 7, 9, 12, 13, 14, 15, 16, 17, 18, 19, 20, 21, 22, 23, 24, 25, 26, 27, 28, 29, 30, 31, 32, 33, 34, 35] ?_
          refine aw_true rfl ?_
          refine aw_region ?_
          refine sr_rd (x_loadN ag128 sz128 rfl (cells_ext mauto Ext.auto) rfl) ?_
          refine sr_x0 rfl (wtd_none rfl) (x_store sz128 rfl rfl rfl rfl rfl Repl.auto Spl.auto) ?_
          refine sr_as ?_
          refine sr_nil ?_
          show AW _ _ _ _ _ _ _
          refine aw_region ?_
          refine sr_rd (x_add' rfl rfl (i64w (by omega) (by omega))) ?_
          refine sr_mv ?_
          refine sr_nil ?_
          show ∃ s', _ ∧ _ ∧ _ ∧ _
          first | exact ⟨⟨k + 1, x, true⟩, ⟨by dsimp only; omega, (by rw [nxF_take hx, ← hnx]; dsimp only; first | (rw [if_pos (by simp; omega)]; done) | (rw [if_neg (by simp; omega)]; done) | fail)⟩, by dsimp only; omega, KeepF.auto, Sub.autoD⟩ | exact ⟨⟨k + 1, e, true⟩, ⟨by dsimp only; omega, (by rw [nxF_take hx, ← hnx]; dsimp only; first | (rw [if_pos (by simp; omega)]; done) | (rw [if_neg (by simp; omega)]; done) | fail)⟩, by dsimp only; omega, KeepF.auto, Sub.autoD⟩ | exact ⟨⟨k + 1, e, false⟩, ⟨by dsimp only; omega, (by rw [nxF_take hx, ← hnx]; dsimp only; first | (rw [if_pos (by simp; omega)]; done) | (rw [if_neg (by simp; omega)]; done) | fail)⟩, by dsimp only; omega, KeepF.auto, Sub.autoD⟩
        · refine sr_ry (x_pick_f rfl rfl rfl) ?_
          refine sr_rd (x_pick_t rfl rfl rfl) ?_
          refine sr_nil ?_
          refine aw_kp [1, 4, 6, 7, 9, 12, 13, 14, 15, 16, 17, 18, 19, 20, 21, 22, 23, 24, 25, 26, 27, 28, 29, 30, 31, 32, 33, 34, 35] ?_
          refine aw_false rfl ?_
          refine aw_skip ?_
          show AW _ _ _ _ _ _ _
          refine aw_region ?_
          refine sr_rd (x_add' rfl rfl (i64w (by omega) (by omega))) ?_
          refine sr_mv ?_
          refine sr_nil ?_
          show ∃ s', _ ∧ _ ∧ _ ∧ _
          first | exact ⟨⟨k + 1, x, true⟩, ⟨by dsimp only; omega, (by rw [nxF_take hx, ← hnx]; dsimp only; first | (rw [if_pos (by simp; omega)]; done) | (rw [if_neg (by simp; omega)]; done) | fail)⟩, by dsimp only; omega, KeepF.auto, Sub.autoD⟩ | exact ⟨⟨k + 1, e, true⟩, ⟨by dsimp only; omega, (by rw [nxF_take hx, ← hnx]; dsimp only; first | (rw [if_pos (by simp; omega)]; done) | (rw [if_neg (by simp; omega)]; done) | fail)⟩, by dsimp only; omega, KeepF.auto, Sub.autoD⟩ | exact ⟨⟨k + 1, e, false⟩, ⟨by dsimp only; omega, (by rw [nxF_take hx, ← hnx]; dsimp only; first | (rw [if_pos (by simp; omega)]; done) | (rw [if_neg (by simp; omega)]; done) | fail)⟩, by dsimp only; omega, KeepF.auto, Sub.autoD⟩
      · refine sr_mv ?_
        refine sr_sk ?_
        refine sr_sk ?_
        refine sr_sk ?_
        refine sr_skip rfl (wtd_un rfl rfl rfl) rfl ?_
        refine sr_skip rfl (wtd_un rfl rfl rfl) rfl ?_
        refine sr_skip rfl (wtd_un rfl rfl rfl) rfl ?_
        refine sr_skip rfl (wtd_un rfl rfl rfl) rfl ?_
        refine sr_skip rfl (wtd_un rfl rfl rfl) rfl ?_
        refine sr_skip rfl (wtd_un rfl rfl rfl) rfl ?_
        refine sr_skip rfl (wtd_un rfl rfl rfl) rfl ?_
        refine sr_sk ?_
        refine sr_rd (x_pick_f rfl rfl rfl) ?_
        refine sr_nil ?_
        refine aw_kp [1, 4, 6, 7, 9, 12, 13, 14, 15, 16, 17, 18, 19, 20, 21, 22, 23, 24, 25, 26, 27, 28, 29, 30, 31, 32, 33, 34, 35] ?_
        refine aw_false rfl ?_
        refine aw_skip ?_
        show AW _ _ _ _ _ _ _
        refine aw_region ?_
        refine sr_rd (x_add' rfl rfl (i64w (by omega) (by omega))) ?_
        refine sr_mv ?_
        refine sr_nil ?_
        show ∃ s', _ ∧ _ ∧ _ ∧ _
        first | exact ⟨⟨k + 1, x, true⟩, ⟨by dsimp only; omega, (by rw [nxF_take hx, ← hnx]; dsimp only; first | (rw [if_pos (by simp; omega)]; done) | (rw [if_neg (by simp; omega)]; done) | fail)⟩, by dsimp only; omega, KeepF.auto, Sub.autoD⟩ | exact ⟨⟨k + 1, e, true⟩, ⟨by dsimp only; omega, (by rw [nxF_take hx, ← hnx]; dsimp only; first | (rw [if_pos (by simp; omega)]; done) | (rw [if_neg (by simp; omega)]; done) | fail)⟩, by dsimp only; omega, KeepF.auto, Sub.autoD⟩ | exact ⟨⟨k + 1, e, false⟩, ⟨by dsimp only; omega, (by rw [nxF_take hx, ← hnx]; dsimp only; first | (rw [if_pos (by simp; omega)]; done) | (rw [if_neg (by simp; omega)]; done) | fail)⟩, by dsimp only; omega, KeepF.auto, Sub.autoD⟩
    · refine sr_nil ?_
      refine aw_kp [1, 4, 6, 7, 12, 13, 14, 15] ?_
      refine aw_seq ?_
      refine aw_false rfl ?_
      refine aw_exit ?_
      show AW _ _ _ _ _ _ _
      refine aw_seq_region ?_
      rw [List.take_of_length_le (by omega)] at hnx
      refine sr_rd (x_loadN ag128 sz128 rfl (cells_ext mauto Ext.auto) rfl) ?_
      refine sr_mv ?_
      refine sr_x0 rfl (wtd_none rfl) (x_store sz128 rfl rfl rfl rfl rfl Repl.auto Spl.auto) ?_
      refine sr_as ?_
      refine sr_nil ?_
      refine aw_kp [4, 5] ?_
      refine aw_ret ?_
      show ∃ v H2, ResV _ _ _ _ _ _ v ∧ Sub H2 _ ∧ _
      exact ⟨_, H, resV rfl (.cons (⟨_, rfl, fun hw => rd_loadVarN ag128 sz128 hw (cells_ext mauto Ext.auto) rfl⟩) (.cons rfl .nil)), Sub.autoR, ⟨by rw [← hnx]; rfl, rfl⟩⟩
set_option maxRecDepth 100000 in
set_option maxHeartbeats 400000 in
theorem bgetN_s (nm : ByteArray) (H : SHeap) : AC Try.prog W0 85 [.pointer none, .string nm] H (fun v H' => v = .tuple #[BEnt.v ⟨.empty, ⟨0, 0, 0⟩⟩, .int .i64 8] ∧ H' = H) := by
  refine ac_of Try.func85 rfl rfl rfl ?_
  refine aw_seq_region ?_
  refine sr_new rfl (wtd_none rfl) rfl (x_alloc zr128 rfl) ?_
  intro r0_0 hr0_0 gr0_0
  refine sr_as ?_
  refine sr_nil ?_
  refine aw_kp [0, 1, 4, 5] ?_
  refine aw_seq ?_
  refine aw_seq_region ?_
  refine sr_mv ?_
  refine sr_d rfl (wtd_none rfl) rfl (opS_call rfl rfl rfl rfl cl116 (bnoneN_s _)) ?_
  rintro _ H9 ⟨rfl, rfl⟩
  refine sr_nil ?_
  refine aw_kp [0, 1, 4, 5, 9] ?_
  refine aw_true rfl ?_
  refine aw_seq_region ?_
  refine sr_rd (x_build zr128 rfl fl128 Parts.auto Fill.auto) ?_
  refine sr_x0 rfl (wtd_none rfl) (x_store sz128 rfl rfl rfl rfl rfl Repl.auto Spl.auto) ?_
  refine sr_as ?_
  refine sr_nil ?_
  refine aw_kp [0, 1, 4, 5] ?_
  refine aw_ret ?_
  show ∃ v H2, ResV _ _ _ _ _ _ v ∧ Sub H2 _ ∧ _
  exact ⟨_, H, resV rfl (.cons (⟨_, rfl, fun hw => rd_loadVarN ag128 sz128 hw (cells_ext mauto Ext.auto) rfl⟩) (.cons rfl .nil)), Sub.autoR, ⟨rfl, rfl⟩⟩
set_option maxRecDepth 100000 in
set_option maxHeartbeats 400000 in
theorem bnextZ_s (z : Nat) (H : SHeap) (hc : Cells W0 H z 0 [.slice none 0 0, .int .i64 0]) (at_ : Int) : AC Try.prog W0 88 [.pointer (some ⟨z, 0, none⟩), .int .i64 at_] H (fun v H' => v = .tuple #[BEnt.v ⟨.empty, ⟨0, 0, 0⟩⟩, .bool false] ∧ H' = H) := by
  refine ac_of Try.func88 rfl rfl rfl ?_
  refine aw_seq_region ?_
  refine sr_new rfl (wtd_none rfl) rfl (x_alloc zr128 rfl) ?_
  intro r0_0 hr0_0 gr0_0
  refine sr_as ?_
  refine sr_nil ?_
  refine aw_kp [0, 1, 4, 5] ?_
  refine aw_seq_region ?_
  refine sr_rd (x_build zr128 rfl fl128 Parts.auto Fill.auto) ?_
  refine sr_new rfl (wtd_none rfl) rfl (x_alloc zr128 rfl) ?_
  intro r1_1 hr1_1 gr1_1
  refine sr_x0 rfl (wtd_none rfl) (x_store sz128 rfl rfl rfl rfl rfl Repl.auto Spl.auto) ?_
  refine sr_as ?_
  refine sr_nil ?_
  refine aw_kp [0, 1, 4, 5, 6, 7] ?_
  refine aw_seq ?_
  refine aw_seq_region ?_
  refine sr_mv ?_
  refine sr_d rfl (wtd_none rfl) rfl (opS_call rfl rfl rfl rfl cl83 (bentsZ_s z _ (Cells.mono hc Sub.autoR))) ?_
  rintro _ H9 ⟨rfl, rfl⟩
  refine sr_rd (x_lenSlice Try.underlying122 rfl) ?_
  refine sr_mv ?_
  refine sr_nil ?_
  refine aw_kp [1, 4, 5, 6, 7, 12, 13, 14] ?_
  refine aw_block ?_
  refine aw_loop (ι := Unit) (fun _ => True) (fun _ => [(4, .pointer (some ⟨r0_0, 0, none⟩)), (6, .pointer (some ⟨r1_1, 0, none⟩)), (7, .bool false), (13, .int .i64 ((0 : Nat) : Int)), (14, .int .i64 0)]) (fun _ => (r1_1, .cells (BEnt.cells ⟨.empty, ⟨0, 0, 0⟩⟩).toArray 128 (0, 0)) :: ((r0_0, .cells (BEnt.cells ⟨.empty, ⟨0, 0, 0⟩⟩).toArray 128 (0, 0)) :: H)) (fun _ => 0) () (trivial) KeepF.auto Sub.autoP ?_
  intro _ _
  refine aw_seq_region ?_
  refine sr_c (x_lt rfl rfl) (fun h1 => absurd h1 (by first | omega | decide)) (fun h1 => ?_)
  refine sr_nil ?_
  refine aw_kp [4, 6, 7, 13, 14, 15] ?_
  refine aw_seq ?_
  refine aw_false rfl ?_
  refine aw_exit ?_
  show AW _ _ _ _ _ _ _
  refine aw_seq_region ?_
  refine sr_rd (x_loadN ag128 sz128 rfl (cells_ext mauto Ext.auto) rfl) ?_
  refine sr_mv ?_
  refine sr_x0 rfl (wtd_none rfl) (x_store sz128 rfl rfl rfl rfl rfl Repl.auto Spl.auto) ?_
  refine sr_as ?_
  refine sr_nil ?_
  refine aw_kp [4, 5] ?_
  refine aw_ret ?_
  show ∃ v H2, ResV _ _ _ _ _ _ v ∧ Sub H2 _ ∧ _
  exact ⟨_, H, resV rfl (.cons (⟨_, rfl, fun hw => rd_loadVarN ag128 sz128 hw (cells_ext mauto Ext.auto) rfl⟩) (.cons rfl .nil)), Sub.autoR, ⟨rfl, rfl⟩⟩
set_option maxRecDepth 100000 in
set_option maxHeartbeats 400000 in
theorem baddN_s (e : BEnt) (H : SHeap) : AC Try.prog W0 82 [.pointer none, BEnt.v e] H (fun v H' => v = .int .i64 8 ∧ H' = H) := by
  refine ac_of Try.func82 rfl rfl rfl ?_
  refine aw_seq_region ?_
  refine sr_new rfl (wtd_none rfl) rfl (x_box rfl rfl) ?_
  intro r0_0 hr0_0 gr0_0
  refine sr_as ?_
  refine sr_nil ?_
  refine aw_kp [0, 3, 4] ?_
  refine aw_seq ?_
  refine aw_block ?_
  refine aw_seq_region ?_
  refine sr_mv ?_
  refine sr_d rfl (wtd_none rfl) rfl (opS_call rfl rfl rfl rfl cl116 (bnoneN_s _)) ?_
  rintro _ H9 ⟨rfl, rfl⟩
  refine sr_as ?_
  refine sr_nil ?_
  refine aw_kp [0, 3, 4, 7] ?_
  refine aw_true rfl ?_
  refine aw_seq_region ?_
  refine sr_as ?_
  refine sr_nil ?_
  refine aw_kp [0, 3, 4] ?_
  refine aw_ret ?_
  show ∃ v H2, ResV _ _ _ _ _ _ v ∧ Sub H2 _ ∧ _
  exact ⟨_, H, resV rfl (.cons rfl .nil), Sub.autoR, ⟨rfl, rfl⟩⟩
set_option maxRecDepth 100000 in
set_option maxHeartbeats 400000 in
theorem bremZ_s (z : Nat) (H : SHeap) (hc : Cells W0 H z 0 [.slice none 0 0, .int .i64 0]) (nm : ByteArray) : AC Try.prog W0 81 [.pointer (some ⟨z, 0, none⟩), .string nm] H (fun v H' => v = .int .i64 8 ∧ H' = H) := by
  refine ac_of Try.func81 rfl rfl rfl ?_
  refine aw_seq_region ?_
  refine sr_as ?_
  refine sr_nil ?_
  refine aw_kp [0, 1, 4] ?_
  refine aw_seq ?_
  refine aw_seq_region ?_
  refine sr_mv ?_
  refine sr_d rfl (wtd_none rfl) rfl (opS_call rfl rfl rfl rfl cl116 (bnoneZ_s z _ (Cells.mono hc Sub.autoR))) ?_
  rintro _ H ⟨rfl, rfl⟩
  refine sr_nil ?_
  refine aw_kp [0, 1, 4, 8] ?_
  refine aw_true rfl ?_
  refine aw_seq_region ?_
  refine sr_as ?_
  refine sr_nil ?_
  refine aw_kp [0, 1, 4] ?_
  refine aw_ret ?_
  show ∃ v H2, ResV _ _ _ _ _ _ v ∧ Sub H2 _ ∧ _
  exact ⟨_, H, resV rfl (.cons rfl .nil), (by repeat (first | exact Sub.refl _ | apply Sub.drop)), ⟨rfl, rfl⟩⟩
set_option maxRecDepth 100000 in
set_option maxHeartbeats 400000 in
theorem bpruneZ_s (z : Nat) (H : SHeap) (hc : Cells W0 H z 0 [.slice none 0 0, .int .i64 0]) (now : Int) : AC Try.prog W0 89 [.pointer (some ⟨z, 0, none⟩), .int .i64 now] H (fun v H' => v = .int .i64 0 ∧ H' = H) := by
  refine ac_of Try.func89 rfl rfl rfl ?_
  refine aw_seq_region ?_
  refine sr_new rfl (wtd_none rfl) rfl (x_box rfl rfl) ?_
  intro r0_0 hr0_0 gr0_0
  refine sr_as ?_
  refine sr_nil ?_
  refine aw_kp [0, 3, 4] ?_
  refine aw_seq ?_
  refine aw_seq_region ?_
  refine sr_mv ?_
  refine sr_d rfl (wtd_none rfl) rfl (opS_call rfl rfl rfl rfl cl116 (bnoneZ_s z _ (Cells.mono hc Sub.autoR))) ?_
  rintro _ H9 ⟨rfl, rfl⟩
  refine sr_nil ?_
  refine aw_kp [0, 3, 4, 7] ?_
  refine aw_true rfl ?_
  refine aw_seq_region ?_
  refine sr_as ?_
  refine sr_nil ?_
  refine aw_kp [0, 3, 4] ?_
  refine aw_ret ?_
  show ∃ v H2, ResV _ _ _ _ _ _ v ∧ Sub H2 _ ∧ _
  exact ⟨_, H, resV rfl (.cons rfl .nil), Sub.autoR, ⟨rfl, rfl⟩⟩
end
end Go.Proofs.Ytjkojdjjooangaa
