/- Planning: what the functions of plan come to, up to one item. -/
import Derived.Test.YtjkojdjjooangaaPrfHelp
namespace Go.Proofs.Ytjkojdjjooangaa
open Go.Proofs.Ytjkojdjjooangaa.Sym
open Go.RowKit (Below)
set_option linter.unusedVariables false
set_option linter.unusedSimpArgs false
structure Item where
  id : Int
  width : Int
  limit : Int
  plan : Int
@[reducible] def Item.cells (j : Item) : List Value := [.int .i64 j.id, .int .i64 j.width, .int .i64 j.limit, .int .i64 j.plan]
@[reducible] def Item.v (j : Item) : Value := .agg (Item.cells j).toArray
def Item.Wf (j : Item) : Prop := IntKind.min .i64 ≤ j.id ∧ j.id ≤ IntKind.max .i64 ∧ IntKind.min .i64 ≤ j.width ∧ j.width ≤ IntKind.max .i64 ∧ IntKind.min .i64 ≤ j.limit ∧ j.limit ≤ IntKind.max .i64 ∧ IntKind.min .i64 ≤ j.plan ∧ j.plan ≤ IntKind.max .i64
structure Choice where
  id : Int
  at_ : Int
@[reducible] def Choice.cells (j : Choice) : List Value := [.int .i64 j.id, .int .i64 j.at_]
@[reducible] def Choice.v (j : Choice) : Value := .agg (Choice.cells j).toArray
def Choice.Wf (j : Choice) : Prop := IntKind.min .i64 ≤ j.id ∧ j.id ≤ IntKind.max .i64 ∧ IntKind.min .i64 ≤ j.at_ ∧ j.at_ ≤ IntKind.max .i64
instance : Inhabited Item := ⟨⟨0, 0, 0, 0⟩⟩
@[reducible] def plnB (y p : Nat) (isl : Value) (at_ : Int) (osl : Value) : Nat × Obj := (y, .cells [.pointer (some ⟨p, 0, none⟩), isl, .int .i64 at_, osl].toArray 145 (0, 0))
def RightI (x : Item) : Prop := (1 ≤ x.width ∧ x.width ≤ 64) ∧ (1 ≤ x.limit ∧ x.limit ≤ 1048576) ∧ -1 ≤ x.plan ∧ x.plan ≤ 1099511627776
instance (x : Item) : Decidable (RightI x) := by unfold RightI; exact inferInstance
@[reducible] def aft (ch : Bool) (f g : Int → Int) : Int → Int := if ch = true then g else f
/-- What planning one item does to what is free, and its choice. -/
inductive OneC (now : Int) (f : Int → Int) (x : Item) : (Int → Int) → Option Choice → Prop
  | stuck {e : Int} {ch : Bool} : 0 ≤ x.plan → AddC f now x.plan (x.plan + x.limit) x.width e ch → e ≠ 0 → OneC now f x f none
  | free {t e : Int} : ¬ 0 ≤ x.plan → EarC f now now x.limit x.width t e → e ≠ 0 → OneC now f x f none
  | take {t e : Int} {ch : Bool} : ¬ 0 ≤ x.plan → EarC f now now x.limit x.width t 0 → AddC f now t (t + x.limit) (0 - x.width) e ch → OneC now f x (aft ch f (addF f now t (t + x.limit) (0 - x.width))) (some ⟨x.id, t⟩)
  | keep {t e e2 : Int} {c1 c2 : Bool} : 0 ≤ x.plan → AddC f now x.plan (x.plan + x.limit) x.width 0 c1 → EarC (aft c1 f (addF f now x.plan (x.plan + x.limit) x.width)) now now x.limit x.width t e → (e ≠ 0 ∨ x.plan ≤ t) →
      AddC (aft c1 f (addF f now x.plan (x.plan + x.limit) x.width)) now x.plan (x.plan + x.limit) (0 - x.width) e2 c2 → OneC now f x (aft c2 (aft c1 f (addF f now x.plan (x.plan + x.limit) x.width)) (addF (aft c1 f (addF f now x.plan (x.plan + x.limit) x.width)) now x.plan (x.plan + x.limit) (0 - x.width))) none
  | move {t e2 : Int} {c1 c2 : Bool} : 0 ≤ x.plan → AddC f now x.plan (x.plan + x.limit) x.width 0 c1 → EarC (aft c1 f (addF f now x.plan (x.plan + x.limit) x.width)) now now x.limit x.width t 0 → ¬ x.plan ≤ t →
      AddC (aft c1 f (addF f now x.plan (x.plan + x.limit) x.width)) now t (t + x.limit) (0 - x.width) e2 c2 → OneC now f x (aft c2 (aft c1 f (addF f now x.plan (x.plan + x.limit) x.width)) (addF (aft c1 f (addF f now x.plan (x.plan + x.limit) x.width)) now t (t + x.limit) (0 - x.width))) (some ⟨x.id, t⟩)
theorem OneC.uniq {now : Int} {f f' g' : Int → Int} {x : Item} {c d : Option Choice} (h : OneC now f x f' c) (k : OneC now f x g' d) : f' = g' ∧ c = d := by
  cases h with
  | stuck h1 h2 h3 => cases k with
    | stuck => exact ⟨rfl, rfl⟩
    | free k1 => exact absurd h1 k1
    | take k1 => exact absurd h1 k1
    | keep k1 k2 => exact absurd (h2.uniq k2).1 h3
    | move k1 k2 => exact absurd (h2.uniq k2).1 h3
  | free h1 h2 h3 => cases k with
    | stuck k1 => exact absurd k1 h1
    | free => exact ⟨rfl, rfl⟩
    | take k1 k2 => exact absurd (h2.uniq k2).2 h3
    | keep k1 => exact absurd k1 h1
    | move k1 => exact absurd k1 h1
  | take h1 h2 h3 => cases k with
    | stuck k1 => exact absurd k1 h1
    | free k1 k2 k3 => exact absurd (h2.uniq k2).2.symm k3
    | take k1 k2 k3 => obtain ⟨rfl, -⟩ := h2.uniq k2; obtain ⟨-, rfl⟩ := h3.uniq k3; exact ⟨rfl, rfl⟩
    | keep k1 => exact absurd k1 h1
    | move k1 => exact absurd k1 h1
  | keep h1 h2 h3 h4 h5 => cases k with
    | stuck k1 k2 k3 => exact absurd (h2.uniq k2).1.symm k3
    | free k1 => exact absurd h1 k1
    | take k1 => exact absurd h1 k1
    | keep k1 k2 k3 k4 k5 => obtain ⟨-, rfl⟩ := h2.uniq k2; obtain ⟨-, rfl⟩ := h5.uniq k5; exact ⟨rfl, rfl⟩
    | move k1 k2 k3 k4 k5 => obtain ⟨-, rfl⟩ := h2.uniq k2; obtain ⟨rfl, rfl⟩ := h3.uniq k3; exfalso; omega
  | move h1 h2 h3 h4 h5 => cases k with
    | stuck k1 k2 k3 => exact absurd (h2.uniq k2).1.symm k3
    | free k1 => exact absurd h1 k1
    | take k1 => exact absurd h1 k1
    | keep k1 k2 k3 k4 k5 => obtain ⟨-, rfl⟩ := h2.uniq k2; obtain ⟨rfl, rfl⟩ := h3.uniq k3; exfalso; omega
    | move k1 k2 k3 k4 k5 => obtain ⟨-, rfl⟩ := h2.uniq k2; obtain ⟨rfl, -⟩ := h3.uniq k3; obtain ⟨-, rfl⟩ := h5.uniq k5; exact ⟨rfl, rfl⟩
/-- The first k items, planned in order. -/
def PlanK (now : Int) (items : List Item) : Nat → (Int → Int) → List Choice → (Int → Int) → Prop
  | 0, f, cs, g => cs = [] ∧ g = f
  | k + 1, f, cs, g => ∃ x cs0 f0 c, items[k]? = some x ∧ PlanK now items k f cs0 f0 ∧ OneC now f0 x g c ∧ cs = cs0 ++ c.toList
theorem PlanK.uniq {now : Int} {items : List Item} : ∀ {k : Nat} {f g g' : Int → Int} {cs cs' : List Choice}, PlanK now items k f cs g → PlanK now items k f cs' g' → cs = cs' ∧ g = g'
  | 0, f, g, g', cs, cs', h, h' => ⟨h.1.trans h'.1.symm, h.2.trans h'.2.symm⟩
  | k + 1, f, g, g', cs, cs', ⟨x, cs0, f0, c, h1, h2, h3, h4⟩, ⟨x', cs0', f0', c', h1', h2', h3', h4'⟩ => by
    rw [h1] at h1'; cases h1'
    obtain ⟨rfl, rfl⟩ := PlanK.uniq h2 h2'
    obtain ⟨rfl, rfl⟩ := h3.uniq h3'
    exact ⟨h4.trans h4'.symm, rfl⟩
theorem ear_bd {f : Int → Int} {now from_ long w t : Int} (h : EarC f now from_ long w t 0) : now ≤ t ∧ t ≤ 1099511627776 := by
  cases h with
  | some h1 h2 => have := h2.1; have := h2.2.1; omega
theorem sub_fx {H : SHeap} {a b : Nat × Obj} : Sub ((a :: H) ++ [b]) (a :: b :: H) := Sub.of_perm (show List.Perm (a :: (H ++ [b])) (a :: ([b] ++ H)) from List.Perm.cons a List.perm_append_comm)
theorem all_oneI (xs : List Item) : (xs.flatMap Item.cells).all oneCell = true := all_flat (fun _ => rfl) xs
theorem all_oneC (xs : List Choice) : (xs.flatMap Choice.cells).all oneCell = true := all_flat (fun _ => rfl) xs
theorem ag23 : aggOf Try.prog 23 = some false := by kernel_rfl
theorem ag55 : aggOf Try.prog 55 = some true := by kernel_rfl
theorem ag58 : aggOf Try.prog 58 = some false := by kernel_rfl
theorem ag61 : aggOf Try.prog 61 = some false := by kernel_rfl
theorem ag66 : aggOf Try.prog 66 = some true := by kernel_rfl
theorem by66 : bytesOf Try.prog 66 = some 32 := by kernel_rfl
theorem by80 : bytesOf Try.prog 80 = some 16 := by kernel_rfl
theorem cl101 : Callable Try.prog 101 := ⟨Try.f101, Try.func101, by kernel_rfl, by kernel_rfl⟩
theorem cl103 : Callable Try.prog 103 := ⟨Try.f103, Try.func103, by kernel_rfl, by kernel_rfl⟩
theorem cl128 : Callable Try.prog 128 := ⟨Try.f128, Try.func128, by kernel_rfl, by kernel_rfl⟩
theorem cl129 : Callable Try.prog 129 := ⟨Try.f129, Try.func129, by kernel_rfl, by kernel_rfl⟩
theorem cl46 : Callable Try.prog 46 := ⟨Try.f46, Try.func46, by kernel_rfl, by kernel_rfl⟩
theorem cl99 : Callable Try.prog 99 := ⟨Try.f99, Try.func99, by kernel_rfl, by kernel_rfl⟩
theorem fd145_0 : fldOf Try.prog 145 0 = some (0, 23, 1) := by kernel_rfl
theorem fd145_1 : fldOf Try.prog 145 1 = some (1, 58, 1) := by kernel_rfl
theorem fd145_2 : fldOf Try.prog 145 2 = some (2, 3, 1) := by kernel_rfl
theorem fd145_3 : fldOf Try.prog 145 3 = some (3, 61, 1) := by kernel_rfl
theorem fd66_0 : fldOf Try.prog 66 0 = some (0, 3, 1) := by kernel_rfl
theorem fd66_1 : fldOf Try.prog 66 1 = some (1, 3, 1) := by kernel_rfl
theorem fd66_2 : fldOf Try.prog 66 2 = some (2, 2, 1) := by kernel_rfl
theorem fd66_3 : fldOf Try.prog 66 3 = some (3, 2, 1) := by kernel_rfl
theorem fl80 : flds Try.prog 80 = some [(0, 1), (1, 1)] := by kernel_rfl
theorem sz61 : szOf Try.prog 61 = some 1 := by kernel_rfl
theorem sz66 : szOf Try.prog 66 = some 4 := by kernel_rfl
theorem sz80 : szOf Try.prog 80 = some 2 := by kernel_rfl
theorem zr66 : zeroOf Try.prog 66 = some (.agg #[.int .i64 0, .int .i64 0, .int .i64 0, .int .i64 0]) := by kernel_rfl
theorem zr80 : zeroOf Try.prog 80 = some (.agg #[.int .i64 0, .int .i64 0]) := by kernel_rfl
section
variable {W0 : World}
set_option maxRecDepth 100000 in
set_option maxHeartbeats 400000 in
theorem pright_s (x : Item) (H : SHeap) : AC Try.prog W0 46 [Item.v x] H (fun v H' => v = .bool (decide (RightI x)) ∧ H' = H) := by
  refine ac_of Try.func46 rfl rfl rfl ?_
  refine aw_seq_region ?_
  refine sr_new rfl (wtd_none rfl) rfl (x_box rfl rfl) ?_
  intro r0_0 hr0_0 gr0_0
  refine sr_x rfl (wtd_none rfl) rfl (Rd.x (x_assign rfl)) ?_
  refine sr_nil ?_
  refine aw_keep (keep_cons (t := 1) rfl (keep_cons (t := 2) rfl keep_nil)) ?_
  refine aw_seq_region ?_
  refine sr_x rfl (wtd_none rfl) rfl (Rd.x (x_fieldAddr fd66_1 rfl)) ?_
  refine sr_x rfl (wtd_none rfl) rfl (Rd.x (x_load ag3 rfl (cells_ext (by repeat (first | exact List.mem_cons_self | apply List.mem_cons_of_mem | apply List.mem_append_right)) (by repeat (first | exact Ext.all _ | exact Ext.done | apply Ext.take | apply Ext.skip))))) ?_
  refine sr_cmp rfl (wtd_none rfl) rfl (Rd.x (x_ge rfl rfl)) (fun h1 => ?_) (fun h1 => ?_)
  · refine sr_x rfl (wtd_none rfl) rfl (Rd.x (x_move rfl)) ?_
    refine sr_x rfl (wtd_yes rfl rfl rfl) rfl (Rd.x (x_fieldAddr fd66_1 rfl)) ?_
    refine sr_x rfl (wtd_yes rfl rfl rfl) rfl (Rd.x (x_load ag3 rfl (cells_ext (by repeat (first | exact List.mem_cons_self | apply List.mem_cons_of_mem | apply List.mem_append_right)) (by repeat (first | exact Ext.all _ | exact Ext.done | apply Ext.take | apply Ext.skip))))) ?_
    refine sr_cmp rfl (wtd_yes rfl rfl rfl) rfl (Rd.x (x_le rfl rfl)) (fun h2 => ?_) (fun h2 => ?_)
    · refine sr_x rfl (wtd_none rfl) rfl (Rd.x (x_pick_t rfl rfl rfl)) ?_
      refine sr_x rfl (wtd_none rfl) rfl (Rd.x (x_move rfl)) ?_
      refine sr_x rfl (wtd_yes rfl rfl rfl) rfl (Rd.x (x_fieldAddr fd66_2 rfl)) ?_
      refine sr_x rfl (wtd_yes rfl rfl rfl) rfl (Rd.x (x_load ag2 rfl (cells_ext (by repeat (first | exact List.mem_cons_self | apply List.mem_cons_of_mem | apply List.mem_append_right)) (by repeat (first | exact Ext.all _ | exact Ext.done | apply Ext.take | apply Ext.skip))))) ?_
      refine sr_cmp rfl (wtd_yes rfl rfl rfl) rfl (Rd.x (x_ge rfl rfl)) (fun h3 => ?_) (fun h3 => ?_)
      · refine sr_x rfl (wtd_none rfl) rfl (Rd.x (x_pick_t rfl rfl rfl)) ?_
        refine sr_x rfl (wtd_none rfl) rfl (Rd.x (x_move rfl)) ?_
        refine sr_x rfl (wtd_yes rfl rfl rfl) rfl (Rd.x (x_fieldAddr fd66_2 rfl)) ?_
        refine sr_x rfl (wtd_yes rfl rfl rfl) rfl (Rd.x (x_load ag2 rfl (cells_ext (by repeat (first | exact List.mem_cons_self | apply List.mem_cons_of_mem | apply List.mem_append_right)) (by repeat (first | exact Ext.all _ | exact Ext.done | apply Ext.take | apply Ext.skip))))) ?_
        refine sr_cmp rfl (wtd_yes rfl rfl rfl) rfl (Rd.x (x_le rfl rfl)) (fun h4 => ?_) (fun h4 => ?_)
        · refine sr_x rfl (wtd_none rfl) rfl (Rd.x (x_pick_t rfl rfl rfl)) ?_
          refine sr_x rfl (wtd_none rfl) rfl (Rd.x (x_move rfl)) ?_
          refine sr_x rfl (wtd_yes rfl rfl rfl) rfl (Rd.x (x_fieldAddr fd66_3 rfl)) ?_
          refine sr_x rfl (wtd_yes rfl rfl rfl) rfl (Rd.x (x_load ag2 rfl (cells_ext (by repeat (first | exact List.mem_cons_self | apply List.mem_cons_of_mem | apply List.mem_append_right)) (by repeat (first | exact Ext.all _ | exact Ext.done | apply Ext.take | apply Ext.skip))))) ?_
          refine sr_cmp rfl (wtd_yes rfl rfl rfl) rfl (Rd.x (x_ge rfl rfl)) (fun h5 => ?_) (fun h5 => ?_)
          · refine sr_x rfl (wtd_none rfl) rfl (Rd.x (x_pick_t rfl rfl rfl)) ?_
            refine sr_x rfl (wtd_none rfl) rfl (Rd.x (x_move rfl)) ?_
            refine sr_x rfl (wtd_yes rfl rfl rfl) rfl (Rd.x (x_fieldAddr fd66_3 rfl)) ?_
            refine sr_x rfl (wtd_yes rfl rfl rfl) rfl (Rd.x (x_load ag2 rfl (cells_ext (by repeat (first | exact List.mem_cons_self | apply List.mem_cons_of_mem | apply List.mem_append_right)) (by repeat (first | exact Ext.all _ | exact Ext.done | apply Ext.take | apply Ext.skip))))) ?_
            refine sr_cmp rfl (wtd_yes rfl rfl rfl) rfl (Rd.x (x_le rfl rfl)) (fun h6 => ?_) (fun h6 => ?_)
            · refine sr_x rfl (wtd_none rfl) rfl (Rd.x (x_pick_t rfl rfl rfl)) ?_
              refine sr_x rfl (wtd_none rfl) rfl (Rd.x (x_assign rfl)) ?_
              refine sr_nil ?_
              refine aw_keep (keep_cons (t := 2) rfl keep_nil) ?_
              refine aw_ret ?_
              show ∃ v H2, ResV _ _ _ _ _ _ v ∧ Sub H2 _ ∧ _
              exact ⟨_, H, resV rfl (.cons rfl .nil), (by repeat (first | exact Sub.refl _ | apply Sub.drop | apply Sub.dropE)), ⟨congrArg Value.bool (by first | exact (decide_eq_true (by unfold RightI; omega)).symm | exact (decide_eq_false (by unfold RightI; omega)).symm), rfl⟩⟩
            · refine sr_x rfl (wtd_none rfl) rfl (Rd.x (x_pick_t rfl rfl rfl)) ?_
              refine sr_x rfl (wtd_none rfl) rfl (Rd.x (x_assign rfl)) ?_
              refine sr_nil ?_
              refine aw_keep (keep_cons (t := 2) rfl keep_nil) ?_
              refine aw_ret ?_
              show ∃ v H2, ResV _ _ _ _ _ _ v ∧ Sub H2 _ ∧ _
              exact ⟨_, H, resV rfl (.cons rfl .nil), (by repeat (first | exact Sub.refl _ | apply Sub.drop | apply Sub.dropE)), ⟨congrArg Value.bool (by first | exact (decide_eq_true (by unfold RightI; omega)).symm | exact (decide_eq_false (by unfold RightI; omega)).symm), rfl⟩⟩
          · refine sr_x rfl (wtd_none rfl) rfl (Rd.x (x_pick_t rfl rfl rfl)) ?_
            refine sr_x rfl (wtd_none rfl) rfl (Rd.x (x_move rfl)) ?_
            refine sr_skip rfl (wtd_no rfl rfl rfl rfl) rfl ?_
            refine sr_skip rfl (wtd_no rfl rfl rfl rfl) rfl ?_
            refine sr_skip rfl (wtd_no rfl rfl rfl rfl) rfl ?_
            refine sr_x rfl (wtd_none rfl) rfl (Rd.x (x_pick_f rfl rfl rfl)) ?_
            refine sr_x rfl (wtd_none rfl) rfl (Rd.x (x_assign rfl)) ?_
            refine sr_nil ?_
            refine aw_keep (keep_cons (t := 2) rfl keep_nil) ?_
            refine aw_ret ?_
            show ∃ v H2, ResV _ _ _ _ _ _ v ∧ Sub H2 _ ∧ _
            exact ⟨_, H, resV rfl (.cons rfl .nil), (by repeat (first | exact Sub.refl _ | apply Sub.drop | apply Sub.dropE)), ⟨congrArg Value.bool (by first | exact (decide_eq_true (by unfold RightI; omega)).symm | exact (decide_eq_false (by unfold RightI; omega)).symm), rfl⟩⟩
        · refine sr_x rfl (wtd_none rfl) rfl (Rd.x (x_pick_t rfl rfl rfl)) ?_
          refine sr_x rfl (wtd_none rfl) rfl (Rd.x (x_move rfl)) ?_
          refine sr_skip rfl (wtd_no rfl rfl rfl rfl) rfl ?_
          refine sr_skip rfl (wtd_no rfl rfl rfl rfl) rfl ?_
          refine sr_skip rfl (wtd_no rfl rfl rfl rfl) rfl ?_
          refine sr_x rfl (wtd_none rfl) rfl (Rd.x (x_pick_f rfl rfl rfl)) ?_
          refine sr_x rfl (wtd_none rfl) rfl (Rd.x (x_move rfl)) ?_
          refine sr_skip rfl (wtd_no rfl rfl rfl rfl) rfl ?_
          refine sr_skip rfl (wtd_no rfl rfl rfl rfl) rfl ?_
          refine sr_skip rfl (wtd_no rfl rfl rfl rfl) rfl ?_
          refine sr_x rfl (wtd_none rfl) rfl (Rd.x (x_pick_f rfl rfl rfl)) ?_
          refine sr_x rfl (wtd_none rfl) rfl (Rd.x (x_assign rfl)) ?_
          refine sr_nil ?_
          refine aw_keep (keep_cons (t := 2) rfl keep_nil) ?_
          refine aw_ret ?_
          show ∃ v H2, ResV _ _ _ _ _ _ v ∧ Sub H2 _ ∧ _
          exact ⟨_, H, resV rfl (.cons rfl .nil), (by repeat (first | exact Sub.refl _ | apply Sub.drop | apply Sub.dropE)), ⟨congrArg Value.bool (by first | exact (decide_eq_true (by unfold RightI; omega)).symm | exact (decide_eq_false (by unfold RightI; omega)).symm), rfl⟩⟩
      · refine sr_x rfl (wtd_none rfl) rfl (Rd.x (x_pick_t rfl rfl rfl)) ?_
        refine sr_x rfl (wtd_none rfl) rfl (Rd.x (x_move rfl)) ?_
        refine sr_skip rfl (wtd_no rfl rfl rfl rfl) rfl ?_
        refine sr_skip rfl (wtd_no rfl rfl rfl rfl) rfl ?_
        refine sr_skip rfl (wtd_no rfl rfl rfl rfl) rfl ?_
        refine sr_x rfl (wtd_none rfl) rfl (Rd.x (x_pick_f rfl rfl rfl)) ?_
        refine sr_x rfl (wtd_none rfl) rfl (Rd.x (x_move rfl)) ?_
        refine sr_skip rfl (wtd_no rfl rfl rfl rfl) rfl ?_
        refine sr_skip rfl (wtd_no rfl rfl rfl rfl) rfl ?_
        refine sr_skip rfl (wtd_no rfl rfl rfl rfl) rfl ?_
        refine sr_x rfl (wtd_none rfl) rfl (Rd.x (x_pick_f rfl rfl rfl)) ?_
        refine sr_x rfl (wtd_none rfl) rfl (Rd.x (x_move rfl)) ?_
        refine sr_skip rfl (wtd_no rfl rfl rfl rfl) rfl ?_
        refine sr_skip rfl (wtd_no rfl rfl rfl rfl) rfl ?_
        refine sr_skip rfl (wtd_no rfl rfl rfl rfl) rfl ?_
        refine sr_x rfl (wtd_none rfl) rfl (Rd.x (x_pick_f rfl rfl rfl)) ?_
        refine sr_x rfl (wtd_none rfl) rfl (Rd.x (x_assign rfl)) ?_
        refine sr_nil ?_
        refine aw_keep (keep_cons (t := 2) rfl keep_nil) ?_
        refine aw_ret ?_
        show ∃ v H2, ResV _ _ _ _ _ _ v ∧ Sub H2 _ ∧ _
        exact ⟨_, H, resV rfl (.cons rfl .nil), (by repeat (first | exact Sub.refl _ | apply Sub.drop | apply Sub.dropE)), ⟨congrArg Value.bool (by first | exact (decide_eq_true (by unfold RightI; omega)).symm | exact (decide_eq_false (by unfold RightI; omega)).symm), rfl⟩⟩
    · refine sr_x rfl (wtd_none rfl) rfl (Rd.x (x_pick_t rfl rfl rfl)) ?_
      refine sr_x rfl (wtd_none rfl) rfl (Rd.x (x_move rfl)) ?_
      refine sr_skip rfl (wtd_no rfl rfl rfl rfl) rfl ?_
      refine sr_skip rfl (wtd_no rfl rfl rfl rfl) rfl ?_
      refine sr_skip rfl (wtd_no rfl rfl rfl rfl) rfl ?_
      refine sr_x rfl (wtd_none rfl) rfl (Rd.x (x_pick_f rfl rfl rfl)) ?_
      refine sr_x rfl (wtd_none rfl) rfl (Rd.x (x_move rfl)) ?_
      refine sr_skip rfl (wtd_no rfl rfl rfl rfl) rfl ?_
      refine sr_skip rfl (wtd_no rfl rfl rfl rfl) rfl ?_
      refine sr_skip rfl (wtd_no rfl rfl rfl rfl) rfl ?_
      refine sr_x rfl (wtd_none rfl) rfl (Rd.x (x_pick_f rfl rfl rfl)) ?_
      refine sr_x rfl (wtd_none rfl) rfl (Rd.x (x_move rfl)) ?_
      refine sr_skip rfl (wtd_no rfl rfl rfl rfl) rfl ?_
      refine sr_skip rfl (wtd_no rfl rfl rfl rfl) rfl ?_
      refine sr_skip rfl (wtd_no rfl rfl rfl rfl) rfl ?_
      refine sr_x rfl (wtd_none rfl) rfl (Rd.x (x_pick_f rfl rfl rfl)) ?_
      refine sr_x rfl (wtd_none rfl) rfl (Rd.x (x_move rfl)) ?_
      refine sr_skip rfl (wtd_no rfl rfl rfl rfl) rfl ?_
      refine sr_skip rfl (wtd_no rfl rfl rfl rfl) rfl ?_
      refine sr_skip rfl (wtd_no rfl rfl rfl rfl) rfl ?_
      refine sr_x rfl (wtd_none rfl) rfl (Rd.x (x_pick_f rfl rfl rfl)) ?_
      refine sr_x rfl (wtd_none rfl) rfl (Rd.x (x_assign rfl)) ?_
      refine sr_nil ?_
      refine aw_keep (keep_cons (t := 2) rfl keep_nil) ?_
      refine aw_ret ?_
      show ∃ v H2, ResV _ _ _ _ _ _ v ∧ Sub H2 _ ∧ _
      exact ⟨_, H, resV rfl (.cons rfl .nil), (by repeat (first | exact Sub.refl _ | apply Sub.drop | apply Sub.dropE)), ⟨congrArg Value.bool (by first | exact (decide_eq_true (by unfold RightI; omega)).symm | exact (decide_eq_false (by unfold RightI; omega)).symm), rfl⟩⟩
  · refine sr_x rfl (wtd_none rfl) rfl (Rd.x (x_move rfl)) ?_
    refine sr_skip rfl (wtd_no rfl rfl rfl rfl) rfl ?_
    refine sr_skip rfl (wtd_no rfl rfl rfl rfl) rfl ?_
    refine sr_skip rfl (wtd_no rfl rfl rfl rfl) rfl ?_
    refine sr_x rfl (wtd_none rfl) rfl (Rd.x (x_pick_f rfl rfl rfl)) ?_
    refine sr_x rfl (wtd_none rfl) rfl (Rd.x (x_move rfl)) ?_
    refine sr_skip rfl (wtd_no rfl rfl rfl rfl) rfl ?_
    refine sr_skip rfl (wtd_no rfl rfl rfl rfl) rfl ?_
    refine sr_skip rfl (wtd_no rfl rfl rfl rfl) rfl ?_
    refine sr_x rfl (wtd_none rfl) rfl (Rd.x (x_pick_f rfl rfl rfl)) ?_
    refine sr_x rfl (wtd_none rfl) rfl (Rd.x (x_move rfl)) ?_
    refine sr_skip rfl (wtd_no rfl rfl rfl rfl) rfl ?_
    refine sr_skip rfl (wtd_no rfl rfl rfl rfl) rfl ?_
    refine sr_skip rfl (wtd_no rfl rfl rfl rfl) rfl ?_
    refine sr_x rfl (wtd_none rfl) rfl (Rd.x (x_pick_f rfl rfl rfl)) ?_
    refine sr_x rfl (wtd_none rfl) rfl (Rd.x (x_move rfl)) ?_
    refine sr_skip rfl (wtd_no rfl rfl rfl rfl) rfl ?_
    refine sr_skip rfl (wtd_no rfl rfl rfl rfl) rfl ?_
    refine sr_skip rfl (wtd_no rfl rfl rfl rfl) rfl ?_
    refine sr_x rfl (wtd_none rfl) rfl (Rd.x (x_pick_f rfl rfl rfl)) ?_
    refine sr_x rfl (wtd_none rfl) rfl (Rd.x (x_move rfl)) ?_
    refine sr_skip rfl (wtd_no rfl rfl rfl rfl) rfl ?_
    refine sr_skip rfl (wtd_no rfl rfl rfl rfl) rfl ?_
    refine sr_skip rfl (wtd_no rfl rfl rfl rfl) rfl ?_
    refine sr_x rfl (wtd_none rfl) rfl (Rd.x (x_pick_f rfl rfl rfl)) ?_
    refine sr_x rfl (wtd_none rfl) rfl (Rd.x (x_assign rfl)) ?_
    refine sr_nil ?_
    refine aw_keep (keep_cons (t := 2) rfl keep_nil) ?_
    refine aw_ret ?_
    show ∃ v H2, ResV _ _ _ _ _ _ v ∧ Sub H2 _ ∧ _
    exact ⟨_, H, resV rfl (.cons rfl .nil), (by repeat (first | exact Sub.refl _ | apply Sub.drop | apply Sub.dropE)), ⟨congrArg Value.bool (by first | exact (decide_eq_true (by unfold RightI; omega)).symm | exact (decide_eq_false (by unfold RightI; omega)).symm), rfl⟩⟩
set_option maxRecDepth 100000 in
set_option maxHeartbeats 400000 in
theorem lright_s (x : Item) (H : SHeap) : AC Try.prog W0 47 [Item.v x] H (fun v H' => v = .bool (decide (RightI x)) ∧ H' = H) := by
  refine ac_of Try.func47 rfl rfl rfl ?_
  refine aw_seq_region ?_
  refine sr_new rfl (wtd_none rfl) rfl (x_box rfl rfl) ?_
  intro r0_0 hr0_0 gr0_0
  refine sr_x rfl (wtd_none rfl) rfl (Rd.x (x_assign rfl)) ?_
  refine sr_nil ?_
  refine aw_keep (keep_cons (t := 1) rfl (keep_cons (t := 2) rfl keep_nil)) ?_
  refine aw_seq_region ?_
  refine sr_x rfl (wtd_none rfl) rfl (Rd.x (x_fieldAddr fd66_1 rfl)) ?_
  refine sr_x rfl (wtd_none rfl) rfl (Rd.x (x_load ag3 rfl (cells_ext (by repeat (first | exact List.mem_cons_self | apply List.mem_cons_of_mem | apply List.mem_append_right)) (by repeat (first | exact Ext.all _ | exact Ext.done | apply Ext.take | apply Ext.skip))))) ?_
  refine sr_cmp rfl (wtd_none rfl) rfl (Rd.x (x_ge rfl rfl)) (fun h1 => ?_) (fun h1 => ?_)
  · refine sr_x rfl (wtd_none rfl) rfl (Rd.x (x_move rfl)) ?_
    refine sr_x rfl (wtd_yes rfl rfl rfl) rfl (Rd.x (x_fieldAddr fd66_1 rfl)) ?_
    refine sr_x rfl (wtd_yes rfl rfl rfl) rfl (Rd.x (x_load ag3 rfl (cells_ext (by repeat (first | exact List.mem_cons_self | apply List.mem_cons_of_mem | apply List.mem_append_right)) (by repeat (first | exact Ext.all _ | exact Ext.done | apply Ext.take | apply Ext.skip))))) ?_
    refine sr_cmp rfl (wtd_yes rfl rfl rfl) rfl (Rd.x (x_le rfl rfl)) (fun h2 => ?_) (fun h2 => ?_)
    · refine sr_x rfl (wtd_none rfl) rfl (Rd.x (x_pick_t rfl rfl rfl)) ?_
      refine sr_x rfl (wtd_none rfl) rfl (Rd.x (x_move rfl)) ?_
      refine sr_x rfl (wtd_yes rfl rfl rfl) rfl (Rd.x (x_fieldAddr fd66_2 rfl)) ?_
      refine sr_x rfl (wtd_yes rfl rfl rfl) rfl (Rd.x (x_load ag2 rfl (cells_ext (by repeat (first | exact List.mem_cons_self | apply List.mem_cons_of_mem | apply List.mem_append_right)) (by repeat (first | exact Ext.all _ | exact Ext.done | apply Ext.take | apply Ext.skip))))) ?_
      refine sr_cmp rfl (wtd_yes rfl rfl rfl) rfl (Rd.x (x_ge rfl rfl)) (fun h3 => ?_) (fun h3 => ?_)
      · refine sr_x rfl (wtd_none rfl) rfl (Rd.x (x_pick_t rfl rfl rfl)) ?_
        refine sr_x rfl (wtd_none rfl) rfl (Rd.x (x_move rfl)) ?_
        refine sr_x rfl (wtd_yes rfl rfl rfl) rfl (Rd.x (x_fieldAddr fd66_2 rfl)) ?_
        refine sr_x rfl (wtd_yes rfl rfl rfl) rfl (Rd.x (x_load ag2 rfl (cells_ext (by repeat (first | exact List.mem_cons_self | apply List.mem_cons_of_mem | apply List.mem_append_right)) (by repeat (first | exact Ext.all _ | exact Ext.done | apply Ext.take | apply Ext.skip))))) ?_
        refine sr_cmp rfl (wtd_yes rfl rfl rfl) rfl (Rd.x (x_le rfl rfl)) (fun h4 => ?_) (fun h4 => ?_)
        · refine sr_x rfl (wtd_none rfl) rfl (Rd.x (x_pick_t rfl rfl rfl)) ?_
          refine sr_x rfl (wtd_none rfl) rfl (Rd.x (x_move rfl)) ?_
          refine sr_x rfl (wtd_yes rfl rfl rfl) rfl (Rd.x (x_fieldAddr fd66_3 rfl)) ?_
          refine sr_x rfl (wtd_yes rfl rfl rfl) rfl (Rd.x (x_load ag2 rfl (cells_ext (by repeat (first | exact List.mem_cons_self | apply List.mem_cons_of_mem | apply List.mem_append_right)) (by repeat (first | exact Ext.all _ | exact Ext.done | apply Ext.take | apply Ext.skip))))) ?_
          refine sr_cmp rfl (wtd_yes rfl rfl rfl) rfl (Rd.x (x_ge rfl rfl)) (fun h5 => ?_) (fun h5 => ?_)
          · refine sr_x rfl (wtd_none rfl) rfl (Rd.x (x_pick_t rfl rfl rfl)) ?_
            refine sr_x rfl (wtd_none rfl) rfl (Rd.x (x_move rfl)) ?_
            refine sr_x rfl (wtd_yes rfl rfl rfl) rfl (Rd.x (x_fieldAddr fd66_3 rfl)) ?_
            refine sr_x rfl (wtd_yes rfl rfl rfl) rfl (Rd.x (x_load ag2 rfl (cells_ext (by repeat (first | exact List.mem_cons_self | apply List.mem_cons_of_mem | apply List.mem_append_right)) (by repeat (first | exact Ext.all _ | exact Ext.done | apply Ext.take | apply Ext.skip))))) ?_
            refine sr_cmp rfl (wtd_yes rfl rfl rfl) rfl (Rd.x (x_le rfl rfl)) (fun h6 => ?_) (fun h6 => ?_)
            · refine sr_x rfl (wtd_none rfl) rfl (Rd.x (x_pick_t rfl rfl rfl)) ?_
              refine sr_x rfl (wtd_none rfl) rfl (Rd.x (x_assign rfl)) ?_
              refine sr_nil ?_
              refine aw_keep (keep_cons (t := 2) rfl keep_nil) ?_
              refine aw_ret ?_
              show ∃ v H2, ResV _ _ _ _ _ _ v ∧ Sub H2 _ ∧ _
              exact ⟨_, H, resV rfl (.cons rfl .nil), (by repeat (first | exact Sub.refl _ | apply Sub.drop | apply Sub.dropE)), ⟨congrArg Value.bool (by first | exact (decide_eq_true (by unfold RightI; omega)).symm | exact (decide_eq_false (by unfold RightI; omega)).symm), rfl⟩⟩
            · refine sr_x rfl (wtd_none rfl) rfl (Rd.x (x_pick_t rfl rfl rfl)) ?_
              refine sr_x rfl (wtd_none rfl) rfl (Rd.x (x_assign rfl)) ?_
              refine sr_nil ?_
              refine aw_keep (keep_cons (t := 2) rfl keep_nil) ?_
              refine aw_ret ?_
              show ∃ v H2, ResV _ _ _ _ _ _ v ∧ Sub H2 _ ∧ _
              exact ⟨_, H, resV rfl (.cons rfl .nil), (by repeat (first | exact Sub.refl _ | apply Sub.drop | apply Sub.dropE)), ⟨congrArg Value.bool (by first | exact (decide_eq_true (by unfold RightI; omega)).symm | exact (decide_eq_false (by unfold RightI; omega)).symm), rfl⟩⟩
          · refine sr_x rfl (wtd_none rfl) rfl (Rd.x (x_pick_t rfl rfl rfl)) ?_
            refine sr_x rfl (wtd_none rfl) rfl (Rd.x (x_move rfl)) ?_
            refine sr_skip rfl (wtd_no rfl rfl rfl rfl) rfl ?_
            refine sr_skip rfl (wtd_no rfl rfl rfl rfl) rfl ?_
            refine sr_skip rfl (wtd_no rfl rfl rfl rfl) rfl ?_
            refine sr_x rfl (wtd_none rfl) rfl (Rd.x (x_pick_f rfl rfl rfl)) ?_
            refine sr_x rfl (wtd_none rfl) rfl (Rd.x (x_assign rfl)) ?_
            refine sr_nil ?_
            refine aw_keep (keep_cons (t := 2) rfl keep_nil) ?_
            refine aw_ret ?_
            show ∃ v H2, ResV _ _ _ _ _ _ v ∧ Sub H2 _ ∧ _
            exact ⟨_, H, resV rfl (.cons rfl .nil), (by repeat (first | exact Sub.refl _ | apply Sub.drop | apply Sub.dropE)), ⟨congrArg Value.bool (by first | exact (decide_eq_true (by unfold RightI; omega)).symm | exact (decide_eq_false (by unfold RightI; omega)).symm), rfl⟩⟩
        · refine sr_x rfl (wtd_none rfl) rfl (Rd.x (x_pick_t rfl rfl rfl)) ?_
          refine sr_x rfl (wtd_none rfl) rfl (Rd.x (x_move rfl)) ?_
          refine sr_skip rfl (wtd_no rfl rfl rfl rfl) rfl ?_
          refine sr_skip rfl (wtd_no rfl rfl rfl rfl) rfl ?_
          refine sr_skip rfl (wtd_no rfl rfl rfl rfl) rfl ?_
          refine sr_x rfl (wtd_none rfl) rfl (Rd.x (x_pick_f rfl rfl rfl)) ?_
          refine sr_x rfl (wtd_none rfl) rfl (Rd.x (x_move rfl)) ?_
          refine sr_skip rfl (wtd_no rfl rfl rfl rfl) rfl ?_
          refine sr_skip rfl (wtd_no rfl rfl rfl rfl) rfl ?_
          refine sr_skip rfl (wtd_no rfl rfl rfl rfl) rfl ?_
          refine sr_x rfl (wtd_none rfl) rfl (Rd.x (x_pick_f rfl rfl rfl)) ?_
          refine sr_x rfl (wtd_none rfl) rfl (Rd.x (x_assign rfl)) ?_
          refine sr_nil ?_
          refine aw_keep (keep_cons (t := 2) rfl keep_nil) ?_
          refine aw_ret ?_
          show ∃ v H2, ResV _ _ _ _ _ _ v ∧ Sub H2 _ ∧ _
          exact ⟨_, H, resV rfl (.cons rfl .nil), (by repeat (first | exact Sub.refl _ | apply Sub.drop | apply Sub.dropE)), ⟨congrArg Value.bool (by first | exact (decide_eq_true (by unfold RightI; omega)).symm | exact (decide_eq_false (by unfold RightI; omega)).symm), rfl⟩⟩
      · refine sr_x rfl (wtd_none rfl) rfl (Rd.x (x_pick_t rfl rfl rfl)) ?_
        refine sr_x rfl (wtd_none rfl) rfl (Rd.x (x_move rfl)) ?_
        refine sr_skip rfl (wtd_no rfl rfl rfl rfl) rfl ?_
        refine sr_skip rfl (wtd_no rfl rfl rfl rfl) rfl ?_
        refine sr_skip rfl (wtd_no rfl rfl rfl rfl) rfl ?_
        refine sr_x rfl (wtd_none rfl) rfl (Rd.x (x_pick_f rfl rfl rfl)) ?_
        refine sr_x rfl (wtd_none rfl) rfl (Rd.x (x_move rfl)) ?_
        refine sr_skip rfl (wtd_no rfl rfl rfl rfl) rfl ?_
        refine sr_skip rfl (wtd_no rfl rfl rfl rfl) rfl ?_
        refine sr_skip rfl (wtd_no rfl rfl rfl rfl) rfl ?_
        refine sr_x rfl (wtd_none rfl) rfl (Rd.x (x_pick_f rfl rfl rfl)) ?_
        refine sr_x rfl (wtd_none rfl) rfl (Rd.x (x_move rfl)) ?_
        refine sr_skip rfl (wtd_no rfl rfl rfl rfl) rfl ?_
        refine sr_skip rfl (wtd_no rfl rfl rfl rfl) rfl ?_
        refine sr_skip rfl (wtd_no rfl rfl rfl rfl) rfl ?_
        refine sr_x rfl (wtd_none rfl) rfl (Rd.x (x_pick_f rfl rfl rfl)) ?_
        refine sr_x rfl (wtd_none rfl) rfl (Rd.x (x_assign rfl)) ?_
        refine sr_nil ?_
        refine aw_keep (keep_cons (t := 2) rfl keep_nil) ?_
        refine aw_ret ?_
        show ∃ v H2, ResV _ _ _ _ _ _ v ∧ Sub H2 _ ∧ _
        exact ⟨_, H, resV rfl (.cons rfl .nil), (by repeat (first | exact Sub.refl _ | apply Sub.drop | apply Sub.dropE)), ⟨congrArg Value.bool (by first | exact (decide_eq_true (by unfold RightI; omega)).symm | exact (decide_eq_false (by unfold RightI; omega)).symm), rfl⟩⟩
    · refine sr_x rfl (wtd_none rfl) rfl (Rd.x (x_pick_t rfl rfl rfl)) ?_
      refine sr_x rfl (wtd_none rfl) rfl (Rd.x (x_move rfl)) ?_
      refine sr_skip rfl (wtd_no rfl rfl rfl rfl) rfl ?_
      refine sr_skip rfl (wtd_no rfl rfl rfl rfl) rfl ?_
      refine sr_skip rfl (wtd_no rfl rfl rfl rfl) rfl ?_
      refine sr_x rfl (wtd_none rfl) rfl (Rd.x (x_pick_f rfl rfl rfl)) ?_
      refine sr_x rfl (wtd_none rfl) rfl (Rd.x (x_move rfl)) ?_
      refine sr_skip rfl (wtd_no rfl rfl rfl rfl) rfl ?_
      refine sr_skip rfl (wtd_no rfl rfl rfl rfl) rfl ?_
      refine sr_skip rfl (wtd_no rfl rfl rfl rfl) rfl ?_
      refine sr_x rfl (wtd_none rfl) rfl (Rd.x (x_pick_f rfl rfl rfl)) ?_
      refine sr_x rfl (wtd_none rfl) rfl (Rd.x (x_move rfl)) ?_
      refine sr_skip rfl (wtd_no rfl rfl rfl rfl) rfl ?_
      refine sr_skip rfl (wtd_no rfl rfl rfl rfl) rfl ?_
      refine sr_skip rfl (wtd_no rfl rfl rfl rfl) rfl ?_
      refine sr_x rfl (wtd_none rfl) rfl (Rd.x (x_pick_f rfl rfl rfl)) ?_
      refine sr_x rfl (wtd_none rfl) rfl (Rd.x (x_move rfl)) ?_
      refine sr_skip rfl (wtd_no rfl rfl rfl rfl) rfl ?_
      refine sr_skip rfl (wtd_no rfl rfl rfl rfl) rfl ?_
      refine sr_skip rfl (wtd_no rfl rfl rfl rfl) rfl ?_
      refine sr_x rfl (wtd_none rfl) rfl (Rd.x (x_pick_f rfl rfl rfl)) ?_
      refine sr_x rfl (wtd_none rfl) rfl (Rd.x (x_assign rfl)) ?_
      refine sr_nil ?_
      refine aw_keep (keep_cons (t := 2) rfl keep_nil) ?_
      refine aw_ret ?_
      show ∃ v H2, ResV _ _ _ _ _ _ v ∧ Sub H2 _ ∧ _
      exact ⟨_, H, resV rfl (.cons rfl .nil), (by repeat (first | exact Sub.refl _ | apply Sub.drop | apply Sub.dropE)), ⟨congrArg Value.bool (by first | exact (decide_eq_true (by unfold RightI; omega)).symm | exact (decide_eq_false (by unfold RightI; omega)).symm), rfl⟩⟩
  · refine sr_x rfl (wtd_none rfl) rfl (Rd.x (x_move rfl)) ?_
    refine sr_skip rfl (wtd_no rfl rfl rfl rfl) rfl ?_
    refine sr_skip rfl (wtd_no rfl rfl rfl rfl) rfl ?_
    refine sr_skip rfl (wtd_no rfl rfl rfl rfl) rfl ?_
    refine sr_x rfl (wtd_none rfl) rfl (Rd.x (x_pick_f rfl rfl rfl)) ?_
    refine sr_x rfl (wtd_none rfl) rfl (Rd.x (x_move rfl)) ?_
    refine sr_skip rfl (wtd_no rfl rfl rfl rfl) rfl ?_
    refine sr_skip rfl (wtd_no rfl rfl rfl rfl) rfl ?_
    refine sr_skip rfl (wtd_no rfl rfl rfl rfl) rfl ?_
    refine sr_x rfl (wtd_none rfl) rfl (Rd.x (x_pick_f rfl rfl rfl)) ?_
    refine sr_x rfl (wtd_none rfl) rfl (Rd.x (x_move rfl)) ?_
    refine sr_skip rfl (wtd_no rfl rfl rfl rfl) rfl ?_
    refine sr_skip rfl (wtd_no rfl rfl rfl rfl) rfl ?_
    refine sr_skip rfl (wtd_no rfl rfl rfl rfl) rfl ?_
    refine sr_x rfl (wtd_none rfl) rfl (Rd.x (x_pick_f rfl rfl rfl)) ?_
    refine sr_x rfl (wtd_none rfl) rfl (Rd.x (x_move rfl)) ?_
    refine sr_skip rfl (wtd_no rfl rfl rfl rfl) rfl ?_
    refine sr_skip rfl (wtd_no rfl rfl rfl rfl) rfl ?_
    refine sr_skip rfl (wtd_no rfl rfl rfl rfl) rfl ?_
    refine sr_x rfl (wtd_none rfl) rfl (Rd.x (x_pick_f rfl rfl rfl)) ?_
    refine sr_x rfl (wtd_none rfl) rfl (Rd.x (x_move rfl)) ?_
    refine sr_skip rfl (wtd_no rfl rfl rfl rfl) rfl ?_
    refine sr_skip rfl (wtd_no rfl rfl rfl rfl) rfl ?_
    refine sr_skip rfl (wtd_no rfl rfl rfl rfl) rfl ?_
    refine sr_x rfl (wtd_none rfl) rfl (Rd.x (x_pick_f rfl rfl rfl)) ?_
    refine sr_x rfl (wtd_none rfl) rfl (Rd.x (x_assign rfl)) ?_
    refine sr_nil ?_
    refine aw_keep (keep_cons (t := 2) rfl keep_nil) ?_
    refine aw_ret ?_
    show ∃ v H2, ResV _ _ _ _ _ _ v ∧ Sub H2 _ ∧ _
    exact ⟨_, H, resV rfl (.cons rfl .nil), (by repeat (first | exact Sub.refl _ | apply Sub.drop | apply Sub.dropE)), ⟨congrArg Value.bool (by first | exact (decide_eq_true (by unfold RightI; omega)).symm | exact (decide_eq_false (by unfold RightI; omega)).symm), rfl⟩⟩
set_option maxRecDepth 100000 in
set_option maxHeartbeats 400000 in
theorem pbad_s (x : Item) (H : SHeap) : AC Try.prog W0 99 [Item.v x] H (fun v H' => v = .bool (!decide (RightI x)) ∧ H' = H) := by
  refine ac_of Try.func99 rfl rfl rfl ?_
  refine aw_seq_region ?_
  refine sr_new rfl (wtd_none rfl) rfl (x_box rfl rfl) ?_
  intro r0_0 hr0_0 gr0_0
  refine sr_x rfl (wtd_none rfl) rfl (Rd.x (x_assign rfl)) ?_
  refine sr_nil ?_
  refine aw_keep (keep_cons (t := 1) rfl (keep_cons (t := 2) rfl keep_nil)) ?_
  refine aw_seq_region ?_
  refine sr_x rfl (wtd_none rfl) rfl (Rd.x (x_loadN ag66 sz66 rfl (cells_ext (by repeat (first | exact List.mem_cons_self | apply List.mem_cons_of_mem | apply List.mem_append_right)) (by repeat (first | exact Ext.all _ | exact Ext.done | apply Ext.take | apply Ext.skip))) rfl)) ?_
  refine sr_d rfl (wtd_none rfl) rfl (opS_call rfl rfl rfl rfl cl46 (pright_s x _)) ?_
  rintro _ H9 ⟨rfl, rfl⟩
  refine sr_x rfl (wtd_none rfl) rfl (Rd.x (x_not rfl)) ?_
  refine sr_x rfl (wtd_none rfl) rfl (Rd.x (x_assign rfl)) ?_
  refine sr_nil ?_
  refine aw_keep (keep_cons (t := 2) rfl keep_nil) ?_
  refine aw_ret ?_
  show ∃ v H2, ResV _ _ _ _ _ _ v ∧ Sub H2 _ ∧ _
  exact ⟨_, H, resV rfl (.cons rfl .nil), (by repeat (first | exact Sub.refl _ | apply Sub.drop | apply Sub.dropE)), ⟨rfl, rfl⟩⟩
set_option maxRecDepth 100000 in
set_option maxHeartbeats 400000 in
theorem iidx_s (a : Option Addr) (cap : Nat) (xs : List Item) (H : SHeap) (hs : SlV W0 H 4 Item.cells a cap xs) : AC Try.prog W0 128 [.slice a xs.length cap, .func (.func 99) #[] #[]] H (fun v H' => (∃ i : Int, v = .int .i64 i ∧ (0 ≤ i ↔ ∃ x ∈ xs, ¬ RightI x)) ∧ H' = H) := by
  have hle := hs.le
  have hcb := hs.capb
  refine ac_of Try.func128 rfl rfl rfl ?_
  refine aw_seq_region ?_
  refine sr_x rfl (wtd_none rfl) rfl (Rd.x (x_assign rfl)) ?_
  refine sr_nil ?_
  refine aw_keep (keep_cons (t := 0) rfl (keep_cons (t := 1) rfl (keep_cons (t := 4) rfl keep_nil))) ?_
  refine aw_seq ?_
  refine aw_seq_region ?_
  refine sr_x rfl (wtd_none rfl) rfl (Rd.x (x_move rfl)) ?_
  refine sr_x rfl (wtd_none rfl) rfl (Rd.x (x_lenSlice Try.underlying58 rfl)) ?_
  refine sr_x rfl (wtd_none rfl) rfl (Rd.x (x_move rfl)) ?_
  refine sr_nil ?_
  refine aw_keep (keep_cons (t := 0) rfl (keep_cons (t := 1) rfl (keep_cons (t := 4) rfl (keep_cons (t := 7) rfl (keep_cons (t := 8) rfl keep_nil))))) ?_
  refine aw_block ?_
  refine aw_loop (ι := Nat) (fun k => k ≤ xs.length ∧ ∀ j x, j < k → xs[j]? = some x → RightI x) (fun k => [(0, .slice a xs.length cap), (1, .func (.func 99) #[] #[]), (7, .int .i64 xs.length), (8, .int .i64 k)]) (fun _ => H) (fun k => xs.length - k) 0 (⟨Nat.zero_le _, fun j x h => by omega⟩) (by (repeat (first | exact keep_nil | refine keep_cons rfl ?_)); first | done | fail) Sub.autoP ?_
  intro k hk9
  obtain ⟨hk, hok⟩ := hk9
  refine aw_seq_region ?_
  refine sr_cmp rfl (wtd_none rfl) rfl (Rd.x (x_lt rfl rfl)) (fun h1 => ?_) (fun h1 => ?_)
  · refine sr_nil ?_
    refine aw_keep (keep_cons (t := 0) rfl (keep_cons (t := 1) rfl (keep_cons (t := 7) rfl (keep_cons (t := 8) rfl (keep_cons (t := 9) rfl keep_nil))))) ?_
    refine aw_seq ?_
    refine aw_true rfl ?_
    refine aw_skip ?_
    show AW _ _ _ _ _ _ _
    refine aw_seq ?_
    refine aw_block ?_
    refine aw_seq_region ?_
    refine sr_x rfl (wtd_none rfl) rfl (Rd.x (x_move rfl)) ?_
    refine sr_x rfl (wtd_none rfl) rfl (Rd.x (x_assign rfl)) ?_
    refine sr_nil ?_
    refine aw_keep (keep_cons (t := 0) rfl (keep_cons (t := 1) rfl (keep_cons (t := 5) rfl (keep_cons (t := 7) rfl (keep_cons (t := 8) rfl (keep_cons (t := 9) rfl (keep_cons (t := 10) rfl keep_nil))))))) ?_
    refine aw_seq_region ?_
    obtain ⟨x, hx⟩ := get_ex (show k < xs.length by omega)
    obtain ⟨bx, ox, hax, hcx⟩ := hs.at_ _ _ hx
    refine sr_x rfl (wtd_none rfl) rfl (Rd.x (x_move rfl)) ?_
    refine sr_x rfl (wtd_none rfl) rfl (Rd.x (x_move rfl)) ?_
    refine sr_x rfl (wtd_none rfl) rfl (Rd.x (x_move rfl)) ?_
    refine sr_x rfl (wtd_none rfl) rfl (Rd.x (x_indexAddrN (k) Try.underlying58 sz66 rfl hax rfl (by omega) (by omega))) ?_
    refine sr_x rfl (wtd_none rfl) rfl (Rd.x (x_loadN ag66 sz66 rfl (Cells.mono hcx (by repeat (first | exact Sub.refl _ | apply Sub.drop | apply Sub.dropE))) rfl)) ?_
    refine sr_d rfl (wtd_none rfl) rfl (opS_call rfl rfl rfl rfl cl99 (pbad_s x _)) ?_
    rintro _ H ⟨rfl, rfl⟩
    generalize hd : (!decide (RightI x)) = d1
    cases d1
    · refine sr_nil ?_
      refine aw_keep (keep_cons (t := 0) rfl (keep_cons (t := 1) rfl (keep_cons (t := 5) rfl (keep_cons (t := 7) rfl (keep_cons (t := 8) rfl (keep_cons (t := 9) rfl (keep_cons (t := 10) rfl (keep_cons (t := 11) rfl (keep_cons (t := 12) rfl (keep_cons (t := 13) rfl (keep_cons (t := 14) rfl (keep_cons (t := 15) rfl (keep_cons (t := 16) rfl keep_nil))))))))))))) ?_
      refine aw_false rfl ?_
      refine aw_skip ?_
      show AW _ _ _ _ _ _ _
      refine aw_region ?_
      refine sr_x rfl (wtd_none rfl) rfl (Rd.x (x_add' rfl rfl (i64w (by omega) (by omega)))) ?_
      refine sr_x rfl (wtd_none rfl) rfl (Rd.x (x_move rfl)) ?_
      refine sr_nil ?_
      show ∃ s', _ ∧ _ ∧ _ ∧ _
      exact ⟨k + 1, ⟨by omega, fun j y h hy => by (rcases Nat.lt_or_eq_of_le (Nat.le_of_lt_succ h) with q | q); (exact hok j y q hy); (subst q; rw [hx] at hy; cases hy; simpa using hd)⟩, by omega, (by (repeat (first | exact keep_nil | refine keep_cons rfl ?_)); first | done | fail), (by repeat (first | exact Sub.refl _ | apply Sub.drop | apply Sub.dropE))⟩
    · refine sr_nil ?_
      refine aw_keep (keep_cons (t := 0) rfl (keep_cons (t := 1) rfl (keep_cons (t := 5) rfl (keep_cons (t := 7) rfl (keep_cons (t := 8) rfl (keep_cons (t := 9) rfl (keep_cons (t := 10) rfl (keep_cons (t := 11) rfl (keep_cons (t := 12) rfl (keep_cons (t := 13) rfl (keep_cons (t := 14) rfl (keep_cons (t := 15) rfl (keep_cons (t := 16) rfl keep_nil))))))))))))) ?_
      refine aw_true rfl ?_
      refine aw_seq_region ?_
      refine sr_x rfl (wtd_none rfl) rfl (Rd.x (x_move rfl)) ?_
      refine sr_x rfl (wtd_none rfl) rfl (Rd.x (x_assign rfl)) ?_
      refine sr_nil ?_
      refine aw_keep (keep_cons (t := 0) rfl (keep_cons (t := 1) rfl (keep_cons (t := 4) rfl (keep_cons (t := 5) rfl (keep_cons (t := 7) rfl (keep_cons (t := 8) rfl (keep_cons (t := 9) rfl (keep_cons (t := 10) rfl (keep_cons (t := 11) rfl (keep_cons (t := 12) rfl (keep_cons (t := 13) rfl (keep_cons (t := 14) rfl (keep_cons (t := 15) rfl (keep_cons (t := 16) rfl (keep_cons (t := 17) rfl keep_nil))))))))))))))) ?_
      refine aw_ret ?_
      show ∃ v H2, ResV _ _ _ _ _ _ v ∧ Sub H2 _ ∧ _
      first | exact ⟨_, H, resV rfl (.cons rfl .nil), Sub.refl _, ⟨_, rfl, ⟨fun _ => ⟨x, List.mem_of_getElem? hx, by simpa using hd⟩, fun _ => by omega⟩⟩, rfl⟩ | exact ⟨_, H, resV rfl (.cons rfl .nil), Sub.refl _, ⟨_, rfl, ⟨fun h => by omega, fun ⟨y, hy, hny⟩ => by (obtain ⟨j, hj⟩ := List.getElem?_of_mem hy); exact absurd (hok j y (by have := get_lt hj; omega) hj) hny⟩⟩, rfl⟩
  · refine sr_nil ?_
    refine aw_keep (keep_cons (t := 0) rfl (keep_cons (t := 1) rfl (keep_cons (t := 7) rfl (keep_cons (t := 8) rfl (keep_cons (t := 9) rfl keep_nil))))) ?_
    refine aw_seq ?_
    refine aw_false rfl ?_
    refine aw_exit ?_
    show AW _ _ _ _ _ _ _
    refine aw_seq_region ?_
    refine sr_x rfl (wtd_none rfl) rfl (Rd.x (x_assign rfl)) ?_
    refine sr_nil ?_
    refine aw_keep (keep_cons (t := 4) rfl keep_nil) ?_
    refine aw_ret ?_
    show ∃ v H2, ResV _ _ _ _ _ _ v ∧ Sub H2 _ ∧ _
    first | exact ⟨_, H, resV rfl (.cons rfl .nil), Sub.refl _, ⟨_, rfl, ⟨fun _ => ⟨x, List.mem_of_getElem? hx, by simpa using hd⟩, fun _ => by omega⟩⟩, rfl⟩ | exact ⟨_, H, resV rfl (.cons rfl .nil), Sub.refl _, ⟨_, rfl, ⟨fun h => by omega, fun ⟨y, hy, hny⟩ => by (obtain ⟨j, hj⟩ := List.getElem?_of_mem hy); exact absurd (hok j y (by have := get_lt hj; omega) hj) hny⟩⟩, rfl⟩
set_option maxRecDepth 100000 in
set_option maxHeartbeats 400000 in
theorem icon_s (a : Option Addr) (cap : Nat) (xs : List Item) (H : SHeap) (hs : SlV W0 H 4 Item.cells a cap xs) : AC Try.prog W0 98 [.slice a xs.length cap, .func (.func 99) #[] #[]] H (fun v H' => (∃ b : Bool, v = .bool b ∧ (b = true ↔ ∃ x ∈ xs, ¬ RightI x)) ∧ H' = H) := by
  refine ac_of Try.func98 rfl rfl rfl ?_
  refine aw_seq_region ?_
  refine sr_x rfl (wtd_none rfl) rfl (Rd.x (x_assign rfl)) ?_
  refine sr_nil ?_
  refine aw_keep (keep_cons (t := 0) rfl (keep_cons (t := 1) rfl (keep_cons (t := 4) rfl keep_nil))) ?_
  refine aw_seq_region ?_
  refine sr_x rfl (wtd_none rfl) rfl (Rd.x (x_move rfl)) ?_
  refine sr_x rfl (wtd_none rfl) rfl (Rd.x (x_move rfl)) ?_
  refine sr_d rfl (wtd_none rfl) rfl (opS_call rfl rfl rfl rfl cl128 (iidx_s a cap xs H hs)) ?_
  rintro _ H ⟨⟨i, rfl, hi⟩, rfl⟩
  refine sr_cmp rfl (wtd_none rfl) rfl (Rd.x (x_ge rfl rfl)) (fun h1 => ?_) (fun h1 => ?_)
  · refine sr_x rfl (wtd_none rfl) rfl (Rd.x (x_assign rfl)) ?_
    refine sr_nil ?_
    refine aw_keep (keep_cons (t := 4) rfl keep_nil) ?_
    refine aw_ret ?_
    show ∃ v H2, ResV _ _ _ _ _ _ v ∧ Sub H2 _ ∧ _
    exact ⟨_, H, resV rfl (.cons rfl .nil), (by repeat (first | exact Sub.refl _ | apply Sub.drop)), ⟨⟨_, rfl, by rw [← hi]; simp; omega⟩, rfl⟩⟩
  · refine sr_x rfl (wtd_none rfl) rfl (Rd.x (x_assign rfl)) ?_
    refine sr_nil ?_
    refine aw_keep (keep_cons (t := 4) rfl keep_nil) ?_
    refine aw_ret ?_
    show ∃ v H2, ResV _ _ _ _ _ _ v ∧ Sub H2 _ ∧ _
    exact ⟨_, H, resV rfl (.cons rfl .nil), (by repeat (first | exact Sub.refl _ | apply Sub.drop)), ⟨⟨_, rfl, by rw [← hi]; simp; omega⟩, rfl⟩⟩
set_option maxRecDepth 100000 in
set_option maxHeartbeats 400000 in
theorem iclone_s (a : Option Addr) (cap : Nat) (xs : List Item) (H : SHeap) (hs : SlV W0 H 4 Item.cells a cap xs) (hjl : xs.length ≤ 1000000) : AC Try.prog W0 100 [.slice a xs.length cap] H (fun v H' => ∃ E2, (∃ a2 cap2, OwnVec 4 66 (.slice a2 xs.length cap2) xs.length (xs.flatMap Item.cells) E2 ∧ v = .slice a2 xs.length cap2) ∧ H' = E2 ++ H) := by
  have hfl := flat_len (n := 4) (enc := Item.cells) (fun _ => rfl) xs
  have hfn : a.isNone = true → xs.length = 0 := fun h => by rcases hs.flat (fun _ => rfl) (by omega) with ⟨q, _⟩ | ⟨b, off, rfl, _⟩ <;> first | exact q | cases h
  refine ac_of Try.func100 rfl rfl rfl ?_
  refine aw_seq_region ?_
  refine sr_x rfl (wtd_none rfl) rfl (Rd.x (x_assign rfl)) ?_
  refine sr_nil ?_
  refine aw_keep (keep_cons (t := 0) rfl (keep_cons (t := 2) rfl keep_nil)) ?_
  refine aw_seq ?_
  refine aw_seq_region ?_
  refine sr_x rfl (wtd_none rfl) rfl (Rd.x (x_move rfl)) ?_
  refine sr_x rfl (wtd_none rfl) rfl (Rd.x (x_eqnils Try.underlying58 rfl rfl)) ?_
  refine sr_nil ?_
  refine aw_keep (keep_cons (t := 0) rfl (keep_cons (t := 2) rfl (keep_cons (t := 4) rfl keep_nil))) ?_
  refine aw_cond rfl (fun hb1 => ?_) (fun hb1 => ?_)
  · refine aw_seq_region ?_
    refine sr_x rfl (wtd_none rfl) rfl (Rd.x (x_assign rfl)) ?_
    refine sr_nil ?_
    refine aw_keep (keep_cons (t := 0) rfl (keep_cons (t := 2) rfl keep_nil)) ?_
    refine aw_ret ?_
    show ∃ v H2, ResV _ _ _ _ _ _ v ∧ Sub H2 _ ∧ _
    first | (rw [Nat.zero_add, List.nil_append] at hV7; obtain ⟨a7, cap7, rfl⟩ := hV7.isSl; exact ⟨_, E7 ++ H, resV rfl (.cons rfl .nil), (Sub.refl _), E7, ⟨a7, cap7, hV7, rfl⟩, rfl⟩) | (have hz := hfn (by assumption); have hj0 : xs = [] := List.length_eq_zero_iff.1 hz; subst hj0; exact ⟨_, [] ++ H, resV rfl (.cons rfl .nil), (Sub.refl _), [], ⟨none, 0, .nil, rfl⟩, rfl⟩)
  · refine aw_skip ?_
    show AW _ _ _ _ _ _ _
    refine aw_seq_region ?_
    refine sr_new rfl (wtd_none rfl) rfl (x_buildSlice0 Try.underlying58 sz66 rfl) ?_
    intro r3_0 hr3_0 gr3_0
    refine sr_x rfl (wtd_none rfl) rfl (Rd.x (x_move rfl)) ?_
    refine sr_d rfl (wtd_none rfl) rfl (opS_append (G := H) (N := xs.flatMap Item.cells) (m := xs.length) Try.underlying58 sz66 zr66 rfl by66 rfl rfl (OwnVec.mk (r := r3_0) (n := 0) (cap := 0) (L := []) (post := []) rfl rfl (by omega) (by omega)) Sub.autoP (((hs.mono (by repeat (first | exact Sub.refl _ | apply Sub.drop))).flat (fun _ => rfl) (by omega))) (hfl) (all_oneI xs) (by omega) (by omega)) ?_
    rintro v7 _ ⟨E7, hV7, rfl⟩
    refine sr_x rfl (wtd_none rfl) rfl (Rd.x (x_assign rfl)) ?_
    refine sr_nil ?_
    refine aw_keep (keep_cons (t := 2) rfl keep_nil) ?_
    refine aw_ret ?_
    show ∃ v H2, ResV _ _ _ _ _ _ v ∧ Sub H2 _ ∧ _
    first | (rw [Nat.zero_add, List.nil_append] at hV7; obtain ⟨a7, cap7, rfl⟩ := hV7.isSl; exact ⟨_, E7 ++ H, resV rfl (.cons rfl .nil), (Sub.refl _), E7, ⟨a7, cap7, hV7, rfl⟩, rfl⟩) | (have hz := hfn (by assumption); have hj0 : xs = [] := List.length_eq_zero_iff.1 hz; subst hj0; exact ⟨_, [] ++ H, resV rfl (.cons rfl .nil), (Sub.refl _), [], ⟨none, 0, .nil, rfl⟩, rfl⟩)
set_option maxRecDepth 100000 in
set_option maxHeartbeats 400000 in
theorem cclone_s (a : Option Addr) (cap : Nat) (xs : List Choice) (H : SHeap) (hs : SlV W0 H 2 Choice.cells a cap xs) (hjl : xs.length ≤ 1000000) : AC Try.prog W0 103 [.slice a xs.length cap] H (fun v H' => ∃ E2, (∃ a2 cap2, OwnVec 2 80 (.slice a2 xs.length cap2) xs.length (xs.flatMap Choice.cells) E2 ∧ v = .slice a2 xs.length cap2) ∧ H' = E2 ++ H) := by
  have hfl := flat_len (n := 2) (enc := Choice.cells) (fun _ => rfl) xs
  have hfn : a.isNone = true → xs.length = 0 := fun h => by rcases hs.flat (fun _ => rfl) (by omega) with ⟨q, _⟩ | ⟨b, off, rfl, _⟩ <;> first | exact q | cases h
  refine ac_of Try.func103 rfl rfl rfl ?_
  refine aw_seq_region ?_
  refine sr_x rfl (wtd_none rfl) rfl (Rd.x (x_assign rfl)) ?_
  refine sr_nil ?_
  refine aw_keep (keep_cons (t := 0) rfl (keep_cons (t := 2) rfl keep_nil)) ?_
  refine aw_seq ?_
  refine aw_seq_region ?_
  refine sr_x rfl (wtd_none rfl) rfl (Rd.x (x_move rfl)) ?_
  refine sr_x rfl (wtd_none rfl) rfl (Rd.x (x_eqnils Try.underlying61 rfl rfl)) ?_
  refine sr_nil ?_
  refine aw_keep (keep_cons (t := 0) rfl (keep_cons (t := 2) rfl (keep_cons (t := 4) rfl keep_nil))) ?_
  refine aw_cond rfl (fun hb1 => ?_) (fun hb1 => ?_)
  · refine aw_seq_region ?_
    refine sr_x rfl (wtd_none rfl) rfl (Rd.x (x_assign rfl)) ?_
    refine sr_nil ?_
    refine aw_keep (keep_cons (t := 0) rfl (keep_cons (t := 2) rfl keep_nil)) ?_
    refine aw_ret ?_
    show ∃ v H2, ResV _ _ _ _ _ _ v ∧ Sub H2 _ ∧ _
    first | (rw [Nat.zero_add, List.nil_append] at hV7; obtain ⟨a7, cap7, rfl⟩ := hV7.isSl; exact ⟨_, E7 ++ H, resV rfl (.cons rfl .nil), (Sub.refl _), E7, ⟨a7, cap7, hV7, rfl⟩, rfl⟩) | (have hz := hfn (by assumption); have hj0 : xs = [] := List.length_eq_zero_iff.1 hz; subst hj0; exact ⟨_, [] ++ H, resV rfl (.cons rfl .nil), (Sub.refl _), [], ⟨none, 0, .nil, rfl⟩, rfl⟩)
  · refine aw_skip ?_
    show AW _ _ _ _ _ _ _
    refine aw_seq_region ?_
    refine sr_new rfl (wtd_none rfl) rfl (x_buildSlice0 Try.underlying61 sz80 rfl) ?_
    intro r3_0 hr3_0 gr3_0
    refine sr_x rfl (wtd_none rfl) rfl (Rd.x (x_move rfl)) ?_
    refine sr_d rfl (wtd_none rfl) rfl (opS_append (G := H) (N := xs.flatMap Choice.cells) (m := xs.length) Try.underlying61 sz80 zr80 rfl by80 rfl rfl (OwnVec.mk (r := r3_0) (n := 0) (cap := 0) (L := []) (post := []) rfl rfl (by omega) (by omega)) Sub.autoP (((hs.mono (by repeat (first | exact Sub.refl _ | apply Sub.drop))).flat (fun _ => rfl) (by omega))) (hfl) (all_oneC xs) (by omega) (by omega)) ?_
    rintro v7 _ ⟨E7, hV7, rfl⟩
    refine sr_x rfl (wtd_none rfl) rfl (Rd.x (x_assign rfl)) ?_
    refine sr_nil ?_
    refine aw_keep (keep_cons (t := 2) rfl keep_nil) ?_
    refine aw_ret ?_
    show ∃ v H2, ResV _ _ _ _ _ _ v ∧ Sub H2 _ ∧ _
    first | (rw [Nat.zero_add, List.nil_append] at hV7; obtain ⟨a7, cap7, rfl⟩ := hV7.isSl; exact ⟨_, E7 ++ H, resV rfl (.cons rfl .nil), (Sub.refl _), E7, ⟨a7, cap7, hV7, rfl⟩, rfl⟩) | (have hz := hfn (by assumption); have hj0 : xs = [] := List.length_eq_zero_iff.1 hz; subst hj0; exact ⟨_, [] ++ H, resV rfl (.cons rfl .nil), (Sub.refl _), [], ⟨none, 0, .nil, rfl⟩, rfl⟩)
set_option maxRecDepth 100000 in
set_option maxHeartbeats 400000 in
theorem ynone_s (y p : Nat) (isl : Value) (at_ : Int) (osl : Value) (H : SHeap) (hc : Cells W0 H y 0 [.pointer (some ⟨p, 0, none⟩), isl, .int .i64 at_, osl]) : AC Try.prog W0 101 [.pointer (some ⟨y, 0, none⟩)] H (fun v H' => v = .bool false ∧ H' = H) := by
  refine ac_of Try.func101 rfl rfl rfl ?_
  refine aw_seq_region ?_
  refine sr_x rfl (wtd_none rfl) rfl (Rd.x (x_assign rfl)) ?_
  refine sr_nil ?_
  refine aw_keep (keep_cons (t := 0) rfl (keep_cons (t := 2) rfl keep_nil)) ?_
  refine aw_seq_region ?_
  refine sr_x rfl (wtd_none rfl) rfl (Rd.x (x_move rfl)) ?_
  refine sr_x rfl (wtd_none rfl) rfl (Rd.x (x_eqnil Try.underlying71 rfl rfl)) ?_
  refine sr_x rfl (wtd_none rfl) rfl (Rd.x (x_move rfl)) ?_
  refine sr_x rfl (wtd_yes rfl rfl rfl) rfl (Rd.x (x_move rfl)) ?_
  refine sr_x rfl (wtd_yes rfl rfl rfl) rfl (Rd.x (x_nilCheck rfl)) ?_
  refine sr_x rfl (wtd_yes rfl rfl rfl) rfl (Rd.x (x_fieldAddr fd145_0 rfl)) ?_
  refine sr_x rfl (wtd_yes rfl rfl rfl) rfl (Rd.x (x_load ag23 rfl (cells_get (Cells.mono hc (by repeat (first | exact Sub.refl _ | apply Sub.drop | apply Sub.dropE))) 0 rfl))) ?_
  refine sr_x rfl (wtd_yes rfl rfl rfl) rfl (Rd.x (x_eqnil Try.underlying23 rfl rfl)) ?_
  refine sr_x rfl (wtd_none rfl) rfl (Rd.x (x_pick_f rfl rfl rfl)) ?_
  refine sr_x rfl (wtd_none rfl) rfl (Rd.x (x_assign rfl)) ?_
  refine sr_nil ?_
  refine aw_keep (keep_cons (t := 2) rfl keep_nil) ?_
  refine aw_ret ?_
  show ∃ v H2, ResV _ _ _ _ _ _ v ∧ Sub H2 _ ∧ _
  exact ⟨_, H, resV rfl (.cons rfl .nil), (by repeat (first | exact Sub.refl _ | apply Sub.drop)), ⟨rfl, rfl⟩⟩
set_option maxRecDepth 100000 in
set_option maxHeartbeats 400000 in
theorem ynoneN_s (H : SHeap) : AC Try.prog W0 101 [.pointer none] H (fun v H' => v = .bool true ∧ H' = H) := by
  refine ac_of Try.func101 rfl rfl rfl ?_
  refine aw_seq_region ?_
  refine sr_x rfl (wtd_none rfl) rfl (Rd.x (x_assign rfl)) ?_
  refine sr_nil ?_
  refine aw_keep (keep_cons (t := 0) rfl (keep_cons (t := 2) rfl keep_nil)) ?_
  refine aw_seq_region ?_
  refine sr_x rfl (wtd_none rfl) rfl (Rd.x (x_move rfl)) ?_
  refine sr_x rfl (wtd_none rfl) rfl (Rd.x (x_eqnil Try.underlying71 rfl rfl)) ?_
  refine sr_x rfl (wtd_none rfl) rfl (Rd.x (x_move rfl)) ?_
  refine sr_skip rfl (wtd_no rfl rfl rfl rfl) rfl ?_
  refine sr_skip rfl (wtd_no rfl rfl rfl rfl) rfl ?_
  refine sr_skip rfl (wtd_no rfl rfl rfl rfl) rfl ?_
  refine sr_skip rfl (wtd_no rfl rfl rfl rfl) rfl ?_
  refine sr_skip rfl (wtd_no rfl rfl rfl rfl) rfl ?_
  refine sr_x rfl (wtd_none rfl) rfl (Rd.x (x_pick_t rfl rfl rfl)) ?_
  refine sr_x rfl (wtd_none rfl) rfl (Rd.x (x_assign rfl)) ?_
  refine sr_nil ?_
  refine aw_keep (keep_cons (t := 2) rfl keep_nil) ?_
  refine aw_ret ?_
  show ∃ v H2, ResV _ _ _ _ _ _ v ∧ Sub H2 _ ∧ _
  exact ⟨_, H, resV rfl (.cons rfl .nil), (by repeat (first | exact Sub.refl _ | apply Sub.drop)), ⟨rfl, rfl⟩⟩
set_option maxRecDepth 100000 in
set_option maxHeartbeats 400000 in
theorem pspan_s (x : Item) (H : SHeap) (hx : RightI x) : AC Try.prog W0 129 [Item.v x] H (fun v H' => (∃ b : Bool, v = .tuple #[PSpan.v ⟨x.plan, x.plan + x.limit, x.width⟩, .bool b] ∧ (b = true ↔ 0 ≤ x.plan)) ∧ H' = H) := by
  unfold RightI at hx
  refine ac_of Try.func129 rfl rfl rfl ?_
  refine aw_seq_region ?_
  refine sr_new rfl (wtd_none rfl) rfl (x_box rfl rfl) ?_
  intro r0_0 hr0_0 gr0_0
  refine sr_new rfl (wtd_none rfl) rfl (x_alloc zr55 rfl) ?_
  intro r0_1 hr0_1 gr0_1
  refine sr_x rfl (wtd_none rfl) rfl (Rd.x (x_assign rfl)) ?_
  refine sr_nil ?_
  refine aw_keep (keep_cons (t := 1) rfl (keep_cons (t := 2) rfl (keep_cons (t := 3) rfl keep_nil))) ?_
  refine aw_seq_drX (G := (r0_1, .cells [.int .i64 0, .int .i64 0, .int .i64 0].toArray 55 (0, 0)) :: H) (X := [(r0_0, .cells (Item.cells x).toArray 66 (0, 0))]) ⟨_, 15, 17, [[], [0], [], [2], [], [4], [2, 3, 4, 5], [], [7], [0, 1, 2, 3, 4, 5, 6, 7, 8], [], [10], [10, 11], [0, 1, 2, 3, 4, 5, 6, 7, 8, 9], [0, 1, 2, 3, 4, 5, 6, 7, 8, 9, 10, 11, 12, 13]], [.light, .light, .light, .light, .light, .light, .light, .light, .light, .light, .light, .light, .light, .eff, .light]⟩ (by kernel_rfl) rfl rfl mix sub_fx ?_
  refine dr_light rfl rfl (wtd_none rfl) (x_fieldAddr fd66_3 rfl) ?_
  refine dr_fix rfl rfl (wtd_none rfl) (x_load ag2 rfl (cells_ext (by repeat (first | exact List.mem_cons_self | apply List.mem_cons_of_mem | apply List.mem_append_right)) (by repeat (first | exact Ext.all _ | exact Ext.done | apply Ext.take | apply Ext.skip)))) ?_
  refine dr_light rfl rfl (wtd_none rfl) (x_fieldAddr fd66_3 rfl) ?_
  refine dr_fix rfl rfl (wtd_none rfl) (x_load ag2 rfl (cells_ext (by repeat (first | exact List.mem_cons_self | apply List.mem_cons_of_mem | apply List.mem_append_right)) (by repeat (first | exact Ext.all _ | exact Ext.done | apply Ext.take | apply Ext.skip)))) ?_
  refine dr_light rfl rfl (wtd_none rfl) (x_fieldAddr fd66_2 rfl) ?_
  refine dr_fix rfl rfl (wtd_none rfl) (x_load ag2 rfl (cells_ext (by repeat (first | exact List.mem_cons_self | apply List.mem_cons_of_mem | apply List.mem_append_right)) (by repeat (first | exact Ext.all _ | exact Ext.done | apply Ext.take | apply Ext.skip)))) ?_
  refine dr_light rfl rfl (wtd_none rfl) (x_add' rfl rfl (i64w (by omega) (by omega))) ?_
  refine dr_light rfl rfl (wtd_none rfl) (x_fieldAddr fd66_1 rfl) ?_
  refine dr_fix rfl rfl (wtd_none rfl) (x_load ag3 rfl (cells_ext (by repeat (first | exact List.mem_cons_self | apply List.mem_cons_of_mem | apply List.mem_append_right)) (by repeat (first | exact Ext.all _ | exact Ext.done | apply Ext.take | apply Ext.skip)))) ?_
  refine dr_light rfl rfl (wtd_none rfl) (x_build zr55 rfl fl55 (by repeat (first | exact Parts.nil | (apply Parts.cons; rfl))) (by repeat (first | exact Fill.done | (apply Fill.part; rfl; rfl; rfl; focus (repeat (first | exact Spl.done | exact Spl.all rfl | apply Spl.put | apply Spl.skip)))))) ?_
  refine dr_light rfl rfl (wtd_none rfl) (x_fieldAddr fd66_3 rfl) ?_
  refine dr_fix rfl rfl (wtd_none rfl) (x_load ag2 rfl (cells_ext (by repeat (first | exact List.mem_cons_self | apply List.mem_cons_of_mem | apply List.mem_append_right)) (by repeat (first | exact Ext.all _ | exact Ext.done | apply Ext.take | apply Ext.skip)))) ?_
  refine dr_cmp rfl rfl (wtd_none rfl) (x_ge rfl rfl) (fun h1 => ?_) (fun h1 => ?_)
  · refine dr_store0 rfl rfl (wtd_none rfl) (x_store sz55 rfl rfl rfl rfl rfl (by repeat (first | exact Repl.here | apply Repl.there | apply Repl.app)) (by repeat (first | exact Spl.done | exact Spl.all rfl | apply Spl.put | apply Spl.skip))) (by first | rfl | simp [keys_append, keys_cons]) ?_
    refine dr_light rfl rfl (wtd_none rfl) (x_assign rfl) ?_
    refine dr_nil0 ?_
    refine aw_keep (keep_cons (t := 2) rfl (keep_cons (t := 3) rfl keep_nil)) ?_
    refine aw_ret ?_
    show ∃ v H2, ResV _ _ _ _ _ _ v ∧ Sub H2 _ ∧ _
    exact ⟨_, H, resV rfl (.cons (⟨_, rfl, fun hw => rd_loadVarN ag55 sz55 hw (cells_ext (by repeat (first | exact List.mem_cons_self | apply List.mem_cons_of_mem | apply List.mem_append_right)) (by repeat (first | exact Ext.all _ | exact Ext.done | apply Ext.take | apply Ext.skip))) rfl⟩) (.cons rfl .nil)), (by repeat (first | exact Sub.refl _ | apply Sub.drop | apply Sub.dropE)), ⟨⟨_, rfl, by simp; omega⟩, rfl⟩⟩
  · refine dr_store0 rfl rfl (wtd_none rfl) (x_store sz55 rfl rfl rfl rfl rfl (by repeat (first | exact Repl.here | apply Repl.there | apply Repl.app)) (by repeat (first | exact Spl.done | exact Spl.all rfl | apply Spl.put | apply Spl.skip))) (by first | rfl | simp [keys_append, keys_cons]) ?_
    refine dr_light rfl rfl (wtd_none rfl) (x_assign rfl) ?_
    refine dr_nil0 ?_
    refine aw_keep (keep_cons (t := 2) rfl (keep_cons (t := 3) rfl keep_nil)) ?_
    refine aw_ret ?_
    show ∃ v H2, ResV _ _ _ _ _ _ v ∧ Sub H2 _ ∧ _
    exact ⟨_, H, resV rfl (.cons (⟨_, rfl, fun hw => rd_loadVarN ag55 sz55 hw (cells_ext (by repeat (first | exact List.mem_cons_self | apply List.mem_cons_of_mem | apply List.mem_append_right)) (by repeat (first | exact Ext.all _ | exact Ext.done | apply Ext.take | apply Ext.skip))) rfl⟩) (.cons rfl .nil)), (by repeat (first | exact Sub.refl _ | apply Sub.drop | apply Sub.dropE)), ⟨⟨_, rfl, by simp; omega⟩, rfl⟩⟩
set_option maxRecDepth 100000 in
set_option maxHeartbeats 400000 in
theorem yleft_s (y p : Nat) (a : Option Addr) (cap : Nat) (n : Nat) (k : Nat) (osl : Value) (H : SHeap) (hc : Cells W0 H y 0 [.pointer (some ⟨p, 0, none⟩), .slice a n cap, .int .i64 k, osl]) (hn : n ≤ 100000) (hk : k ≤ n) : AC Try.prog W0 52 [.pointer (some ⟨y, 0, none⟩)] H (fun v H' => v = .int .i64 ((n - k : Nat) : Int) ∧ H' = H) := by
  refine ac_of Try.func52 rfl rfl rfl ?_
  refine aw_seq_region ?_
  refine sr_x rfl (wtd_none rfl) rfl (Rd.x (x_assign rfl)) ?_
  refine sr_nil ?_
  refine aw_keep (keep_cons (t := 0) rfl (keep_cons (t := 2) rfl keep_nil)) ?_
  refine aw_seq ?_
  refine aw_seq_region ?_
  refine sr_x rfl (wtd_none rfl) rfl (Rd.x (x_move rfl)) ?_
  refine sr_d rfl (wtd_none rfl) rfl (opS_call rfl rfl rfl rfl cl101 (ynone_s y p _ _ osl _ (Cells.mono hc (by repeat (first | exact Sub.refl _ | apply Sub.drop | apply Sub.dropE))))) ?_
  rintro _ H ⟨rfl, rfl⟩
  refine sr_nil ?_
  refine aw_keep (keep_cons (t := 0) rfl (keep_cons (t := 2) rfl (keep_cons (t := 4) rfl keep_nil))) ?_
  refine aw_false rfl ?_
  refine aw_skip ?_
  show AW _ _ _ _ _ _ _
  refine aw_seq_dr ⟨_, 11, 15, [[], [0], [0, 1], [0, 1, 2], [0, 1, 2, 3], [], [5], [5, 6], [5, 6, 7], [0, 1, 2, 3, 4, 5, 6, 7, 8], [0, 1, 2, 3, 4, 5, 6, 7, 8, 9]], [.light, .light, .light, .mem, .light, .light, .light, .light, .mem, .light, .light]⟩ (by kernel_rfl) rfl rfl mix ?_
  refine dr_light rfl rfl (wtd_none rfl) (x_move rfl) ?_
  refine dr_light rfl rfl (wtd_none rfl) (x_nilCheck rfl) ?_
  refine dr_light rfl rfl (wtd_none rfl) (x_fieldAddr fd145_1 rfl) ?_
  refine dr_mem0 rfl rfl (wtd_none rfl) (x_load ag58 rfl (cells_get (Cells.mono hc (by repeat (first | exact Sub.refl _ | apply Sub.drop | apply Sub.dropE))) 1 rfl)) ?_
  refine dr_light rfl rfl (wtd_none rfl) (x_lenSlice Try.underlying58 rfl) ?_
  refine dr_light rfl rfl (wtd_none rfl) (x_move rfl) ?_
  refine dr_light rfl rfl (wtd_none rfl) (x_nilCheck rfl) ?_
  refine dr_light rfl rfl (wtd_none rfl) (x_fieldAddr fd145_2 rfl) ?_
  refine dr_mem0 rfl rfl (wtd_none rfl) (x_load ag3 rfl (cells_get (Cells.mono hc (by repeat (first | exact Sub.refl _ | apply Sub.drop | apply Sub.dropE))) 2 rfl)) ?_
  refine dr_light rfl rfl (wtd_none rfl) (x_sub' rfl rfl (i64w (by omega) (by omega))) ?_
  refine dr_light rfl rfl (wtd_none rfl) (x_assign rfl) ?_
  refine dr_nil0 ?_
  refine aw_keep (keep_cons (t := 2) rfl keep_nil) ?_
  refine aw_ret ?_
  show ∃ v H2, ResV _ _ _ _ _ _ v ∧ Sub H2 _ ∧ _
  exact ⟨_, H, resV rfl (.cons rfl .nil), (by repeat (first | exact Sub.refl _ | apply Sub.drop)), ⟨congrArg (Value.int .i64) (by omega), rfl⟩⟩
set_option maxRecDepth 100000 in
set_option maxHeartbeats 400000 in
theorem yleftN_s (H : SHeap) : AC Try.prog W0 52 [.pointer none] H (fun v H' => v = .int .i64 0 ∧ H' = H) := by
  refine ac_of Try.func52 rfl rfl rfl ?_
  refine aw_seq_region ?_
  refine sr_x rfl (wtd_none rfl) rfl (Rd.x (x_assign rfl)) ?_
  refine sr_nil ?_
  refine aw_keep (keep_cons (t := 0) rfl (keep_cons (t := 2) rfl keep_nil)) ?_
  refine aw_seq ?_
  refine aw_seq_region ?_
  refine sr_x rfl (wtd_none rfl) rfl (Rd.x (x_move rfl)) ?_
  refine sr_d rfl (wtd_none rfl) rfl (opS_call rfl rfl rfl rfl cl101 (ynoneN_s _)) ?_
  rintro _ H ⟨rfl, rfl⟩
  refine sr_nil ?_
  refine aw_keep (keep_cons (t := 0) rfl (keep_cons (t := 2) rfl (keep_cons (t := 4) rfl keep_nil))) ?_
  refine aw_true rfl ?_
  refine aw_seq_region ?_
  refine sr_x rfl (wtd_none rfl) rfl (Rd.x (x_assign rfl)) ?_
  refine sr_nil ?_
  refine aw_keep (keep_cons (t := 0) rfl (keep_cons (t := 2) rfl keep_nil)) ?_
  refine aw_ret ?_
  show ∃ v H2, ResV _ _ _ _ _ _ v ∧ Sub H2 _ ∧ _
  exact ⟨_, H, resV rfl (.cons rfl .nil), (by repeat (first | exact Sub.refl _ | apply Sub.drop)), ⟨rfl, rfl⟩⟩
set_option maxRecDepth 100000 in
set_option maxHeartbeats 400000 in
theorem ychoices_s (y p : Nat) (isl : Value) (at_ : Int) (ao : Option Addr) (co : Nat) (cs : List Choice) (H : SHeap) (hc : Cells W0 H y 0 [.pointer (some ⟨p, 0, none⟩), isl, .int .i64 at_, .slice ao cs.length co]) (hs : SlV W0 H 2 Choice.cells ao co cs) (hl : cs.length ≤ 100000) : AC Try.prog W0 53 [.pointer (some ⟨y, 0, none⟩)] H (fun v H' => ∃ E2, (∃ a2 cap2, OwnVec 2 80 (.slice a2 cs.length cap2) cs.length (cs.flatMap Choice.cells) E2 ∧ v = .slice a2 cs.length cap2) ∧ H' = E2 ++ H) := by
  refine ac_of Try.func53 rfl rfl rfl ?_
  refine aw_seq_region ?_
  refine sr_x rfl (wtd_none rfl) rfl (Rd.x (x_assign rfl)) ?_
  refine sr_nil ?_
  refine aw_keep (keep_cons (t := 0) rfl (keep_cons (t := 2) rfl keep_nil)) ?_
  refine aw_seq ?_
  refine aw_seq_region ?_
  refine sr_x rfl (wtd_none rfl) rfl (Rd.x (x_move rfl)) ?_
  refine sr_d rfl (wtd_none rfl) rfl (opS_call rfl rfl rfl rfl cl101 (ynone_s y p isl at_ _ _ (Cells.mono hc (by repeat (first | exact Sub.refl _ | apply Sub.drop | apply Sub.dropE))))) ?_
  rintro _ H ⟨rfl, rfl⟩
  refine sr_nil ?_
  refine aw_keep (keep_cons (t := 0) rfl (keep_cons (t := 2) rfl (keep_cons (t := 4) rfl keep_nil))) ?_
  refine aw_false rfl ?_
  refine aw_skip ?_
  show AW _ _ _ _ _ _ _
  refine aw_seq_region ?_
  refine sr_x rfl (wtd_none rfl) rfl (Rd.x (x_move rfl)) ?_
  refine sr_x rfl (wtd_none rfl) rfl (Rd.x (x_nilCheck rfl)) ?_
  refine sr_x rfl (wtd_none rfl) rfl (Rd.x (x_fieldAddr fd145_3 rfl)) ?_
  refine sr_x rfl (wtd_none rfl) rfl (Rd.x (x_load ag61 rfl (cells_get (Cells.mono hc (by repeat (first | exact Sub.refl _ | apply Sub.drop | apply Sub.dropE))) 3 rfl))) ?_
  refine sr_d rfl (wtd_none rfl) rfl (opS_call rfl rfl rfl rfl cl103 (cclone_s ao co cs _ hs (by omega))) ?_
  rintro _ _ ⟨E2, ⟨a2, cap2, V2, rfl⟩, rfl⟩
  refine sr_x rfl (wtd_none rfl) rfl (Rd.x (x_assign rfl)) ?_
  refine sr_nil ?_
  refine aw_keep (keep_cons (t := 2) rfl keep_nil) ?_
  refine aw_ret ?_
  show ∃ v H2, ResV _ _ _ _ _ _ v ∧ Sub H2 _ ∧ _
  exact ⟨_, (E2 ++ H), resV rfl (.cons rfl .nil), (by repeat (first | exact Sub.refl _ | apply Sub.drop)), ⟨E2, ⟨a2, cap2, V2, rfl⟩, rfl⟩⟩
set_option maxRecDepth 100000 in
set_option maxHeartbeats 400000 in
theorem ychoicesN_s (H : SHeap) : AC Try.prog W0 53 [.pointer none] H (fun v H' => v = .slice none 0 0 ∧ H' = H) := by
  refine ac_of Try.func53 rfl rfl rfl ?_
  refine aw_seq_region ?_
  refine sr_x rfl (wtd_none rfl) rfl (Rd.x (x_assign rfl)) ?_
  refine sr_nil ?_
  refine aw_keep (keep_cons (t := 0) rfl (keep_cons (t := 2) rfl keep_nil)) ?_
  refine aw_seq ?_
  refine aw_seq_region ?_
  refine sr_x rfl (wtd_none rfl) rfl (Rd.x (x_move rfl)) ?_
  refine sr_d rfl (wtd_none rfl) rfl (opS_call rfl rfl rfl rfl cl101 (ynoneN_s _)) ?_
  rintro _ H ⟨rfl, rfl⟩
  refine sr_nil ?_
  refine aw_keep (keep_cons (t := 0) rfl (keep_cons (t := 2) rfl (keep_cons (t := 4) rfl keep_nil))) ?_
  refine aw_true rfl ?_
  refine aw_seq_region ?_
  refine sr_x rfl (wtd_none rfl) rfl (Rd.x (x_assign rfl)) ?_
  refine sr_nil ?_
  refine aw_keep (keep_cons (t := 0) rfl (keep_cons (t := 2) rfl keep_nil)) ?_
  refine aw_ret ?_
  show ∃ v H2, ResV _ _ _ _ _ _ v ∧ Sub H2 _ ∧ _
  exact ⟨_, H, resV rfl (.cons rfl .nil), (by repeat (first | exact Sub.refl _ | apply Sub.drop)), ⟨rfl, rfl⟩⟩
set_option maxRecDepth 100000 in
set_option maxHeartbeats 8000000 in
theorem yone_s (y p : Nat) (a : Option Addr) (cap : Nat) (S : List PStep) (ver : Int) (E : SHeap) (V : OffVec 2 76 (.slice a S.length cap) S.length (S.flatMap PStep.cells) E) (isl : Value) (at_ : Int) (ao : Option Addr) (co : Nat) (cs : List Choice) (EO G : SHeap) (VO : OwnVec 2 80 (.slice ao cs.length co) cs.length (cs.flatMap Choice.cells) EO) (now : Int) (f : Int → Int) (hrep : Rep S now f) (hrng : ∀ t, now ≤ t → 0 ≤ f t ∧ f t ≤ 64) (hnw : 0 ≤ now ∧ now ≤ 1099511627776) (hv : 0 ≤ ver ∧ ver ≤ 1000) (hl : S.length ≤ 1000) (hcs : cs.length ≤ 1000) (x : Item) (hx : RightI x) : AC Try.prog W0 102 [.pointer (some ⟨y, 0, none⟩), Item.v x] (plnB y p isl at_ (.slice ao cs.length co) :: prB p (.slice a S.length cap) ver :: (E ++ (EO ++ G))) (fun v H' => ∃ (f' : Int → Int) (c : Option Choice) (S' : List PStep) (ver' : Int) (a' : Option Addr) (cap' : Nat) (E' : SHeap) (cs' : List Choice) (ao' : Option Addr) (co' : Nat) (EO' : SHeap), v = .tuple #[] ∧ OneC now f x f' c ∧ Rep S' now f' ∧ (∀ t, now ≤ t → 0 ≤ f' t ∧ f' t ≤ 64) ∧ S'.length ≤ S.length + 4 ∧ ver ≤ ver' ∧ ver' ≤ ver + 2 ∧ cs' = cs ++ c.toList ∧ OffVec 2 76 (.slice a' S'.length cap') S'.length (S'.flatMap PStep.cells) E' ∧ OwnVec 2 80 (.slice ao' cs'.length co') cs'.length (cs'.flatMap Choice.cells) EO' ∧ H' = (plnB y p isl at_ (.slice ao' cs'.length co') :: prB p (.slice a' S'.length cap') ver' :: (E' ++ (EO' ++ G)))) := by
  have hxx := hx
  unfold RightI at hxx
  have hs := V.slv' (W0 := W0) (fun _ => rfl) rfl (Sub.refl _)
  have hps := rep_pos hrep
  refine ac_of Try.func102 rfl rfl rfl ?_
  refine aw_seq_region ?_
  refine sr_new rfl (wtd_none rfl) rfl (x_box rfl rfl) ?_
  intro r0_0 hr0_0 gr0_0
  refine sr_nil ?_
  refine aw_keep (keep_cons (t := 0) rfl (keep_cons (t := 3) rfl keep_nil)) ?_
  refine aw_seq_region ?_
  refine sr_x rfl (wtd_none rfl) rfl (Rd.x (x_loadN ag66 sz66 rfl (cells_ext (by repeat (first | exact List.mem_cons_self | apply List.mem_cons_of_mem | apply List.mem_append_right)) (by repeat (first | exact Ext.all _ | exact Ext.done | apply Ext.take | apply Ext.skip))) rfl)) ?_
  refine sr_d rfl (wtd_none rfl) rfl (opS_call rfl rfl rfl rfl cl129 (pspan_s x _ hx)) ?_
  rintro _ H9 ⟨⟨bp, rfl, hbp⟩, rfl⟩
  cases bp
  · first | have hpl := hbp.1 rfl | have hpl : ¬ 0 ≤ x.plan := fun h => by have := hbp.2 h; cases this
    refine sr_x rfl (wtd_none rfl) rfl (Rd.x (x_move rfl)) ?_
    refine sr_x rfl (wtd_none rfl) rfl (Rd.x (x_extract rfl rfl)) ?_
    refine sr_x rfl (wtd_none rfl) rfl (Rd.x (x_extract rfl rfl)) ?_
    refine sr_new rfl (wtd_none rfl) rfl (x_alloc zr55 rfl) ?_
    intro r1_5 hr1_5 gr1_5
    refine sr_x0 rfl (wtd_none rfl) (x_store sz55 rfl rfl rfl rfl rfl (by repeat (first | exact Repl.here | apply Repl.there | apply Repl.app)) (by repeat (first | exact Spl.done | exact Spl.all rfl | apply Spl.put | apply Spl.skip))) ?_
    refine sr_x rfl (wtd_none rfl) rfl (Rd.x (x_assign rfl)) ?_
    refine sr_nil ?_
    refine aw_keep (keep_cons (t := 0) rfl (keep_cons (t := 3) rfl (keep_cons (t := 4) rfl (keep_cons (t := 5) rfl keep_nil)))) ?_
    refine aw_seq ?_
    refine aw_seq_region ?_
    refine sr_x rfl (wtd_none rfl) rfl (Rd.x (x_move rfl)) ?_
    refine sr_nil ?_
    refine aw_keep (keep_cons (t := 0) rfl (keep_cons (t := 3) rfl (keep_cons (t := 4) rfl (keep_cons (t := 5) rfl (keep_cons (t := 13) rfl keep_nil))))) ?_
    refine aw_false rfl ?_
    refine aw_skip ?_
    show AW _ _ _ _ _ _ _
    refine aw_seq_dr ⟨_, 19, 82, [[], [0], [0, 1], [0, 1, 2], [], [4], [4, 5], [4, 5, 6], [4, 5, 6, 7], [], [9], [], [11], [0, 1, 2, 3, 4, 5, 6, 7, 8, 9, 10, 11, 12], [0, 1, 2, 3, 4, 5, 6, 7, 8, 9, 10, 11, 12, 13], [0, 1, 2, 3, 4, 5, 6, 7, 8, 9, 10, 11, 12, 13, 14], [0, 1, 2, 3, 4, 5, 6, 7, 8, 9, 10, 11, 12, 13, 14], [0, 1, 2, 3, 4, 5, 6, 7, 8, 9, 10, 11, 12, 13, 14, 15], [0, 1, 2, 3, 4, 5, 6, 7, 8, 9, 10, 11, 12, 13, 14, 15, 16, 17]], [.light, .light, .light, .mem, .light, .light, .light, .mem, .call, .light, .mem, .light, .mem, .eff, .light, .light, .light, .light, .light]⟩ (by kernel_rfl) rfl rfl mix ?_
    first | obtain rfl : e1 = 0 := by omega | skip
    refine dr_light rfl rfl (wtd_none rfl) (x_move rfl) ?_
    refine dr_light rfl rfl (wtd_none rfl) (x_nilCheck rfl) ?_
    refine dr_light rfl rfl (wtd_none rfl) (x_fieldAddr fd145_0 rfl) ?_
    refine dr_mem0 rfl rfl (wtd_none rfl) (x_load ag23 rfl (cells_ext (by repeat (first | exact List.mem_cons_self | apply List.mem_cons_of_mem | apply List.mem_append_right)) (by repeat (first | exact Ext.all _ | exact Ext.done | apply Ext.take | apply Ext.skip)))) ?_
    refine dr_light rfl rfl (wtd_none rfl) (x_move rfl) ?_
    refine dr_light rfl rfl (wtd_none rfl) (x_nilCheck rfl) ?_
    refine dr_light rfl rfl (wtd_none rfl) (x_fieldAddr fd145_0 rfl) ?_
    refine dr_mem0 rfl rfl (wtd_none rfl) (x_load ag23 rfl (cells_ext (by repeat (first | exact List.mem_cons_self | apply List.mem_cons_of_mem | apply List.mem_append_right)) (by repeat (first | exact Ext.all _ | exact Ext.done | apply Ext.take | apply Ext.skip)))) ?_
    refine dr_callq0 rfl rfl (wtd_none rfl) (opS_F rfl rfl rfl rfl cl28 ((pnowR_s p a cap S ver _ (cells_ext (by repeat (first | exact List.mem_cons_self | apply List.mem_cons_of_mem | apply List.mem_append_right)) (by repeat (first | exact Ext.all _ | exact Ext.done | apply Ext.take | apply Ext.skip))) (hs.mono (Sub.takeE0 (by repeat (first | exact TakeE.here | apply TakeE.there | apply TakeE.app)))) now f hrep))) (⟨_, rfl⟩) ?_
    rintro _ rfl
    refine dr_light rfl rfl (wtd_none rfl) (x_fieldAddr fd66_2 rfl) ?_
    refine dr_mem0 rfl rfl (wtd_none rfl) (x_load ag2 rfl (cells_ext (by repeat (first | exact List.mem_cons_self | apply List.mem_cons_of_mem | apply List.mem_append_right)) (by repeat (first | exact Ext.all _ | exact Ext.done | apply Ext.take | apply Ext.skip)))) ?_
    refine dr_light rfl rfl (wtd_none rfl) (x_fieldAddr fd66_1 rfl) ?_
    refine dr_mem0 rfl rfl (wtd_none rfl) (x_load ag3 rfl (cells_ext (by repeat (first | exact List.mem_cons_self | apply List.mem_cons_of_mem | apply List.mem_append_right)) (by repeat (first | exact Ext.all _ | exact Ext.done | apply Ext.take | apply Ext.skip)))) ?_
    refine dr_effC rfl (V := []) rfl (L' := []) (clear_all rfl) rfl (wtd_none rfl) rfl rfl rfl rfl cl24 (pear_s p a cap S ver _ (cells_ext (by repeat (first | exact List.mem_cons_self | apply List.mem_cons_of_mem | apply List.mem_append_right)) (by repeat (first | exact Ext.all _ | exact Ext.done | apply Ext.take | apply Ext.skip))) (hs.mono (Sub.takeE0 (by repeat (first | exact TakeE.here | apply TakeE.there | apply TakeE.app)))) now f hrep (by omega) hnw.1 now x.limit x.width) ?_
    rintro _ _ ⟨⟨t, e, rfl, hE⟩, rfl⟩
    refine dr_light rfl rfl (wtd_none rfl) (x_move rfl) ?_
    refine dr_light rfl rfl (wtd_none rfl) (x_extract rfl rfl) ?_
    refine dr_light rfl rfl (wtd_none rfl) (x_extract rfl rfl) ?_
    refine dr_light rfl rfl (wtd_none rfl) (x_assign rfl) ?_
    refine dr_light rfl rfl (wtd_none rfl) (x_assign rfl) ?_
    refine dr_nil0 ?_
    refine aw_keep (keep_cons (t := 0) rfl (keep_cons (t := 3) rfl (keep_cons (t := 4) rfl (keep_cons (t := 5) rfl (keep_cons (t := 6) rfl (keep_cons (t := 7) rfl keep_nil)))))) ?_
    refine aw_seq ?_
    refine aw_seq_region ?_
    refine sr_x rfl (wtd_none rfl) rfl (Rd.x (x_move rfl)) ?_
    refine sr_cmp rfl (wtd_none rfl) rfl (Rd.x (x_ne rfl rfl)) (fun h1 => ?_) (fun h1 => ?_)
    · refine sr_x rfl (wtd_none rfl) rfl (Rd.x (x_move rfl)) ?_
      refine sr_skip rfl (wtd_no rfl rfl rfl rfl) rfl ?_
      refine sr_skip rfl (wtd_no rfl rfl rfl rfl) rfl ?_
      refine sr_skip rfl (wtd_un rfl rfl rfl) rfl ?_
      refine sr_skip rfl (wtd_un rfl rfl rfl) rfl ?_
      refine sr_skip rfl (wtd_un rfl rfl rfl) rfl ?_
      refine sr_skip rfl (wtd_un rfl rfl rfl) rfl ?_
      refine sr_skip rfl (wtd_no rfl rfl rfl rfl) rfl ?_
      refine sr_x rfl (wtd_none rfl) rfl (Rd.x (x_pick_t rfl rfl rfl)) ?_
      refine sr_nil ?_
      refine aw_keep (keep_cons (t := 0) rfl (keep_cons (t := 3) rfl (keep_cons (t := 4) rfl (keep_cons (t := 5) rfl (keep_cons (t := 6) rfl (keep_cons (t := 48) rfl keep_nil)))))) ?_
      refine aw_true rfl ?_
      refine aw_seq ?_
      refine aw_seq_region ?_
      refine sr_x rfl (wtd_none rfl) rfl (Rd.x (x_move rfl)) ?_
      refine sr_nil ?_
      refine aw_keep (keep_cons (t := 0) rfl (keep_cons (t := 3) rfl (keep_cons (t := 4) rfl (keep_cons (t := 6) rfl (keep_cons (t := 49) rfl keep_nil))))) ?_
      refine aw_false rfl ?_
      refine aw_skip ?_
      show AW _ _ _ _ _ _ _
      refine aw_ret ?_
      show ∃ v H2, ResV _ _ _ _ _ _ v ∧ Sub H2 _ ∧ _
      first | exact ⟨_, (plnB y p isl at_ (.slice ao cs.length co) :: prB p (.slice a S.length cap) ver :: (E ++ (EO ++ G))), resV rfl .nil, Sub.autoD, f, none, S, ver, a, cap, E, cs, ao, co, EO, rfl, .free hpl hE (by omega), hrep, hrng, by omega, by omega, by omega, by simp, V, VO, rfl⟩ | (obtain rfl : c1 = false := addC_bad hC1 (by assumption)); exact ⟨_, (plnB y p isl at_ (.slice ao cs.length co) :: prB p (.slice a1 S1.length cp1) ver :: (E1 ++ (EO ++ G))), resV rfl .nil, Sub.autoD, f, none, S1, ver, a1, cp1, E1, cs, ao, co, EO, rfl, .stuck hpl hC1 (by assumption), hR1, hrng, by omega, by omega, by omega, by simp, V1, VO, rfl⟩ | exact ⟨_, (plnB y p isl at_ (.slice ao cs.length co) :: prB p (.slice a2 S2.length cp2) (if c2 = true then (if c1 = true then ver + 1 else ver) + 1 else (if c1 = true then ver + 1 else ver)) :: (E2 ++ (EO ++ G))), resV rfl .nil, Sub.autoD, _, none, S2, (if c2 = true then (if c1 = true then ver + 1 else ver) + 1 else (if c1 = true then ver + 1 else ver)), a2, cp2, E2, cs, ao, co, EO, rfl, .keep hpl hC1 hE (by omega) hC2, hR2, hrng2, by omega, by omega, by omega, by simp, V2, VO, rfl⟩ | exact ⟨_, (plnB y p isl at_ (.slice ao9 (cs.length + 1) co9) :: prB p (.slice a2 S2.length cp2) (if c2 = true then (if c1 = true then ver + 1 else ver) + 1 else (if c1 = true then ver + 1 else ver)) :: (E2 ++ (E79 ++ G))), resV rfl .nil, Sub.autoD, _, some ⟨x.id, t⟩, S2, (if c2 = true then (if c1 = true then ver + 1 else ver) + 1 else (if c1 = true then ver + 1 else ver)), a2, cp2, E2, cs ++ [⟨x.id, t⟩], ao9, co9, E79, rfl, .move hpl hC1 hE (by omega) hC2, hR2, hrng2, by omega, by omega, by omega, rfl, V2, OwnVec.snocS hV79, (by rw [List.length_append]; rfl)⟩ | exact ⟨_, (plnB y p isl at_ (.slice ao9 (cs.length + 1) co9) :: prB p (.slice a2 S2.length cp2) (if c2 = true then ver + 1 else ver) :: (E2 ++ (E79 ++ G))), resV rfl .nil, Sub.autoD, _, some ⟨x.id, t⟩, S2, (if c2 = true then ver + 1 else ver), a2, cp2, E2, cs ++ [⟨x.id, t⟩], ao9, co9, E79, rfl, .take hpl hE hC2, hR2, hrng2, by omega, by omega, by omega, rfl, V2, OwnVec.snocS hV79, (by rw [List.length_append]; rfl)⟩
    · refine sr_x rfl (wtd_none rfl) rfl (Rd.x (x_move rfl)) ?_
      refine sr_x rfl (wtd_yes rfl rfl rfl) rfl (Rd.x (x_move rfl)) ?_
      refine sr_x rfl (wtd_yes rfl rfl rfl) rfl (Rd.x (x_move rfl)) ?_
      refine sr_skip rfl (wtd_no rfl rfl rfl rfl) rfl ?_
      refine sr_skip rfl (wtd_no rfl rfl rfl rfl) rfl ?_
      refine sr_skip rfl (wtd_no rfl rfl rfl rfl) rfl ?_
      refine sr_skip rfl (wtd_no rfl rfl rfl rfl) rfl ?_
      refine sr_x rfl (wtd_yes rfl rfl rfl) rfl (Rd.x (x_pick_f rfl rfl rfl)) ?_
      refine sr_x rfl (wtd_none rfl) rfl (Rd.x (x_pick_f rfl rfl rfl)) ?_
      refine sr_nil ?_
      refine aw_keep (keep_cons (t := 0) rfl (keep_cons (t := 3) rfl (keep_cons (t := 4) rfl (keep_cons (t := 5) rfl (keep_cons (t := 6) rfl (keep_cons (t := 48) rfl keep_nil)))))) ?_
      refine aw_false rfl ?_
      refine aw_skip ?_
      show AW _ _ _ _ _ _ _
      refine aw_seq_dr ⟨_, 13, 82, [[], [0], [0, 1], [0, 1, 2], [], [], [], [6], [5, 6, 7], [], [9], [4, 5, 6, 7, 8, 9, 10], [0, 1, 2, 3, 4, 5, 6, 7, 8, 9, 10, 11]], [.light, .light, .light, .mem, .light, .light, .light, .mem, .light, .light, .mem, .light, .eff]⟩ (by kernel_rfl) rfl rfl mix ?_
      obtain rfl : e = 0 := by omega
      have htb := ear_bd hE
      refine dr_light rfl rfl (wtd_none rfl) (x_move rfl) ?_
      refine dr_light rfl rfl (wtd_none rfl) (x_nilCheck rfl) ?_
      refine dr_light rfl rfl (wtd_none rfl) (x_fieldAddr fd145_0 rfl) ?_
      refine dr_mem0 rfl rfl (wtd_none rfl) (x_load ag23 rfl (cells_ext (by repeat (first | exact List.mem_cons_self | apply List.mem_cons_of_mem | apply List.mem_append_right)) (by repeat (first | exact Ext.all _ | exact Ext.done | apply Ext.take | apply Ext.skip)))) ?_
      refine dr_light rfl rfl (wtd_none rfl) (x_move rfl) ?_
      refine dr_light rfl rfl (wtd_none rfl) (x_move rfl) ?_
      refine dr_light rfl rfl (wtd_none rfl) (x_fieldAddr fd66_2 rfl) ?_
      refine dr_mem0 rfl rfl (wtd_none rfl) (x_load ag2 rfl (cells_ext (by repeat (first | exact List.mem_cons_self | apply List.mem_cons_of_mem | apply List.mem_append_right)) (by repeat (first | exact Ext.all _ | exact Ext.done | apply Ext.take | apply Ext.skip)))) ?_
      refine dr_light rfl rfl (wtd_none rfl) (x_add' rfl rfl (i64w (by omega) (by omega))) ?_
      refine dr_light rfl rfl (wtd_none rfl) (x_fieldAddr fd66_1 rfl) ?_
      refine dr_mem0 rfl rfl (wtd_none rfl) (x_load ag3 rfl (cells_ext (by repeat (first | exact List.mem_cons_self | apply List.mem_cons_of_mem | apply List.mem_append_right)) (by repeat (first | exact Ext.all _ | exact Ext.done | apply Ext.take | apply Ext.skip)))) ?_
      refine dr_light rfl rfl (wtd_none rfl) (x_build zr55 rfl fl55 (by repeat (first | exact Parts.nil | (apply Parts.cons; rfl))) (by repeat (first | exact Fill.done | (apply Fill.part; rfl; rfl; rfl; focus (repeat (first | exact Spl.done | exact Spl.all rfl | apply Spl.put | apply Spl.skip)))))) ?_
      refine dr_effC rfl (V := []) rfl (L' := []) (clear_all rfl) rfl (wtd_none rfl) rfl rfl rfl rfl cl40 (AC.sub Sub.autoP (pres_s p a cap S.length S ver E (plnB y p isl at_ (.slice ao cs.length co) :: (r1_5, .cells (PSpan.cells ⟨x.plan, x.plan + x.limit, x.width⟩).toArray 55 (0, 0)) :: (r0_0, .cells (Item.cells x).toArray 66 (0, 0)) :: (EO ++ G)) V rfl (by omega) now f hrep hrng (by omega) (by omega) ⟨t, t + x.limit, x.width⟩ (by dsimp only; omega))) ?_
      rintro _ _ ⟨e2, c2, S2, a2, cp2, E2, rfl, hC2, hR2, hl2, V2, rfl⟩
      have hs2 := V2.slv' (W0 := W0) (fun _ => rfl) rfl (Sub.refl _)
      have hrng2 := addC_rng hrep hnw hrng hC2
      have hps2 := rep_pos hR2
      have hvv2 : ver ≤ (if c2 = true then ver + 1 else ver) ∧ (if c2 = true then ver + 1 else ver) ≤ ver + 1 := by split <;> omega
      refine dr_nil0 ?_
      refine aw_keep (keep_cons (t := 0) rfl (keep_cons (t := 3) rfl (keep_cons (t := 6) rfl keep_nil))) ?_
      refine aw_dr ⟨_, 14, 82, [[], [], [1], [1, 2], [1, 2, 3], [], [5], [], [5, 6, 7], [5, 6, 7, 8], [1, 2, 3, 4, 5, 6, 7, 8, 9], [0, 1, 2, 3, 4, 5, 6, 7, 8, 9, 10], [0, 1, 2, 3, 4, 5, 6, 7, 8, 9, 10, 11], [0, 1, 2, 3, 4, 5, 6, 7, 8, 9, 10, 11, 12]], [.light, .light, .light, .light, .mem, .light, .mem, .light, .light, .alloc, .eff, .light, .light, .eff]⟩ (by kernel_rfl) rfl rfl mix ?_
      refine dr_light rfl rfl (wtd_none rfl) (x_move rfl) ?_
      refine dr_light rfl rfl (wtd_none rfl) (x_move rfl) ?_
      refine dr_light rfl rfl (wtd_none rfl) (x_nilCheck rfl) ?_
      refine dr_light rfl rfl (wtd_none rfl) (x_fieldAddr fd145_3 rfl) ?_
      refine dr_mem0 rfl rfl (wtd_none rfl) (x_load ag61 rfl (cells_ext (by repeat (first | exact List.mem_cons_self | apply List.mem_cons_of_mem | apply List.mem_append_right)) (by repeat (first | exact Ext.all _ | exact Ext.done | apply Ext.take | apply Ext.skip)))) ?_
      refine dr_light rfl rfl (wtd_none rfl) (x_fieldAddr fd66_0 rfl) ?_
      refine dr_mem0 rfl rfl (wtd_none rfl) (x_load ag3 rfl (cells_ext (by repeat (first | exact List.mem_cons_self | apply List.mem_cons_of_mem | apply List.mem_append_right)) (by repeat (first | exact Ext.all _ | exact Ext.done | apply Ext.take | apply Ext.skip)))) ?_
      refine dr_light rfl rfl (wtd_none rfl) (x_move rfl) ?_
      refine dr_light rfl rfl (wtd_none rfl) (x_build zr80 rfl fl80 (by repeat (first | exact Parts.nil | (apply Parts.cons; rfl))) (by repeat (first | exact Fill.done | (apply Fill.part; rfl; rfl; rfl; focus (repeat (first | exact Spl.done | exact Spl.all rfl | apply Spl.put | apply Spl.skip)))))) ?_
      refine dr_alloc rfl rfl (wtd_none rfl) (x_buildSlice Try.underlying61 sz80 zr80 rfl rfl rfl rfl (by repeat (first | exact Parts.nil | (apply Parts.cons; rfl))) (by repeat (first | exact Fill.done | (apply Fill.part; rfl; rfl; rfl; focus (repeat (first | exact Spl.done | exact Spl.all rfl | apply Spl.put | apply Spl.skip)))))) ?_
      intro r9_9 hr9_9 gr9_9
      refine dr_eff rfl (V := [(r9_9, _)]) rfl (L' := []) (clear_all rfl) rfl (wtd_none rfl) (opSF_append (G := (r9_9, .cells (Choice.cells ⟨x.id, t⟩).toArray 80 (0, 0)) :: plnB y p isl at_ (.slice ao cs.length co) :: prB p (.slice a2 S2.length cp2) (if c2 = true then ver + 1 else ver) :: (E2 ++ ((r1_5, .cells (PSpan.cells ⟨x.plan, x.plan + x.limit, x.width⟩).toArray 55 (0, 0)) :: ((r0_0, .cells (Item.cells x).toArray 66 (0, 0)) :: G)))) (N := (Choice.cells ⟨x.id, t⟩)) (m := 1) Try.underlying61 sz80 zr80 rfl by80 rfl rfl VO Sub.autoP (.inr ⟨_, _, rfl, (cells_ext (by repeat (first | exact List.mem_cons_self | apply List.mem_cons_of_mem | apply List.mem_append_right)) (by repeat (first | exact Ext.all _ | exact Ext.done | apply Ext.take | apply Ext.skip)))⟩) (rfl) rfl (by omega) (by omega)) (append_fresh (G := (r9_9, .cells (Choice.cells ⟨x.id, t⟩).toArray 80 (0, 0)) :: plnB y p isl at_ (.slice ao cs.length co) :: prB p (.slice a2 S2.length cp2) (if c2 = true then ver + 1 else ver) :: (E2 ++ ((r1_5, .cells (PSpan.cells ⟨x.plan, x.plan + x.limit, x.width⟩).toArray 55 (0, 0)) :: ((r0_0, .cells (Item.cells x).toArray 66 (0, 0)) :: G)))) (N := (Choice.cells ⟨x.id, t⟩)) (m := 1) VO (rfl) (by omega) Sub.autoP) ?_
      rintro v79 _ ⟨E79, hV79, rfl⟩
      obtain ⟨ao9, co9, rfl⟩ := hV79.isSl
      refine dr_light rfl rfl (wtd_none rfl) (x_nilCheck rfl) ?_
      refine dr_light rfl rfl (wtd_none rfl) (x_fieldAddr fd145_3 rfl) ?_
      refine dr_store0 rfl rfl (wtd_none rfl) (x_store sz61 rfl rfl rfl rfl rfl (by repeat (first | exact Repl.here | apply Repl.there | apply Repl.app)) (by repeat (first | exact Spl.done | exact Spl.all rfl | apply Spl.put | apply Spl.skip))) (by first | rfl | simp [keys_append, keys_cons]) ?_
      refine dr_nil0 ?_
      show ∃ v H2, ResV _ _ _ _ _ _ v ∧ Sub H2 _ ∧ _
      first | exact ⟨_, (plnB y p isl at_ (.slice ao cs.length co) :: prB p (.slice a S.length cap) ver :: (E ++ (EO ++ G))), resV rfl .nil, Sub.autoD, f, none, S, ver, a, cap, E, cs, ao, co, EO, rfl, .free hpl hE (by omega), hrep, hrng, by omega, by omega, by omega, by simp, V, VO, rfl⟩ | (obtain rfl : c1 = false := addC_bad hC1 (by assumption)); exact ⟨_, (plnB y p isl at_ (.slice ao cs.length co) :: prB p (.slice a1 S1.length cp1) ver :: (E1 ++ (EO ++ G))), resV rfl .nil, Sub.autoD, f, none, S1, ver, a1, cp1, E1, cs, ao, co, EO, rfl, .stuck hpl hC1 (by assumption), hR1, hrng, by omega, by omega, by omega, by simp, V1, VO, rfl⟩ | exact ⟨_, (plnB y p isl at_ (.slice ao cs.length co) :: prB p (.slice a2 S2.length cp2) (if c2 = true then (if c1 = true then ver + 1 else ver) + 1 else (if c1 = true then ver + 1 else ver)) :: (E2 ++ (EO ++ G))), resV rfl .nil, Sub.autoD, _, none, S2, (if c2 = true then (if c1 = true then ver + 1 else ver) + 1 else (if c1 = true then ver + 1 else ver)), a2, cp2, E2, cs, ao, co, EO, rfl, .keep hpl hC1 hE (by omega) hC2, hR2, hrng2, by omega, by omega, by omega, by simp, V2, VO, rfl⟩ | exact ⟨_, (plnB y p isl at_ (.slice ao9 (cs.length + 1) co9) :: prB p (.slice a2 S2.length cp2) (if c2 = true then (if c1 = true then ver + 1 else ver) + 1 else (if c1 = true then ver + 1 else ver)) :: (E2 ++ (E79 ++ G))), resV rfl .nil, Sub.autoD, _, some ⟨x.id, t⟩, S2, (if c2 = true then (if c1 = true then ver + 1 else ver) + 1 else (if c1 = true then ver + 1 else ver)), a2, cp2, E2, cs ++ [⟨x.id, t⟩], ao9, co9, E79, rfl, .move hpl hC1 hE (by omega) hC2, hR2, hrng2, by omega, by omega, by omega, rfl, V2, OwnVec.snocS hV79, (by rw [List.length_append]; rfl)⟩ | exact ⟨_, (plnB y p isl at_ (.slice ao9 (cs.length + 1) co9) :: prB p (.slice a2 S2.length cp2) (if c2 = true then ver + 1 else ver) :: (E2 ++ (E79 ++ G))), resV rfl .nil, Sub.autoD, _, some ⟨x.id, t⟩, S2, (if c2 = true then ver + 1 else ver), a2, cp2, E2, cs ++ [⟨x.id, t⟩], ao9, co9, E79, rfl, .take hpl hE hC2, hR2, hrng2, by omega, by omega, by omega, rfl, V2, OwnVec.snocS hV79, (by rw [List.length_append]; rfl)⟩
  · first | have hpl := hbp.1 rfl | have hpl : ¬ 0 ≤ x.plan := fun h => by have := hbp.2 h; cases this
    refine sr_x rfl (wtd_none rfl) rfl (Rd.x (x_move rfl)) ?_
    refine sr_x rfl (wtd_none rfl) rfl (Rd.x (x_extract rfl rfl)) ?_
    refine sr_x rfl (wtd_none rfl) rfl (Rd.x (x_extract rfl rfl)) ?_
    refine sr_new rfl (wtd_none rfl) rfl (x_alloc zr55 rfl) ?_
    intro r1_5 hr1_5 gr1_5
    refine sr_x0 rfl (wtd_none rfl) (x_store sz55 rfl rfl rfl rfl rfl (by repeat (first | exact Repl.here | apply Repl.there | apply Repl.app)) (by repeat (first | exact Spl.done | exact Spl.all rfl | apply Spl.put | apply Spl.skip))) ?_
    refine sr_x rfl (wtd_none rfl) rfl (Rd.x (x_assign rfl)) ?_
    refine sr_nil ?_
    refine aw_keep (keep_cons (t := 0) rfl (keep_cons (t := 3) rfl (keep_cons (t := 4) rfl (keep_cons (t := 5) rfl keep_nil)))) ?_
    refine aw_seq ?_
    refine aw_seq_region ?_
    refine sr_x rfl (wtd_none rfl) rfl (Rd.x (x_move rfl)) ?_
    refine sr_nil ?_
    refine aw_keep (keep_cons (t := 0) rfl (keep_cons (t := 3) rfl (keep_cons (t := 4) rfl (keep_cons (t := 5) rfl (keep_cons (t := 13) rfl keep_nil))))) ?_
    refine aw_true rfl ?_
    refine aw_seq_dr ⟨_, 7, 82, [[], [0], [0, 1], [0, 1, 2], [], [0, 1, 2, 3, 4], [0, 1, 2, 3, 4, 5]], [.light, .light, .light, .mem, .mem, .eff, .light]⟩ (by kernel_rfl) rfl rfl mix ?_
    refine dr_light rfl rfl (wtd_none rfl) (x_move rfl) ?_
    refine dr_light rfl rfl (wtd_none rfl) (x_nilCheck rfl) ?_
    refine dr_light rfl rfl (wtd_none rfl) (x_fieldAddr fd145_0 rfl) ?_
    refine dr_mem0 rfl rfl (wtd_none rfl) (x_load ag23 rfl (cells_ext (by repeat (first | exact List.mem_cons_self | apply List.mem_cons_of_mem | apply List.mem_append_right)) (by repeat (first | exact Ext.all _ | exact Ext.done | apply Ext.take | apply Ext.skip)))) ?_
    refine dr_mem0 rfl rfl (wtd_none rfl) (x_loadN ag55 sz55 rfl (cells_ext (by repeat (first | exact List.mem_cons_self | apply List.mem_cons_of_mem | apply List.mem_append_right)) (by repeat (first | exact Ext.all _ | exact Ext.done | apply Ext.take | apply Ext.skip))) rfl) ?_
    refine dr_effC rfl (V := []) rfl (L' := []) (clear_all rfl) rfl (wtd_none rfl) rfl rfl rfl rfl cl41 (AC.sub Sub.autoP (prel_s p a cap S.length S ver E (plnB y p isl at_ (.slice ao cs.length co) :: (r1_5, .cells (PSpan.cells ⟨x.plan, x.plan + x.limit, x.width⟩).toArray 55 (0, 0)) :: (r0_0, .cells (Item.cells x).toArray 66 (0, 0)) :: (EO ++ G)) V rfl (by omega) now f hrep hrng (by omega) (by omega) ⟨x.plan, x.plan + x.limit, x.width⟩ (by dsimp only; omega))) ?_
    rintro _ _ ⟨e1, c1, S1, a1, cp1, E1, rfl, hC1, hR1, hl1, V1, rfl⟩
    have hs1 := V1.slv' (W0 := W0) (fun _ => rfl) rfl (Sub.refl _)
    have hrng1 := addC_rng hrep hnw hrng hC1
    have hps1 := rep_pos hR1
    have hvv1 : ver ≤ (if c1 = true then ver + 1 else ver) ∧ (if c1 = true then ver + 1 else ver) ≤ ver + 1 := by split <;> omega
    refine dr_cmp rfl rfl (wtd_none rfl) (x_ne rfl rfl) (fun h2 => ?_) (fun h2 => ?_)
    · refine dr_nil0 ?_
      refine aw_keep (keep_cons (t := 0) rfl (keep_cons (t := 3) rfl (keep_cons (t := 4) rfl (keep_cons (t := 5) rfl (keep_cons (t := 20) rfl keep_nil))))) ?_
      refine aw_true rfl ?_
      refine aw_ret ?_
      show ∃ v H2, ResV _ _ _ _ _ _ v ∧ Sub H2 _ ∧ _
      first | exact ⟨_, (plnB y p isl at_ (.slice ao cs.length co) :: prB p (.slice a S.length cap) ver :: (E ++ (EO ++ G))), resV rfl .nil, Sub.autoD, f, none, S, ver, a, cap, E, cs, ao, co, EO, rfl, .free hpl hE (by omega), hrep, hrng, by omega, by omega, by omega, by simp, V, VO, rfl⟩ | (obtain rfl : c1 = false := addC_bad hC1 (by assumption)); exact ⟨_, (plnB y p isl at_ (.slice ao cs.length co) :: prB p (.slice a1 S1.length cp1) ver :: (E1 ++ (EO ++ G))), resV rfl .nil, Sub.autoD, f, none, S1, ver, a1, cp1, E1, cs, ao, co, EO, rfl, .stuck hpl hC1 (by assumption), hR1, hrng, by omega, by omega, by omega, by simp, V1, VO, rfl⟩ | exact ⟨_, (plnB y p isl at_ (.slice ao cs.length co) :: prB p (.slice a2 S2.length cp2) (if c2 = true then (if c1 = true then ver + 1 else ver) + 1 else (if c1 = true then ver + 1 else ver)) :: (E2 ++ (EO ++ G))), resV rfl .nil, Sub.autoD, _, none, S2, (if c2 = true then (if c1 = true then ver + 1 else ver) + 1 else (if c1 = true then ver + 1 else ver)), a2, cp2, E2, cs, ao, co, EO, rfl, .keep hpl hC1 hE (by omega) hC2, hR2, hrng2, by omega, by omega, by omega, by simp, V2, VO, rfl⟩ | exact ⟨_, (plnB y p isl at_ (.slice ao9 (cs.length + 1) co9) :: prB p (.slice a2 S2.length cp2) (if c2 = true then (if c1 = true then ver + 1 else ver) + 1 else (if c1 = true then ver + 1 else ver)) :: (E2 ++ (E79 ++ G))), resV rfl .nil, Sub.autoD, _, some ⟨x.id, t⟩, S2, (if c2 = true then (if c1 = true then ver + 1 else ver) + 1 else (if c1 = true then ver + 1 else ver)), a2, cp2, E2, cs ++ [⟨x.id, t⟩], ao9, co9, E79, rfl, .move hpl hC1 hE (by omega) hC2, hR2, hrng2, by omega, by omega, by omega, rfl, V2, OwnVec.snocS hV79, (by rw [List.length_append]; rfl)⟩ | exact ⟨_, (plnB y p isl at_ (.slice ao9 (cs.length + 1) co9) :: prB p (.slice a2 S2.length cp2) (if c2 = true then ver + 1 else ver) :: (E2 ++ (E79 ++ G))), resV rfl .nil, Sub.autoD, _, some ⟨x.id, t⟩, S2, (if c2 = true then ver + 1 else ver), a2, cp2, E2, cs ++ [⟨x.id, t⟩], ao9, co9, E79, rfl, .take hpl hE hC2, hR2, hrng2, by omega, by omega, by omega, rfl, V2, OwnVec.snocS hV79, (by rw [List.length_append]; rfl)⟩
    · refine dr_nil0 ?_
      refine aw_keep (keep_cons (t := 0) rfl (keep_cons (t := 3) rfl (keep_cons (t := 4) rfl (keep_cons (t := 5) rfl (keep_cons (t := 20) rfl keep_nil))))) ?_
      refine aw_false rfl ?_
      refine aw_skip ?_
      show AW _ _ _ _ _ _ _
      refine aw_seq_dr ⟨_, 19, 82, [[], [0], [0, 1], [0, 1, 2], [], [4], [4, 5], [4, 5, 6], [4, 5, 6, 7], [], [9], [], [11], [0, 1, 2, 3, 4, 5, 6, 7, 8, 9, 10, 11, 12], [0, 1, 2, 3, 4, 5, 6, 7, 8, 9, 10, 11, 12, 13], [0, 1, 2, 3, 4, 5, 6, 7, 8, 9, 10, 11, 12, 13, 14], [0, 1, 2, 3, 4, 5, 6, 7, 8, 9, 10, 11, 12, 13, 14], [0, 1, 2, 3, 4, 5, 6, 7, 8, 9, 10, 11, 12, 13, 14, 15], [0, 1, 2, 3, 4, 5, 6, 7, 8, 9, 10, 11, 12, 13, 14, 15, 16, 17]], [.light, .light, .light, .mem, .light, .light, .light, .mem, .call, .light, .mem, .light, .mem, .eff, .light, .light, .light, .light, .light]⟩ (by kernel_rfl) rfl rfl mix ?_
      first | obtain rfl : e1 = 0 := by omega | skip
      refine dr_light rfl rfl (wtd_none rfl) (x_move rfl) ?_
      refine dr_light rfl rfl (wtd_none rfl) (x_nilCheck rfl) ?_
      refine dr_light rfl rfl (wtd_none rfl) (x_fieldAddr fd145_0 rfl) ?_
      refine dr_mem0 rfl rfl (wtd_none rfl) (x_load ag23 rfl (cells_ext (by repeat (first | exact List.mem_cons_self | apply List.mem_cons_of_mem | apply List.mem_append_right)) (by repeat (first | exact Ext.all _ | exact Ext.done | apply Ext.take | apply Ext.skip)))) ?_
      refine dr_light rfl rfl (wtd_none rfl) (x_move rfl) ?_
      refine dr_light rfl rfl (wtd_none rfl) (x_nilCheck rfl) ?_
      refine dr_light rfl rfl (wtd_none rfl) (x_fieldAddr fd145_0 rfl) ?_
      refine dr_mem0 rfl rfl (wtd_none rfl) (x_load ag23 rfl (cells_ext (by repeat (first | exact List.mem_cons_self | apply List.mem_cons_of_mem | apply List.mem_append_right)) (by repeat (first | exact Ext.all _ | exact Ext.done | apply Ext.take | apply Ext.skip)))) ?_
      refine dr_callq0 rfl rfl (wtd_none rfl) (opS_F rfl rfl rfl rfl cl28 ((pnowR_s p a1 cp1 S1 (if c1 = true then ver + 1 else ver) _ (cells_ext (by repeat (first | exact List.mem_cons_self | apply List.mem_cons_of_mem | apply List.mem_append_right)) (by repeat (first | exact Ext.all _ | exact Ext.done | apply Ext.take | apply Ext.skip))) (hs1.mono (Sub.takeE0 (by repeat (first | exact TakeE.here | apply TakeE.there | apply TakeE.app)))) now (aft c1 f (addF f now x.plan (x.plan + x.limit) x.width)) hR1))) (⟨_, rfl⟩) ?_
      rintro _ rfl
      refine dr_light rfl rfl (wtd_none rfl) (x_fieldAddr fd66_2 rfl) ?_
      refine dr_mem0 rfl rfl (wtd_none rfl) (x_load ag2 rfl (cells_ext (by repeat (first | exact List.mem_cons_self | apply List.mem_cons_of_mem | apply List.mem_append_right)) (by repeat (first | exact Ext.all _ | exact Ext.done | apply Ext.take | apply Ext.skip)))) ?_
      refine dr_light rfl rfl (wtd_none rfl) (x_fieldAddr fd66_1 rfl) ?_
      refine dr_mem0 rfl rfl (wtd_none rfl) (x_load ag3 rfl (cells_ext (by repeat (first | exact List.mem_cons_self | apply List.mem_cons_of_mem | apply List.mem_append_right)) (by repeat (first | exact Ext.all _ | exact Ext.done | apply Ext.take | apply Ext.skip)))) ?_
      refine dr_effC rfl (V := []) rfl (L' := []) (clear_all rfl) rfl (wtd_none rfl) rfl rfl rfl rfl cl24 (pear_s p a1 cp1 S1 (if c1 = true then ver + 1 else ver) _ (cells_ext (by repeat (first | exact List.mem_cons_self | apply List.mem_cons_of_mem | apply List.mem_append_right)) (by repeat (first | exact Ext.all _ | exact Ext.done | apply Ext.take | apply Ext.skip))) (hs1.mono (Sub.takeE0 (by repeat (first | exact TakeE.here | apply TakeE.there | apply TakeE.app)))) now (aft c1 f (addF f now x.plan (x.plan + x.limit) x.width)) hR1 (by omega) hnw.1 now x.limit x.width) ?_
      rintro _ _ ⟨⟨t, e, rfl, hE⟩, rfl⟩
      refine dr_light rfl rfl (wtd_none rfl) (x_move rfl) ?_
      refine dr_light rfl rfl (wtd_none rfl) (x_extract rfl rfl) ?_
      refine dr_light rfl rfl (wtd_none rfl) (x_extract rfl rfl) ?_
      refine dr_light rfl rfl (wtd_none rfl) (x_assign rfl) ?_
      refine dr_light rfl rfl (wtd_none rfl) (x_assign rfl) ?_
      refine dr_nil0 ?_
      refine aw_keep (keep_cons (t := 0) rfl (keep_cons (t := 3) rfl (keep_cons (t := 4) rfl (keep_cons (t := 5) rfl (keep_cons (t := 6) rfl (keep_cons (t := 7) rfl keep_nil)))))) ?_
      refine aw_seq ?_
      refine aw_seq_region ?_
      refine sr_x rfl (wtd_none rfl) rfl (Rd.x (x_move rfl)) ?_
      refine sr_cmp rfl (wtd_none rfl) rfl (Rd.x (x_ne rfl rfl)) (fun h3 => ?_) (fun h3 => ?_)
      · refine sr_x rfl (wtd_none rfl) rfl (Rd.x (x_move rfl)) ?_
        refine sr_skip rfl (wtd_no rfl rfl rfl rfl) rfl ?_
        refine sr_skip rfl (wtd_no rfl rfl rfl rfl) rfl ?_
        refine sr_skip rfl (wtd_un rfl rfl rfl) rfl ?_
        refine sr_skip rfl (wtd_un rfl rfl rfl) rfl ?_
        refine sr_skip rfl (wtd_un rfl rfl rfl) rfl ?_
        refine sr_skip rfl (wtd_un rfl rfl rfl) rfl ?_
        refine sr_skip rfl (wtd_no rfl rfl rfl rfl) rfl ?_
        refine sr_x rfl (wtd_none rfl) rfl (Rd.x (x_pick_t rfl rfl rfl)) ?_
        refine sr_nil ?_
        refine aw_keep (keep_cons (t := 0) rfl (keep_cons (t := 3) rfl (keep_cons (t := 4) rfl (keep_cons (t := 5) rfl (keep_cons (t := 6) rfl (keep_cons (t := 48) rfl keep_nil)))))) ?_
        refine aw_true rfl ?_
        refine aw_seq ?_
        refine aw_seq_region ?_
        refine sr_x rfl (wtd_none rfl) rfl (Rd.x (x_move rfl)) ?_
        refine sr_nil ?_
        refine aw_keep (keep_cons (t := 0) rfl (keep_cons (t := 3) rfl (keep_cons (t := 4) rfl (keep_cons (t := 6) rfl (keep_cons (t := 49) rfl keep_nil))))) ?_
        refine aw_true rfl ?_
        refine aw_dr ⟨_, 6, 82, [[], [0], [0, 1], [0, 1, 2], [], [0, 1, 2, 3, 4]], [.light, .light, .light, .mem, .mem, .eff]⟩ (by kernel_rfl) rfl rfl mix ?_
        refine dr_light rfl rfl (wtd_none rfl) (x_move rfl) ?_
        refine dr_light rfl rfl (wtd_none rfl) (x_nilCheck rfl) ?_
        refine dr_light rfl rfl (wtd_none rfl) (x_fieldAddr fd145_0 rfl) ?_
        refine dr_mem0 rfl rfl (wtd_none rfl) (x_load ag23 rfl (cells_ext (by repeat (first | exact List.mem_cons_self | apply List.mem_cons_of_mem | apply List.mem_append_right)) (by repeat (first | exact Ext.all _ | exact Ext.done | apply Ext.take | apply Ext.skip)))) ?_
        refine dr_mem0 rfl rfl (wtd_none rfl) (x_loadN ag55 sz55 rfl (cells_ext (by repeat (first | exact List.mem_cons_self | apply List.mem_cons_of_mem | apply List.mem_append_right)) (by repeat (first | exact Ext.all _ | exact Ext.done | apply Ext.take | apply Ext.skip))) rfl) ?_
        refine dr_effC rfl (V := []) rfl (L' := []) (clear_all rfl) rfl (wtd_none rfl) rfl rfl rfl rfl cl40 (AC.sub Sub.autoP (pres_s p a1 cp1 S1.length S1 (if c1 = true then ver + 1 else ver) E1 (plnB y p isl at_ (.slice ao cs.length co) :: (r1_5, .cells (PSpan.cells ⟨x.plan, x.plan + x.limit, x.width⟩).toArray 55 (0, 0)) :: (r0_0, .cells (Item.cells x).toArray 66 (0, 0)) :: (EO ++ G)) V1 rfl (by omega) now (aft c1 f (addF f now x.plan (x.plan + x.limit) x.width)) hR1 hrng1 (by omega) (by omega) ⟨x.plan, x.plan + x.limit, x.width⟩ (by dsimp only; omega))) ?_
        rintro _ _ ⟨e2, c2, S2, a2, cp2, E2, rfl, hC2, hR2, hl2, V2, rfl⟩
        have hs2 := V2.slv' (W0 := W0) (fun _ => rfl) rfl (Sub.refl _)
        have hrng2 := addC_rng hR1 hnw hrng1 hC2
        have hps2 := rep_pos hR2
        have hvv2 : (if c1 = true then ver + 1 else ver) ≤ (if c2 = true then (if c1 = true then ver + 1 else ver) + 1 else (if c1 = true then ver + 1 else ver)) ∧ (if c2 = true then (if c1 = true then ver + 1 else ver) + 1 else (if c1 = true then ver + 1 else ver)) ≤ (if c1 = true then ver + 1 else ver) + 1 := by split <;> omega
        refine dr_nil0 ?_
        show AW _ _ _ _ _ _ _
        refine aw_ret ?_
        show ∃ v H2, ResV _ _ _ _ _ _ v ∧ Sub H2 _ ∧ _
        first | exact ⟨_, (plnB y p isl at_ (.slice ao cs.length co) :: prB p (.slice a S.length cap) ver :: (E ++ (EO ++ G))), resV rfl .nil, Sub.autoD, f, none, S, ver, a, cap, E, cs, ao, co, EO, rfl, .free hpl hE (by omega), hrep, hrng, by omega, by omega, by omega, by simp, V, VO, rfl⟩ | (obtain rfl : c1 = false := addC_bad hC1 (by assumption)); exact ⟨_, (plnB y p isl at_ (.slice ao cs.length co) :: prB p (.slice a1 S1.length cp1) ver :: (E1 ++ (EO ++ G))), resV rfl .nil, Sub.autoD, f, none, S1, ver, a1, cp1, E1, cs, ao, co, EO, rfl, .stuck hpl hC1 (by assumption), hR1, hrng, by omega, by omega, by omega, by simp, V1, VO, rfl⟩ | exact ⟨_, (plnB y p isl at_ (.slice ao cs.length co) :: prB p (.slice a2 S2.length cp2) (if c2 = true then (if c1 = true then ver + 1 else ver) + 1 else (if c1 = true then ver + 1 else ver)) :: (E2 ++ (EO ++ G))), resV rfl .nil, Sub.autoD, _, none, S2, (if c2 = true then (if c1 = true then ver + 1 else ver) + 1 else (if c1 = true then ver + 1 else ver)), a2, cp2, E2, cs, ao, co, EO, rfl, .keep hpl hC1 hE (by omega) hC2, hR2, hrng2, by omega, by omega, by omega, by simp, V2, VO, rfl⟩ | exact ⟨_, (plnB y p isl at_ (.slice ao9 (cs.length + 1) co9) :: prB p (.slice a2 S2.length cp2) (if c2 = true then (if c1 = true then ver + 1 else ver) + 1 else (if c1 = true then ver + 1 else ver)) :: (E2 ++ (E79 ++ G))), resV rfl .nil, Sub.autoD, _, some ⟨x.id, t⟩, S2, (if c2 = true then (if c1 = true then ver + 1 else ver) + 1 else (if c1 = true then ver + 1 else ver)), a2, cp2, E2, cs ++ [⟨x.id, t⟩], ao9, co9, E79, rfl, .move hpl hC1 hE (by omega) hC2, hR2, hrng2, by omega, by omega, by omega, rfl, V2, OwnVec.snocS hV79, (by rw [List.length_append]; rfl)⟩ | exact ⟨_, (plnB y p isl at_ (.slice ao9 (cs.length + 1) co9) :: prB p (.slice a2 S2.length cp2) (if c2 = true then ver + 1 else ver) :: (E2 ++ (E79 ++ G))), resV rfl .nil, Sub.autoD, _, some ⟨x.id, t⟩, S2, (if c2 = true then ver + 1 else ver), a2, cp2, E2, cs ++ [⟨x.id, t⟩], ao9, co9, E79, rfl, .take hpl hE hC2, hR2, hrng2, by omega, by omega, by omega, rfl, V2, OwnVec.snocS hV79, (by rw [List.length_append]; rfl)⟩
      · refine sr_x rfl (wtd_none rfl) rfl (Rd.x (x_move rfl)) ?_
        refine sr_x rfl (wtd_yes rfl rfl rfl) rfl (Rd.x (x_move rfl)) ?_
        refine sr_x rfl (wtd_yes rfl rfl rfl) rfl (Rd.x (x_move rfl)) ?_
        refine sr_x rfl (wtd_yes rfl rfl rfl) rfl (Rd.x (x_move rfl)) ?_
        refine sr_x rfl (wtd_yes rfl rfl rfl) rfl (Rd.x (x_fieldAddr fd66_3 rfl)) ?_
        refine sr_x rfl (wtd_yes rfl rfl rfl) rfl (Rd.x (x_load ag2 rfl (cells_ext (by repeat (first | exact List.mem_cons_self | apply List.mem_cons_of_mem | apply List.mem_append_right)) (by repeat (first | exact Ext.all _ | exact Ext.done | apply Ext.take | apply Ext.skip))))) ?_
        refine sr_cmp rfl (wtd_yes rfl rfl rfl) rfl (Rd.x (x_ge rfl rfl)) (fun h4 => ?_) (fun h4 => ?_)
        · refine sr_x rfl (wtd_yes rfl rfl rfl) rfl (Rd.x (x_pick_t rfl rfl rfl)) ?_
          refine sr_x rfl (wtd_none rfl) rfl (Rd.x (x_pick_f rfl rfl rfl)) ?_
          refine sr_nil ?_
          refine aw_keep (keep_cons (t := 0) rfl (keep_cons (t := 3) rfl (keep_cons (t := 4) rfl (keep_cons (t := 5) rfl (keep_cons (t := 6) rfl (keep_cons (t := 48) rfl keep_nil)))))) ?_
          refine aw_true rfl ?_
          refine aw_seq ?_
          refine aw_seq_region ?_
          refine sr_x rfl (wtd_none rfl) rfl (Rd.x (x_move rfl)) ?_
          refine sr_nil ?_
          refine aw_keep (keep_cons (t := 0) rfl (keep_cons (t := 3) rfl (keep_cons (t := 4) rfl (keep_cons (t := 6) rfl (keep_cons (t := 49) rfl keep_nil))))) ?_
          refine aw_true rfl ?_
          refine aw_dr ⟨_, 6, 82, [[], [0], [0, 1], [0, 1, 2], [], [0, 1, 2, 3, 4]], [.light, .light, .light, .mem, .mem, .eff]⟩ (by kernel_rfl) rfl rfl mix ?_
          refine dr_light rfl rfl (wtd_none rfl) (x_move rfl) ?_
          refine dr_light rfl rfl (wtd_none rfl) (x_nilCheck rfl) ?_
          refine dr_light rfl rfl (wtd_none rfl) (x_fieldAddr fd145_0 rfl) ?_
          refine dr_mem0 rfl rfl (wtd_none rfl) (x_load ag23 rfl (cells_ext (by repeat (first | exact List.mem_cons_self | apply List.mem_cons_of_mem | apply List.mem_append_right)) (by repeat (first | exact Ext.all _ | exact Ext.done | apply Ext.take | apply Ext.skip)))) ?_
          refine dr_mem0 rfl rfl (wtd_none rfl) (x_loadN ag55 sz55 rfl (cells_ext (by repeat (first | exact List.mem_cons_self | apply List.mem_cons_of_mem | apply List.mem_append_right)) (by repeat (first | exact Ext.all _ | exact Ext.done | apply Ext.take | apply Ext.skip))) rfl) ?_
          refine dr_effC rfl (V := []) rfl (L' := []) (clear_all rfl) rfl (wtd_none rfl) rfl rfl rfl rfl cl40 (AC.sub Sub.autoP (pres_s p a1 cp1 S1.length S1 (if c1 = true then ver + 1 else ver) E1 (plnB y p isl at_ (.slice ao cs.length co) :: (r1_5, .cells (PSpan.cells ⟨x.plan, x.plan + x.limit, x.width⟩).toArray 55 (0, 0)) :: (r0_0, .cells (Item.cells x).toArray 66 (0, 0)) :: (EO ++ G)) V1 rfl (by omega) now (aft c1 f (addF f now x.plan (x.plan + x.limit) x.width)) hR1 hrng1 (by omega) (by omega) ⟨x.plan, x.plan + x.limit, x.width⟩ (by dsimp only; omega))) ?_
          rintro _ _ ⟨e2, c2, S2, a2, cp2, E2, rfl, hC2, hR2, hl2, V2, rfl⟩
          have hs2 := V2.slv' (W0 := W0) (fun _ => rfl) rfl (Sub.refl _)
          have hrng2 := addC_rng hR1 hnw hrng1 hC2
          have hps2 := rep_pos hR2
          have hvv2 : (if c1 = true then ver + 1 else ver) ≤ (if c2 = true then (if c1 = true then ver + 1 else ver) + 1 else (if c1 = true then ver + 1 else ver)) ∧ (if c2 = true then (if c1 = true then ver + 1 else ver) + 1 else (if c1 = true then ver + 1 else ver)) ≤ (if c1 = true then ver + 1 else ver) + 1 := by split <;> omega
          refine dr_nil0 ?_
          show AW _ _ _ _ _ _ _
          refine aw_ret ?_
          show ∃ v H2, ResV _ _ _ _ _ _ v ∧ Sub H2 _ ∧ _
          first | exact ⟨_, (plnB y p isl at_ (.slice ao cs.length co) :: prB p (.slice a S.length cap) ver :: (E ++ (EO ++ G))), resV rfl .nil, Sub.autoD, f, none, S, ver, a, cap, E, cs, ao, co, EO, rfl, .free hpl hE (by omega), hrep, hrng, by omega, by omega, by omega, by simp, V, VO, rfl⟩ | (obtain rfl : c1 = false := addC_bad hC1 (by assumption)); exact ⟨_, (plnB y p isl at_ (.slice ao cs.length co) :: prB p (.slice a1 S1.length cp1) ver :: (E1 ++ (EO ++ G))), resV rfl .nil, Sub.autoD, f, none, S1, ver, a1, cp1, E1, cs, ao, co, EO, rfl, .stuck hpl hC1 (by assumption), hR1, hrng, by omega, by omega, by omega, by simp, V1, VO, rfl⟩ | exact ⟨_, (plnB y p isl at_ (.slice ao cs.length co) :: prB p (.slice a2 S2.length cp2) (if c2 = true then (if c1 = true then ver + 1 else ver) + 1 else (if c1 = true then ver + 1 else ver)) :: (E2 ++ (EO ++ G))), resV rfl .nil, Sub.autoD, _, none, S2, (if c2 = true then (if c1 = true then ver + 1 else ver) + 1 else (if c1 = true then ver + 1 else ver)), a2, cp2, E2, cs, ao, co, EO, rfl, .keep hpl hC1 hE (by omega) hC2, hR2, hrng2, by omega, by omega, by omega, by simp, V2, VO, rfl⟩ | exact ⟨_, (plnB y p isl at_ (.slice ao9 (cs.length + 1) co9) :: prB p (.slice a2 S2.length cp2) (if c2 = true then (if c1 = true then ver + 1 else ver) + 1 else (if c1 = true then ver + 1 else ver)) :: (E2 ++ (E79 ++ G))), resV rfl .nil, Sub.autoD, _, some ⟨x.id, t⟩, S2, (if c2 = true then (if c1 = true then ver + 1 else ver) + 1 else (if c1 = true then ver + 1 else ver)), a2, cp2, E2, cs ++ [⟨x.id, t⟩], ao9, co9, E79, rfl, .move hpl hC1 hE (by omega) hC2, hR2, hrng2, by omega, by omega, by omega, rfl, V2, OwnVec.snocS hV79, (by rw [List.length_append]; rfl)⟩ | exact ⟨_, (plnB y p isl at_ (.slice ao9 (cs.length + 1) co9) :: prB p (.slice a2 S2.length cp2) (if c2 = true then ver + 1 else ver) :: (E2 ++ (E79 ++ G))), resV rfl .nil, Sub.autoD, _, some ⟨x.id, t⟩, S2, (if c2 = true then ver + 1 else ver), a2, cp2, E2, cs ++ [⟨x.id, t⟩], ao9, co9, E79, rfl, .take hpl hE hC2, hR2, hrng2, by omega, by omega, by omega, rfl, V2, OwnVec.snocS hV79, (by rw [List.length_append]; rfl)⟩
        · refine sr_x rfl (wtd_yes rfl rfl rfl) rfl (Rd.x (x_pick_t rfl rfl rfl)) ?_
          refine sr_x rfl (wtd_none rfl) rfl (Rd.x (x_pick_f rfl rfl rfl)) ?_
          refine sr_nil ?_
          refine aw_keep (keep_cons (t := 0) rfl (keep_cons (t := 3) rfl (keep_cons (t := 4) rfl (keep_cons (t := 5) rfl (keep_cons (t := 6) rfl (keep_cons (t := 48) rfl keep_nil)))))) ?_
          refine aw_false rfl ?_
          refine aw_skip ?_
          show AW _ _ _ _ _ _ _
          refine aw_seq_dr ⟨_, 13, 82, [[], [0], [0, 1], [0, 1, 2], [], [], [], [6], [5, 6, 7], [], [9], [4, 5, 6, 7, 8, 9, 10], [0, 1, 2, 3, 4, 5, 6, 7, 8, 9, 10, 11]], [.light, .light, .light, .mem, .light, .light, .light, .mem, .light, .light, .mem, .light, .eff]⟩ (by kernel_rfl) rfl rfl mix ?_
          obtain rfl : e = 0 := by omega
          have htb := ear_bd hE
          refine dr_light rfl rfl (wtd_none rfl) (x_move rfl) ?_
          refine dr_light rfl rfl (wtd_none rfl) (x_nilCheck rfl) ?_
          refine dr_light rfl rfl (wtd_none rfl) (x_fieldAddr fd145_0 rfl) ?_
          refine dr_mem0 rfl rfl (wtd_none rfl) (x_load ag23 rfl (cells_ext (by repeat (first | exact List.mem_cons_self | apply List.mem_cons_of_mem | apply List.mem_append_right)) (by repeat (first | exact Ext.all _ | exact Ext.done | apply Ext.take | apply Ext.skip)))) ?_
          refine dr_light rfl rfl (wtd_none rfl) (x_move rfl) ?_
          refine dr_light rfl rfl (wtd_none rfl) (x_move rfl) ?_
          refine dr_light rfl rfl (wtd_none rfl) (x_fieldAddr fd66_2 rfl) ?_
          refine dr_mem0 rfl rfl (wtd_none rfl) (x_load ag2 rfl (cells_ext (by repeat (first | exact List.mem_cons_self | apply List.mem_cons_of_mem | apply List.mem_append_right)) (by repeat (first | exact Ext.all _ | exact Ext.done | apply Ext.take | apply Ext.skip)))) ?_
          refine dr_light rfl rfl (wtd_none rfl) (x_add' rfl rfl (i64w (by omega) (by omega))) ?_
          refine dr_light rfl rfl (wtd_none rfl) (x_fieldAddr fd66_1 rfl) ?_
          refine dr_mem0 rfl rfl (wtd_none rfl) (x_load ag3 rfl (cells_ext (by repeat (first | exact List.mem_cons_self | apply List.mem_cons_of_mem | apply List.mem_append_right)) (by repeat (first | exact Ext.all _ | exact Ext.done | apply Ext.take | apply Ext.skip)))) ?_
          refine dr_light rfl rfl (wtd_none rfl) (x_build zr55 rfl fl55 (by repeat (first | exact Parts.nil | (apply Parts.cons; rfl))) (by repeat (first | exact Fill.done | (apply Fill.part; rfl; rfl; rfl; focus (repeat (first | exact Spl.done | exact Spl.all rfl | apply Spl.put | apply Spl.skip)))))) ?_
          refine dr_effC rfl (V := []) rfl (L' := []) (clear_all rfl) rfl (wtd_none rfl) rfl rfl rfl rfl cl40 (AC.sub Sub.autoP (pres_s p a1 cp1 S1.length S1 (if c1 = true then ver + 1 else ver) E1 (plnB y p isl at_ (.slice ao cs.length co) :: (r1_5, .cells (PSpan.cells ⟨x.plan, x.plan + x.limit, x.width⟩).toArray 55 (0, 0)) :: (r0_0, .cells (Item.cells x).toArray 66 (0, 0)) :: (EO ++ G)) V1 rfl (by omega) now (aft c1 f (addF f now x.plan (x.plan + x.limit) x.width)) hR1 hrng1 (by omega) (by omega) ⟨t, t + x.limit, x.width⟩ (by dsimp only; omega))) ?_
          rintro _ _ ⟨e2, c2, S2, a2, cp2, E2, rfl, hC2, hR2, hl2, V2, rfl⟩
          have hs2 := V2.slv' (W0 := W0) (fun _ => rfl) rfl (Sub.refl _)
          have hrng2 := addC_rng hR1 hnw hrng1 hC2
          have hps2 := rep_pos hR2
          have hvv2 : (if c1 = true then ver + 1 else ver) ≤ (if c2 = true then (if c1 = true then ver + 1 else ver) + 1 else (if c1 = true then ver + 1 else ver)) ∧ (if c2 = true then (if c1 = true then ver + 1 else ver) + 1 else (if c1 = true then ver + 1 else ver)) ≤ (if c1 = true then ver + 1 else ver) + 1 := by split <;> omega
          refine dr_nil0 ?_
          refine aw_keep (keep_cons (t := 0) rfl (keep_cons (t := 3) rfl (keep_cons (t := 6) rfl keep_nil))) ?_
          refine aw_dr ⟨_, 14, 82, [[], [], [1], [1, 2], [1, 2, 3], [], [5], [], [5, 6, 7], [5, 6, 7, 8], [1, 2, 3, 4, 5, 6, 7, 8, 9], [0, 1, 2, 3, 4, 5, 6, 7, 8, 9, 10], [0, 1, 2, 3, 4, 5, 6, 7, 8, 9, 10, 11], [0, 1, 2, 3, 4, 5, 6, 7, 8, 9, 10, 11, 12]], [.light, .light, .light, .light, .mem, .light, .mem, .light, .light, .alloc, .eff, .light, .light, .eff]⟩ (by kernel_rfl) rfl rfl mix ?_
          refine dr_light rfl rfl (wtd_none rfl) (x_move rfl) ?_
          refine dr_light rfl rfl (wtd_none rfl) (x_move rfl) ?_
          refine dr_light rfl rfl (wtd_none rfl) (x_nilCheck rfl) ?_
          refine dr_light rfl rfl (wtd_none rfl) (x_fieldAddr fd145_3 rfl) ?_
          refine dr_mem0 rfl rfl (wtd_none rfl) (x_load ag61 rfl (cells_ext (by repeat (first | exact List.mem_cons_self | apply List.mem_cons_of_mem | apply List.mem_append_right)) (by repeat (first | exact Ext.all _ | exact Ext.done | apply Ext.take | apply Ext.skip)))) ?_
          refine dr_light rfl rfl (wtd_none rfl) (x_fieldAddr fd66_0 rfl) ?_
          refine dr_mem0 rfl rfl (wtd_none rfl) (x_load ag3 rfl (cells_ext (by repeat (first | exact List.mem_cons_self | apply List.mem_cons_of_mem | apply List.mem_append_right)) (by repeat (first | exact Ext.all _ | exact Ext.done | apply Ext.take | apply Ext.skip)))) ?_
          refine dr_light rfl rfl (wtd_none rfl) (x_move rfl) ?_
          refine dr_light rfl rfl (wtd_none rfl) (x_build zr80 rfl fl80 (by repeat (first | exact Parts.nil | (apply Parts.cons; rfl))) (by repeat (first | exact Fill.done | (apply Fill.part; rfl; rfl; rfl; focus (repeat (first | exact Spl.done | exact Spl.all rfl | apply Spl.put | apply Spl.skip)))))) ?_
          refine dr_alloc rfl rfl (wtd_none rfl) (x_buildSlice Try.underlying61 sz80 zr80 rfl rfl rfl rfl (by repeat (first | exact Parts.nil | (apply Parts.cons; rfl))) (by repeat (first | exact Fill.done | (apply Fill.part; rfl; rfl; rfl; focus (repeat (first | exact Spl.done | exact Spl.all rfl | apply Spl.put | apply Spl.skip)))))) ?_
          intro r9_9 hr9_9 gr9_9
          refine dr_eff rfl (V := [(r9_9, _)]) rfl (L' := []) (clear_all rfl) rfl (wtd_none rfl) (opSF_append (G := (r9_9, .cells (Choice.cells ⟨x.id, t⟩).toArray 80 (0, 0)) :: plnB y p isl at_ (.slice ao cs.length co) :: prB p (.slice a2 S2.length cp2) (if c2 = true then (if c1 = true then ver + 1 else ver) + 1 else (if c1 = true then ver + 1 else ver)) :: (E2 ++ ((r1_5, .cells (PSpan.cells ⟨x.plan, x.plan + x.limit, x.width⟩).toArray 55 (0, 0)) :: ((r0_0, .cells (Item.cells x).toArray 66 (0, 0)) :: G)))) (N := (Choice.cells ⟨x.id, t⟩)) (m := 1) Try.underlying61 sz80 zr80 rfl by80 rfl rfl VO Sub.autoP (.inr ⟨_, _, rfl, (cells_ext (by repeat (first | exact List.mem_cons_self | apply List.mem_cons_of_mem | apply List.mem_append_right)) (by repeat (first | exact Ext.all _ | exact Ext.done | apply Ext.take | apply Ext.skip)))⟩) (rfl) rfl (by omega) (by omega)) (append_fresh (G := (r9_9, .cells (Choice.cells ⟨x.id, t⟩).toArray 80 (0, 0)) :: plnB y p isl at_ (.slice ao cs.length co) :: prB p (.slice a2 S2.length cp2) (if c2 = true then (if c1 = true then ver + 1 else ver) + 1 else (if c1 = true then ver + 1 else ver)) :: (E2 ++ ((r1_5, .cells (PSpan.cells ⟨x.plan, x.plan + x.limit, x.width⟩).toArray 55 (0, 0)) :: ((r0_0, .cells (Item.cells x).toArray 66 (0, 0)) :: G)))) (N := (Choice.cells ⟨x.id, t⟩)) (m := 1) VO (rfl) (by omega) Sub.autoP) ?_
          rintro v79 _ ⟨E79, hV79, rfl⟩
          obtain ⟨ao9, co9, rfl⟩ := hV79.isSl
          refine dr_light rfl rfl (wtd_none rfl) (x_nilCheck rfl) ?_
          refine dr_light rfl rfl (wtd_none rfl) (x_fieldAddr fd145_3 rfl) ?_
          refine dr_store0 rfl rfl (wtd_none rfl) (x_store sz61 rfl rfl rfl rfl rfl (by repeat (first | exact Repl.here | apply Repl.there | apply Repl.app)) (by repeat (first | exact Spl.done | exact Spl.all rfl | apply Spl.put | apply Spl.skip))) (by first | rfl | simp [keys_append, keys_cons]) ?_
          refine dr_nil0 ?_
          show ∃ v H2, ResV _ _ _ _ _ _ v ∧ Sub H2 _ ∧ _
          first | exact ⟨_, (plnB y p isl at_ (.slice ao cs.length co) :: prB p (.slice a S.length cap) ver :: (E ++ (EO ++ G))), resV rfl .nil, Sub.autoD, f, none, S, ver, a, cap, E, cs, ao, co, EO, rfl, .free hpl hE (by omega), hrep, hrng, by omega, by omega, by omega, by simp, V, VO, rfl⟩ | (obtain rfl : c1 = false := addC_bad hC1 (by assumption)); exact ⟨_, (plnB y p isl at_ (.slice ao cs.length co) :: prB p (.slice a1 S1.length cp1) ver :: (E1 ++ (EO ++ G))), resV rfl .nil, Sub.autoD, f, none, S1, ver, a1, cp1, E1, cs, ao, co, EO, rfl, .stuck hpl hC1 (by assumption), hR1, hrng, by omega, by omega, by omega, by simp, V1, VO, rfl⟩ | exact ⟨_, (plnB y p isl at_ (.slice ao cs.length co) :: prB p (.slice a2 S2.length cp2) (if c2 = true then (if c1 = true then ver + 1 else ver) + 1 else (if c1 = true then ver + 1 else ver)) :: (E2 ++ (EO ++ G))), resV rfl .nil, Sub.autoD, _, none, S2, (if c2 = true then (if c1 = true then ver + 1 else ver) + 1 else (if c1 = true then ver + 1 else ver)), a2, cp2, E2, cs, ao, co, EO, rfl, .keep hpl hC1 hE (by omega) hC2, hR2, hrng2, by omega, by omega, by omega, by simp, V2, VO, rfl⟩ | exact ⟨_, (plnB y p isl at_ (.slice ao9 (cs.length + 1) co9) :: prB p (.slice a2 S2.length cp2) (if c2 = true then (if c1 = true then ver + 1 else ver) + 1 else (if c1 = true then ver + 1 else ver)) :: (E2 ++ (E79 ++ G))), resV rfl .nil, Sub.autoD, _, some ⟨x.id, t⟩, S2, (if c2 = true then (if c1 = true then ver + 1 else ver) + 1 else (if c1 = true then ver + 1 else ver)), a2, cp2, E2, cs ++ [⟨x.id, t⟩], ao9, co9, E79, rfl, .move hpl hC1 hE (by omega) hC2, hR2, hrng2, by omega, by omega, by omega, rfl, V2, OwnVec.snocS hV79, (by rw [List.length_append]; rfl)⟩ | exact ⟨_, (plnB y p isl at_ (.slice ao9 (cs.length + 1) co9) :: prB p (.slice a2 S2.length cp2) (if c2 = true then ver + 1 else ver) :: (E2 ++ (E79 ++ G))), resV rfl .nil, Sub.autoD, _, some ⟨x.id, t⟩, S2, (if c2 = true then ver + 1 else ver), a2, cp2, E2, cs ++ [⟨x.id, t⟩], ao9, co9, E79, rfl, .take hpl hE hC2, hR2, hrng2, by omega, by omega, by omega, rfl, V2, OwnVec.snocS hV79, (by rw [List.length_append]; rfl)⟩
end
end Go.Proofs.Ytjkojdjjooangaa
