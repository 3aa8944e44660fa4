/- Books of users: what New comes to, for any users. -/
import Derived.Test.YteilocpjikmmdaaQuo
import Derived.Test.YteilocpjikmmdaaSymMake
namespace Go.Proofs.Yteilocpjikmmdaa
open Go.Proofs.Yteilocpjikmmdaa.Sym
open Go.RowKit (Below)
set_option linter.unusedVariables false
set_option linter.unusedSimpArgs false
structure User where
  id : Int
  part : Int
  used : Int
@[reducible] def User.cells (j : User) : List Value := [.int .i64 j.id, .int .i64 j.part, .int .i64 j.used]
@[reducible] def User.v (j : User) : Value := .agg (User.cells j).toArray
def User.Wf (j : User) : Prop := IntKind.min .i64 ≤ j.id ∧ j.id ≤ IntKind.max .i64 ∧ IntKind.min .i64 ≤ j.part ∧ j.part ≤ IntKind.max .i64 ∧ IntKind.min .i64 ≤ j.used ∧ j.used ≤ IntKind.max .i64
theorem all_drop {L : List Value} {k : Nat} (h : L.all oneCell = true) : (L.drop k).all oneCell = true := List.all_eq_true.2 fun v hv => List.all_eq_true.1 h v (List.mem_of_mem_drop hv)
theorem ins_len {L N : List Value} {i n s : Nat} (hL : L.length = n * s) (hN : N.length = s) (hi : i ≤ n) : (L.take (i * s) ++ N ++ L.drop (i * s)).length = (n + 1) * s := by
  have h1 : i * s ≤ n * s := Nat.mul_le_mul_right _ hi
  rw [List.length_append, List.length_append, List.length_take, List.length_drop, hL, hN, Nat.add_mul, Nat.one_mul]; omega
theorem wf_ne {W0 : World} {b r : Nat} {o p : Obj} {G : SHeap} (h : Wf W0 ((b, o) :: (r, p) :: G)) : b ≠ r := by
  have := h.1
  rw [keys_cons, keys_cons, List.nodup_cons] at this
  intro e; subst e; exact this.1 List.mem_cons_self
theorem cells_lt {W0 : World} {H : SHeap} {b : Nat} {L post : List Value} {e : TypeId} {fz : Nat × Nat} (hm : (b, Obj.cells (L ++ post).toArray e fz) ∈ H) (k : Nat) : Cells W0 H b 0 (L.take k) :=
  ⟨_, e, fz, fun hw => hw.obj hm, fun j v hv => by
    rw [List.getElem?_take] at hv
    split at hv
    · rw [List.getElem?_toArray, Nat.zero_add, List.getElem?_append_left (get_lt hv)]; exact hv
    · cases hv⟩
theorem cells_ld {W0 : World} {H : SHeap} {b : Nat} {L post : List Value} {e : TypeId} {fz : Nat × Nat} (hm : (b, Obj.cells (L ++ post).toArray e fz) ∈ H) (k : Nat) : Cells W0 H b (0 + k) (L.drop k) :=
  ⟨_, e, fz, fun hw => hw.obj hm, fun j v hv => by
    rw [List.getElem?_drop] at hv
    rw [List.getElem?_toArray, Nat.zero_add, List.getElem?_append_left (get_lt hv)]; exact hv⟩
theorem shr1 (i j : Nat) : Value.int .u64 (((i : Int) + j).fdiv (2 ^ (min (1 : Int).toNat (IntKind.bits .u64)))) = .int .u64 (((i + j) / 2 : Nat) : Int) := by
  congr 1
  rw [show (2 : Int) ^ (min (1 : Int).toNat (IntKind.bits .u64)) = 2 from rfl, Int.fdiv_eq_ediv_of_nonneg _ (by omega)]; omega
theorem bs_lo {α : Type} {xs : List α} {c : α → Int} {m : Nat} {x : α} (hx : xs[m]? = some x) (hmono : ∀ (i j : Nat) (x y : α), i ≤ j → xs[i]? = some x → xs[j]? = some y → 0 ≤ c x → 0 ≤ c y) (h : c x < 0) : ∀ k y, k < m + 1 → xs[k]? = some y → c y < 0 := by
  intro k y hk hy
  rcases Int.lt_or_le (c y) 0 with h1 | h1
  · exact h1
  · have := hmono k m y x (by omega) hy hx h1
    omega
theorem bs_hi {α : Type} {xs : List α} {c : α → Int} {m : Nat} {x : α} (hx : xs[m]? = some x) (hmono : ∀ (i j : Nat) (x y : α), i ≤ j → xs[i]? = some x → xs[j]? = some y → 0 ≤ c x → 0 ≤ c y) (h : 0 ≤ c x) : ∀ k y, m ≤ k → xs[k]? = some y → 0 ≤ c y :=
  fun k y hk hy => hmono m k x y hk hx hy h
def cmpI (a b : Int) : Int := if a < b then -1 else if b < a then 1 else 0
theorem cmpI_lt {a b : Int} : cmpI a b < 0 ↔ a < b := by unfold cmpI; split <;> (try split) <;> omega
theorem cmpI_ge {a b : Int} : 0 ≤ cmpI a b ↔ b ≤ a := by unfold cmpI; split <;> (try split) <;> omega
theorem cmpI_eq {a b : Int} : cmpI a b = 0 ↔ a = b := by unfold cmpI; split <;> (try split) <;> omega
abbrev URight (u : User) : Prop := (0 ≤ u.id ∧ u.id ≤ 255) ∧ (1 ≤ u.part ∧ u.part ≤ 1000) ∧ (0 ≤ u.used ∧ u.used ≤ 1125899906842624)
def Srt (us : List User) : Prop := us.Pairwise fun x y => x.id < y.id
theorem srt_le {us : List User} (h : Srt us) {i j : Nat} {x y : User} (hij : i ≤ j) (hx : us[i]? = some x) (hy : us[j]? = some y) : x.id ≤ y.id := by
  rcases Nat.lt_or_eq_of_le hij with h1 | rfl
  · have hi := get_lt hx
    have hj := get_lt hy
    have h2 := (List.pairwise_iff_getElem.1 h) i j hi hj h1
    rw [List.getElem?_eq_getElem hi] at hx
    rw [List.getElem?_eq_getElem hj] at hy
    cases hx; cases hy
    exact Int.le_of_lt h2
  · rw [hx] at hy; cases hy; exact Int.le_refl _
def insU (us : List User) (i : Nat) (u : User) : List User := us.take i ++ u :: us.drop i
theorem insU_cells (us : List User) (i : Nat) (u : User) : (us.flatMap User.cells).take (i * 3) ++ u.cells ++ (us.flatMap User.cells).drop (i * 3) = (insU us i u).flatMap User.cells := by
  unfold insU
  have h : ∀ (us : List User) (i : Nat), (us.flatMap User.cells).take (i * 3) = (us.take i).flatMap User.cells ∧ (us.flatMap User.cells).drop (i * 3) = (us.drop i).flatMap User.cells := by
    intro us
    induction us with
    | nil => intro i; simp
    | cons x us ih =>
      intro i
      cases i with
      | zero => simp
      | succ i =>
        have e : (i + 1) * 3 = x.cells.length + i * 3 := by rw [show x.cells.length = 3 from rfl]; omega
        rw [List.flatMap_cons, e, List.take_length_add_append, List.drop_length_add_append, (ih i).1, (ih i).2]
        simp
  rw [(h us i).1, (h us i).2, List.flatMap_append, List.flatMap_cons, List.append_assoc]
/-- Where a user stands, or would stand. -/
def At (us : List User) (id : Int) (i : Nat) : Prop := i ≤ us.length ∧ (∀ k x, k < i → us[k]? = some x → x.id < id) ∧ (∀ k x, i ≤ k → us[k]? = some x → id ≤ x.id)
theorem At.uniq {us : List User} {id : Int} {i j : Nat} (h : At us id i) (k : At us id j) : i = j := by
  rcases Nat.lt_trichotomy i j with h1 | h1 | h1
  · have hl := k.1
    obtain ⟨x, hx⟩ := get_ex (show i < us.length by omega)
    have a := h.2.2 i x (Nat.le_refl _) hx
    have b := k.2.1 i x h1 hx
    omega
  · exact h1
  · have hl := h.1
    obtain ⟨x, hx⟩ := get_ex (show j < us.length by omega)
    have a := k.2.2 j x (Nat.le_refl _) hx
    have b := h.2.1 j x h1 hx
    omega
theorem srt_ins {us : List User} {u : User} {i : Nat} (h : Srt us) (ha : At us u.id i) (hn : ∀ x ∈ us, x.id ≠ u.id) : Srt (insU us i u) := by
  unfold insU Srt
  rw [List.pairwise_append, List.pairwise_cons]
  refine ⟨h.sublist (List.take_sublist _ _), ⟨fun x hx => ?_, h.sublist (List.drop_sublist _ _)⟩, fun x hx y hy => ?_⟩
  · obtain ⟨k, hk⟩ := List.getElem?_of_mem hx
    rw [List.getElem?_drop] at hk
    have h1 := ha.2.2 (i + k) x (by omega) hk
    have h2 := hn x (List.mem_of_getElem? hk)
    omega
  · obtain ⟨k, hk⟩ := List.getElem?_of_mem hx
    rw [List.getElem?_take] at hk
    split at hk
    · next hki =>
      have h1 := ha.2.1 k x hki hk
      rcases List.mem_cons.1 hy with rfl | hy
      · exact h1
      · obtain ⟨m, hm⟩ := List.getElem?_of_mem hy
        rw [List.getElem?_drop] at hm
        have h2 := ha.2.2 (i + m) y (by omega) hm
        omega
    · cases hk
/-- What putting one user in comes to. -/
inductive AddU (us : List User) (u : User) : Int → List User → Prop
  | bad (h : ¬ URight u) : AddU us u 5 us
  | twice (h : URight u) (h2 : ∃ x ∈ us, x.id = u.id) : AddU us u 13 us
  | ok {i : Nat} (h : URight u) (h2 : ∀ x ∈ us, x.id ≠ u.id) (h3 : At us u.id i) : AddU us u 0 (insU us i u)
inductive AddAll : List User → List User → Int → List User → Prop
  | done {us : List User} : AddAll us [] 0 us
  | stop {us us' l : List User} {u : User} {e : Int} (h : AddU us u e us') (he : e ≠ 0) : AddAll us (u :: l) e us
  | next {us us' us'' l : List User} {u : User} {e : Int} (h : AddU us u 0 us') (k : AddAll us' l e us'') : AddAll us (u :: l) e us''
theorem AddU.det {us a b : List User} {u : User} {e f : Int} (h : AddU us u e a) (k : AddU us u f b) : e = f ∧ a = b := by
  cases h with
  | bad h =>
    cases k with
    | bad _ => exact ⟨rfl, rfl⟩
    | twice h' _ => exact absurd h' h
    | ok h' _ _ => exact absurd h' h
  | twice h h2 =>
    cases k with
    | bad h' => exact absurd h h'
    | twice _ _ => exact ⟨rfl, rfl⟩
    | ok h' h4 _ => obtain ⟨x, hx, he⟩ := h2; exact absurd he (h4 x hx)
  | ok h h2 h3 =>
    cases k with
    | bad h' => exact absurd h h'
    | twice h' h4 => obtain ⟨x, hx, he⟩ := h4; exact absurd he (h2 x hx)
    | ok h' h4 h6 => rw [h3.uniq h6]; exact ⟨rfl, rfl⟩
theorem AddAll.det {us l a b : List User} {e f : Int} (h : AddAll us l e a) : AddAll us l f b → e = f ∧ a = b := by
  induction h generalizing f b with
  | done => intro k; cases k; exact ⟨rfl, rfl⟩
  | stop h he =>
    intro k
    cases k with
    | stop h' he' => exact ⟨(h.det h').1, rfl⟩
    | next h' k' => exact absurd (h.det h').1 he
  | next h k ih =>
    intro k2
    cases k2 with
    | stop h' he' => exact absurd (h.det h').1.symm he'
    | next h' k' => obtain ⟨_, rfl⟩ := h.det h'; exact ih k'
theorem AddU.srt {us a : List User} {u : User} {e : Int} (h : AddU us u e a) (hs : Srt us) : Srt a ∧ a.length ≤ us.length + 1 := by
  cases h with
  | bad h => exact ⟨hs, by omega⟩
  | twice h h2 => exact ⟨hs, by omega⟩
  | ok h h2 h3 => exact ⟨srt_ins hs h3 h2, by unfold insU; rw [List.length_append, List.length_take, List.length_cons, List.length_drop]; have := h3.1; omega⟩
/-- From where a loop stands to the whole. -/
def Goes (l us0 : List User) (i : Nat) (us : List User) : Prop := ∀ e a, AddAll us (l.drop i) e a → AddAll us0 l e a
theorem Goes.zero (l us : List User) : Goes l us 0 us := fun e a h => h
theorem Goes.step {l us0 us us' : List User} {i : Nat} {u : User} (h : Goes l us0 i us) (hu : l[i]? = some u) (k : AddU us u 0 us') : Goes l us0 (i + 1) us' := fun e a h2 => h e a (by
  have hi := get_lt hu
  rw [List.drop_eq_getElem_cons hi]
  have : l[i] = u := by rw [List.getElem?_eq_getElem hi] at hu; simpa using hu
  rw [this]
  exact .next k h2)
theorem Goes.stop {l us0 us us' : List User} {i : Nat} {u : User} {e : Int} (h : Goes l us0 i us) (hu : l[i]? = some u) (k : AddU us u e us') (he : e ≠ 0) : AddAll us0 l e us := h e us (by
  have hi := get_lt hu
  rw [List.drop_eq_getElem_cons hi]
  have : l[i] = u := by rw [List.getElem?_eq_getElem hi] at hu; simpa using hu
  rw [this]
  exact .stop k he)
theorem Goes.done {l us0 us : List User} {i : Nat} (h : Goes l us0 i us) (hi : l.length ≤ i) : AddAll us0 l 0 us := h 0 us (by rw [List.drop_eq_nil_of_le hi]; exact .done)
theorem eqC_user (u : User) : eqC u.cells u.cells = true := by simp [eqC, sEq]
theorem all_oneU (us : List User) : (us.flatMap User.cells).all oneCell = true := by
  induction us with
  | nil => rfl
  | cons j l ih => rw [List.flatMap_cons, List.all_append, ih]; rfl
theorem insU_len {us : List User} {i : Nat} {u : User} (h : i ≤ us.length) : (insU us i u).length = us.length + 1 := by
  unfold insU; rw [List.length_append, List.length_take, List.length_cons, List.length_drop]; omega
theorem insU_snoc {us : List User} {j m : Nat} {u x : User} (hx : us[j]? = some x) (hm : m ≤ j) : insU (us.take j) m u ++ [x] = insU (us.take (j + 1)) m u := by
  have hj := get_lt hx
  unfold insU
  rw [List.append_assoc, List.cons_append, List.take_take, List.take_take, Nat.min_eq_left hm, Nat.min_eq_left (by omega), List.take_add_one, hx]
  congr 2
  rw [List.drop_append_of_le_length (by rw [List.length_take]; omega)]; rfl
theorem insU_end {us : List User} {u : User} : insU us us.length u = us ++ [u] := by unfold insU; rw [List.take_length, List.drop_length]
theorem take_snoc {us : List User} {j : Nat} {x : User} (hx : us[j]? = some x) : us.take j ++ [x] = us.take (j + 1) := by rw [List.take_add_one, hx]; rfl
theorem at_here {us : List User} {id : Int} {j : Nat} {x : User} (hs : Srt us) (hx : us[j]? = some x) (hgt : id < x.id) (hlt : ∀ k y, k < j → us[k]? = some y → y.id < id) : At us id j :=
  ⟨Nat.le_of_lt (get_lt hx), hlt, fun k y hk hy => by have := srt_le hs hk hx hy; omega⟩
theorem at_end {us : List User} {id : Int} (hlt : ∀ k y, k < us.length → us[k]? = some y → y.id < id) : At us id us.length := ⟨Nat.le_refl _, hlt, fun k y hk hy => by have := get_lt hy; omega⟩
theorem app_user {us : List User} {u : User} : us.flatMap User.cells ++ u.cells = (us ++ [u]).flatMap User.cells := by rw [List.flatMap_append, List.flatMap_cons, List.flatMap_nil, List.append_nil]
theorem ne_mem {us : List User} {id : Int} {n : Nat} (hn : us.length ≤ n) (h : ∀ k y, k < n → us[k]? = some y → y.id ≠ id) : ∀ x ∈ us, x.id ≠ id := fun x hx => by
  obtain ⟨k, hk⟩ := List.getElem?_of_mem hx
  exact h k x (by have := get_lt hk; omega) hk
theorem lt_succ_all {p : User → Prop} {us : List User} {j : Nat} {x : User} (hx : us[j]? = some x) (h : ∀ k y, k < j → us[k]? = some y → p y) (hp : p x) : ∀ k y, k < j + 1 → us[k]? = some y → p y := fun k y hk hy => by
  rcases Nat.lt_or_eq_of_le (Nat.le_of_lt_succ hk) with h1 | rfl
  · exact h k y h1 hy
  · rw [hx] at hy; cases hy; exact hp
structure NG where
  k : Nat
  us : List User
  sl : Value
  E : SHeap
structure IG where
  j : Nat
  put : Bool
  m : Nat
  sl : Value
  E : SHeap
def outL (us : List User) (u : User) (j : Nat) (put : Bool) (m : Nat) : List User := if put then insU (us.take j) m u else us.take j
theorem good_all {us l us' : List User} {e : Int} (h : AddAll us l e us') (hg : ∀ x ∈ us, URight x) : ∀ x ∈ us', URight x := by
  induction h with
  | done => exact hg
  | stop _ _ => exact hg
  | next h k ih =>
    refine ih ?_
    cases h with
    | ok h1 h2 h3 =>
      intro x hx
      unfold insU at hx
      rcases List.mem_append.1 hx with hx | hx
      · exact hg x (List.mem_of_mem_take hx)
      · rcases List.mem_cons.1 hx with rfl | hx
        · exact h1
        · exact hg x (List.mem_of_mem_drop hx)
@[reducible] def bkC (sl : Value) (half now : Int) : List Value := [sl, .int .i64 half, .int .i64 now]
@[reducible] def bk (p : Nat) (sl : Value) (half now : Int) : Nat × Obj := (p, .cells (bkC sl half now).toArray 141 (0, 0))
theorem find_here {us : List User} {id : Int} {i : Nat} {x : User} (h : At us id i) (hs : Srt us) (hx : x ∈ us) (h0 : x.id = id) : ∃ y, us[i]? = some y ∧ cmpI y.id id = 0 := by
  obtain ⟨k, hk⟩ := List.getElem?_of_mem hx
  rcases Nat.lt_trichotomy k i with h1 | rfl | h1
  · have := h.2.1 k x h1 hk; omega
  · exact ⟨x, hk, cmpI_eq.2 h0⟩
  · obtain ⟨y, hy⟩ := get_ex (show i < us.length by have := get_lt hk; omega)
    have h2 := h.2.2 i y (Nat.le_refl _) hy
    have h3 := srt_le hs (Nat.le_of_lt h1) hy hk
    exact ⟨y, hy, cmpI_eq.2 (by omega)⟩
theorem ag73 : aggOf Try.prog 73 = some false := by kernel_rfl
theorem ag86 : aggOf Try.prog 86 = some true := by kernel_rfl
theorem by86 : bytesOf Try.prog 86 = some 24 := by kernel_rfl
theorem cells86 : Try.prog.cellsOf 86 = 3 := by kernel_rfl
theorem cl107 : Callable Try.prog 107 := ⟨Try.f107, Try.func107, by kernel_rfl, by kernel_rfl⟩
theorem cl108 : Callable Try.prog 108 := ⟨Try.f108, Try.func108, by kernel_rfl, by kernel_rfl⟩
theorem cl134 : Callable Try.prog 134 := ⟨Try.f134, Try.func134, by kernel_rfl, by kernel_rfl⟩
theorem cl135 : Callable Try.prog 135 := ⟨Try.f135, Try.func135, by kernel_rfl, by kernel_rfl⟩
theorem cl136 : Callable Try.prog 136 := ⟨Try.f136, Try.func136, by kernel_rfl, by kernel_rfl⟩
theorem cl149 : Callable Try.prog 149 := ⟨Try.f149, Try.func149, by kernel_rfl, by kernel_rfl⟩
theorem exf137 : Extern.find Try.f137 = some (Extern.SlicesOverlaps.overlaps Try.f137.params Try.f137.resultTypes) := by kernel_rfl
theorem exn137 : Extern.findNext Try.f137 = none := by kernel_rfl
theorem fd141_0 : fldOf Try.prog 141 0 = some (0, 73, 1) := by kernel_rfl
theorem fd86_0 : fldOf Try.prog 86 0 = some (0, 3, 1) := by kernel_rfl
theorem fd86_1 : fldOf Try.prog 86 1 = some (1, 3, 1) := by kernel_rfl
theorem fd86_2 : fldOf Try.prog 86 2 = some (2, 2, 1) := by kernel_rfl
theorem fl141 : flds Try.prog 141 = some [(0, 1), (1, 1), (2, 1)] := by kernel_rfl
theorem sz73 : szOf Try.prog 73 = some 1 := by kernel_rfl
theorem sz86 : szOf Try.prog 86 = some 3 := by kernel_rfl
theorem zr141 : zeroOf Try.prog 141 = some (.agg #[.slice none 0 0, .int .i64 0, .int .i64 0]) := by kernel_rfl
theorem zr86 : zeroOf Try.prog 86 = some (.agg #[.int .i64 0, .int .i64 0, .int .i64 0]) := by kernel_rfl
section
variable {W0 : World}
set_option maxRecDepth 100000 in
set_option maxHeartbeats 400000 in
theorem isNaN_s (a : Int) (H : SHeap) : AC Try.prog W0 149 [.int .i64 a] H (fun v H' => v = .bool false ∧ H' = H) := by
  refine ac_of Try.func149 rfl rfl rfl ?_
  refine aw_seq_region ?_
  refine sr_x rfl (wtd_none rfl) rfl (Rd.x (x_assign rfl)) ?_
  refine sr_nil ?_
  refine aw_keep (keep_cons (t := 0) rfl (keep_cons (t := 2) rfl keep_nil)) ?_
  refine aw_seq_region ?_
  refine sr_x rfl (wtd_none rfl) rfl (Rd.x (x_move rfl)) ?_
  refine sr_x rfl (wtd_none rfl) rfl (Rd.x (x_move rfl)) ?_
  refine sr_x rfl (wtd_none rfl) rfl (Rd.x (x_cast (u := .bool false) (x_ne rfl rfl) (by simp))) ?_
  refine sr_x rfl (wtd_none rfl) rfl (Rd.x (x_assign rfl)) ?_
  refine sr_nil ?_
  refine aw_keep (keep_cons (t := 2) rfl keep_nil) ?_
  refine aw_ret ?_
  show ∃ v H2, ResV _ _ _ _ _ _ v ∧ Sub H2 _ ∧ _
  exact ⟨_, H, resV rfl (.cons rfl .nil), (by repeat (first | exact Sub.refl _ | apply Sub.drop)), ⟨rfl, rfl⟩⟩
set_option maxRecDepth 100000 in
set_option maxHeartbeats 400000 in
theorem compare_s (a b : Int) (H : SHeap) : AC Try.prog W0 136 [.int .i64 a, .int .i64 b] H (fun v H' => v = .int .i64 (cmpI a b) ∧ H' = H) := by
  refine ac_of Try.func136 rfl rfl rfl ?_
  refine aw_seq_region ?_
  refine sr_x rfl (wtd_none rfl) rfl (Rd.x (x_assign rfl)) ?_
  refine sr_nil ?_
  refine aw_keep (keep_cons (t := 0) rfl (keep_cons (t := 1) rfl (keep_cons (t := 4) rfl keep_nil))) ?_
  refine aw_seq_region ?_
  refine sr_x rfl (wtd_none rfl) rfl (Rd.x (x_move rfl)) ?_
  refine sr_d rfl (wtd_none rfl) rfl (opS_call rfl rfl rfl rfl cl149 (isNaN_s _ _)) ?_
  rintro _ H ⟨rfl, rfl⟩
  refine sr_x rfl (wtd_none rfl) rfl (Rd.x (x_assign rfl)) ?_
  refine sr_nil ?_
  refine aw_keep (keep_cons (t := 0) rfl (keep_cons (t := 1) rfl (keep_cons (t := 4) rfl (keep_cons (t := 5) rfl keep_nil)))) ?_
  refine aw_seq_region ?_
  refine sr_x rfl (wtd_none rfl) rfl (Rd.x (x_move rfl)) ?_
  refine sr_d rfl (wtd_none rfl) rfl (opS_call rfl rfl rfl rfl cl149 (isNaN_s _ _)) ?_
  rintro _ H ⟨rfl, rfl⟩
  refine sr_x rfl (wtd_none rfl) rfl (Rd.x (x_assign rfl)) ?_
  refine sr_nil ?_
  refine aw_keep (keep_cons (t := 0) rfl (keep_cons (t := 1) rfl (keep_cons (t := 4) rfl (keep_cons (t := 5) rfl (keep_cons (t := 6) rfl keep_nil))))) ?_
  refine aw_seq ?_
  refine aw_seq_region ?_
  refine sr_x rfl (wtd_none rfl) rfl (Rd.x (x_move rfl)) ?_
  refine sr_nil ?_
  refine aw_keep (keep_cons (t := 0) rfl (keep_cons (t := 1) rfl (keep_cons (t := 4) rfl (keep_cons (t := 6) rfl (keep_cons (t := 11) rfl keep_nil))))) ?_
  refine aw_false rfl ?_
  refine aw_skip ?_
  show AW _ _ _ _ _ _ _
  refine aw_seq ?_
  refine aw_seq_region ?_
  refine sr_x rfl (wtd_none rfl) rfl (Rd.x (x_move rfl)) ?_
  refine sr_nil ?_
  refine aw_keep (keep_cons (t := 0) rfl (keep_cons (t := 1) rfl (keep_cons (t := 4) rfl (keep_cons (t := 13) rfl keep_nil)))) ?_
  refine aw_false rfl ?_
  refine aw_skip ?_
  show AW _ _ _ _ _ _ _
  refine aw_seq ?_
  refine aw_seq_region ?_
  refine sr_x rfl (wtd_none rfl) rfl (Rd.x (x_move rfl)) ?_
  refine sr_x rfl (wtd_none rfl) rfl (Rd.x (x_move rfl)) ?_
  refine sr_cmp rfl (wtd_none rfl) rfl (Rd.x (x_lt rfl rfl)) (fun h1 => ?_) (fun h1 => ?_)
  · refine sr_nil ?_
    refine aw_keep (keep_cons (t := 0) rfl (keep_cons (t := 1) rfl (keep_cons (t := 4) rfl (keep_cons (t := 16) rfl keep_nil)))) ?_
    refine aw_true rfl ?_
    refine aw_seq_region ?_
    refine sr_x rfl (wtd_none rfl) rfl (Rd.x (x_assign rfl)) ?_
    refine sr_nil ?_
    refine aw_keep (keep_cons (t := 0) rfl (keep_cons (t := 1) rfl (keep_cons (t := 4) rfl keep_nil))) ?_
    refine aw_ret ?_
    show ∃ v H2, ResV _ _ _ _ _ _ v ∧ Sub H2 _ ∧ _
    exact ⟨_, H, resV rfl (.cons rfl .nil), (by repeat (first | exact Sub.refl _ | apply Sub.drop)), ⟨congrArg (Value.int .i64) (by unfold cmpI; (repeat (first | rw [if_pos (by omega)] | rw [if_neg (by omega)]))), rfl⟩⟩
  · refine sr_nil ?_
    refine aw_keep (keep_cons (t := 0) rfl (keep_cons (t := 1) rfl (keep_cons (t := 4) rfl (keep_cons (t := 16) rfl keep_nil)))) ?_
    refine aw_false rfl ?_
    refine aw_skip ?_
    show AW _ _ _ _ _ _ _
    refine aw_seq ?_
    refine aw_seq_region ?_
    refine sr_x rfl (wtd_none rfl) rfl (Rd.x (x_move rfl)) ?_
    refine sr_x rfl (wtd_none rfl) rfl (Rd.x (x_move rfl)) ?_
    refine sr_cmp rfl (wtd_none rfl) rfl (Rd.x (x_gt rfl rfl)) (fun h2 => ?_) (fun h2 => ?_)
    · refine sr_nil ?_
      refine aw_keep (keep_cons (t := 4) rfl (keep_cons (t := 19) rfl keep_nil)) ?_
      refine aw_true rfl ?_
      refine aw_seq_region ?_
      refine sr_x rfl (wtd_none rfl) rfl (Rd.x (x_assign rfl)) ?_
      refine sr_nil ?_
      refine aw_keep (keep_cons (t := 4) rfl keep_nil) ?_
      refine aw_ret ?_
      show ∃ v H2, ResV _ _ _ _ _ _ v ∧ Sub H2 _ ∧ _
      exact ⟨_, H, resV rfl (.cons rfl .nil), (by repeat (first | exact Sub.refl _ | apply Sub.drop)), ⟨congrArg (Value.int .i64) (by unfold cmpI; (repeat (first | rw [if_pos (by omega)] | rw [if_neg (by omega)]))), rfl⟩⟩
    · refine sr_nil ?_
      refine aw_keep (keep_cons (t := 4) rfl (keep_cons (t := 19) rfl keep_nil)) ?_
      refine aw_false rfl ?_
      refine aw_skip ?_
      show AW _ _ _ _ _ _ _
      refine aw_seq_region ?_
      refine sr_x rfl (wtd_none rfl) rfl (Rd.x (x_assign rfl)) ?_
      refine sr_nil ?_
      refine aw_keep (keep_cons (t := 4) rfl keep_nil) ?_
      refine aw_ret ?_
      show ∃ v H2, ResV _ _ _ _ _ _ v ∧ Sub H2 _ ∧ _
      exact ⟨_, H, resV rfl (.cons rfl .nil), (by repeat (first | exact Sub.refl _ | apply Sub.drop)), ⟨congrArg (Value.int .i64) (by unfold cmpI; (repeat (first | rw [if_pos (by omega)] | rw [if_neg (by omega)]))), rfl⟩⟩
set_option maxRecDepth 100000 in
set_option maxHeartbeats 400000 in
theorem findcmp_s (u : User) (id : Int) (H : SHeap) : AC Try.prog W0 135 [u.v, .int .i64 id] H (fun v H' => v = .int .i64 (cmpI u.id id) ∧ H' = H) := by
  refine ac_of Try.func135 rfl rfl rfl ?_
  refine aw_seq_region ?_
  refine sr_new rfl (wtd_none rfl) rfl (x_box rfl rfl) ?_
  intro r0_0 hr0_0 gr0_0
  refine sr_x rfl (wtd_none rfl) rfl (Rd.x (x_assign rfl)) ?_
  refine sr_nil ?_
  refine aw_keep (keep_cons (t := 1) rfl (keep_cons (t := 2) rfl (keep_cons (t := 4) rfl keep_nil))) ?_
  refine aw_seq_region ?_
  refine sr_x rfl (wtd_none rfl) rfl (Rd.x (x_fieldAddr fd86_0 rfl)) ?_
  refine sr_x rfl (wtd_none rfl) rfl (Rd.x (x_load ag3 rfl (cells_ext (by repeat (first | exact List.mem_cons_self | apply List.mem_cons_of_mem | apply List.mem_append_right)) (by repeat (first | exact Ext.all _ | exact Ext.done | apply Ext.take | apply Ext.skip))))) ?_
  refine sr_x rfl (wtd_none rfl) rfl (Rd.x (x_move rfl)) ?_
  refine sr_d rfl (wtd_none rfl) rfl (opS_call rfl rfl rfl rfl cl136 (compare_s _ _ _)) ?_
  rintro _ H ⟨rfl, rfl⟩
  refine sr_x rfl (wtd_none rfl) rfl (Rd.x (x_assign rfl)) ?_
  refine sr_nil ?_
  refine aw_keep (keep_cons (t := 4) rfl keep_nil) ?_
  refine aw_ret ?_
  show ∃ v H2, ResV _ _ _ _ _ _ v ∧ Sub H2 _ ∧ _
  exact ⟨_, H, resV rfl (.cons rfl .nil), (by repeat (first | exact Sub.refl _ | apply Sub.drop)), ⟨rfl, rfl⟩⟩
set_option maxRecDepth 100000 in
set_option maxHeartbeats 2000000 in
theorem uinsert_sM (r n cap i : Nat) (b : Nat) (L N post : List Value) (G : SHeap) (hL : L.length = n * 3) (hp : post.length = (cap - n) * 3) (hnc : n ≤ cap) (hcap : cap ≤ 9223372036854775807) (hN : N.length = 3) (hN1 : N.all oneCell = true) (hL1 : L.all oneCell = true) (hi : i ≤ n) (hn : n ≤ 1000000) : AC Try.prog W0 108 [.slice (some ⟨b, 0, none⟩) n cap, .int .i64 i, .slice (some ⟨r, 0, none⟩) 1 1] ((b, .cells (L ++ post).toArray 86 (0, 0)) :: (r, .cells N.toArray 86 (0, 0)) :: G) (fun v H' => ∃ a' cap' E', v = .slice a' (n + 1) cap' ∧ OwnVec 3 86 (.slice a' (n + 1) cap') (n + 1) (L.take (i * 3) ++ N ++ L.drop (i * 3)) E' ∧ H' = E' ++ G) := by
  refine ac_of Try.func108 rfl rfl rfl ?_
  refine aw_seq_region ?_
  refine sr_x rfl (wtd_none rfl) rfl (Rd.x (x_assign rfl)) ?_
  refine sr_nil ?_
  refine aw_keep (keep_cons (t := 0) rfl (keep_cons (t := 1) rfl (keep_cons (t := 2) rfl (keep_cons (t := 6) rfl keep_nil)))) ?_
  refine aw_seq_region ?_
  refine sr_x rfl (wtd_none rfl) rfl (Rd.x (x_move rfl)) ?_
  refine sr_x rfl (wtd_none rfl) rfl (Rd.x (x_move rfl)) ?_
  refine sr_x rfl (wtd_none rfl) rfl (Rd.x (x_sliceLo Try.underlying73 sz86 rfl rfl (by omega) (by omega) (by omega))) ?_
  refine sr_nil ?_
  refine aw_keep (keep_cons (t := 0) rfl (keep_cons (t := 1) rfl (keep_cons (t := 2) rfl (keep_cons (t := 6) rfl keep_nil)))) ?_
  refine aw_seq_region ?_
  refine sr_x rfl (wtd_none rfl) rfl (Rd.x (x_move rfl)) ?_
  refine sr_x rfl (wtd_none rfl) rfl (Rd.x (x_lenSlice Try.underlying73 rfl)) ?_
  refine sr_x rfl (wtd_none rfl) rfl (Rd.x (x_assign rfl)) ?_
  refine sr_nil ?_
  refine aw_keep (keep_cons (t := 0) rfl (keep_cons (t := 1) rfl (keep_cons (t := 2) rfl (keep_cons (t := 6) rfl (keep_cons (t := 7) rfl keep_nil))))) ?_
  refine aw_seq ?_
  refine aw_seq_region ?_
  refine sr_x rfl (wtd_none rfl) rfl (Rd.x (x_move rfl)) ?_
  refine sr_cmp rfl (wtd_none rfl) rfl (Rd.x (x_eq rfl rfl)) (fun h1 => absurd h1 (by first | omega | decide)) (fun h1 => ?_)
  refine sr_nil ?_
  refine aw_keep (keep_cons (t := 0) rfl (keep_cons (t := 1) rfl (keep_cons (t := 2) rfl (keep_cons (t := 6) rfl (keep_cons (t := 7) rfl (keep_cons (t := 16) rfl keep_nil)))))) ?_
  refine aw_false rfl ?_
  refine aw_skip ?_
  show AW _ _ _ _ _ _ _
  refine aw_seq_region ?_
  refine sr_x rfl (wtd_none rfl) rfl (Rd.x (x_move rfl)) ?_
  refine sr_x rfl (wtd_none rfl) rfl (Rd.x (x_lenSlice Try.underlying73 rfl)) ?_
  refine sr_x rfl (wtd_none rfl) rfl (Rd.x (x_assign rfl)) ?_
  refine sr_nil ?_
  refine aw_keep (keep_cons (t := 0) rfl (keep_cons (t := 1) rfl (keep_cons (t := 2) rfl (keep_cons (t := 6) rfl (keep_cons (t := 7) rfl (keep_cons (t := 8) rfl keep_nil)))))) ?_
  refine aw_seq ?_
  refine aw_seq_region ?_
  refine sr_x rfl (wtd_none rfl) rfl (Rd.x (x_move rfl)) ?_
  refine sr_x rfl (wtd_none rfl) rfl (Rd.x (x_move rfl)) ?_
  refine sr_cmp rfl (wtd_none rfl) rfl (Rd.x (x_eq rfl rfl)) (fun h2 => ?_) (fun h2 => ?_)
  · refine sr_nil ?_
    refine aw_keep (keep_cons (t := 0) rfl (keep_cons (t := 1) rfl (keep_cons (t := 2) rfl (keep_cons (t := 6) rfl (keep_cons (t := 7) rfl (keep_cons (t := 8) rfl (keep_cons (t := 22) rfl keep_nil))))))) ?_
    refine aw_true rfl ?_
    refine aw_seq_region ?_
    refine sr_x rfl (wtd_none rfl) rfl (Rd.x (x_move rfl)) ?_
    refine sr_x rfl (wtd_none rfl) rfl (Rd.x (x_move rfl)) ?_
    refine sr_d rfl (wtd_none rfl) rfl (opS_append (G := G) (N := N) (m := 1) Try.underlying73 sz86 zr86 rfl by86 rfl rfl (OwnVec.mk hL hp hnc hcap) (by repeat (first | exact Sub.refl _ | refine Sub.take (by repeat (first | exact Take.here | apply Take.there | apply Take.app)) ?_ | refine Sub.takeE (by repeat (first | exact TakeE.here | apply TakeE.there | apply TakeE.app)) ?_ | exact Sub.nil _ | apply Sub.drop | apply Sub.dropE)) (.inr ⟨_, _, rfl, (cells_ext (by repeat (first | exact List.mem_cons_self | apply List.mem_cons_of_mem | apply List.mem_append_right)) (by repeat (first | exact Ext.all _ | exact Ext.done | apply Ext.take | apply Ext.skip)))⟩) (by rw [hN, Nat.one_mul]) hN1 (by omega) (by omega)) ?_
    rintro v25 _ ⟨E25, hV25, rfl⟩
    obtain ⟨a25, cap25, rfl⟩ := hV25.isSl
    refine sr_x rfl (wtd_none rfl) rfl (Rd.x (x_assign rfl)) ?_
    refine sr_nil ?_
    refine aw_keep (keep_cons (t := 0) rfl (keep_cons (t := 1) rfl (keep_cons (t := 2) rfl (keep_cons (t := 6) rfl (keep_cons (t := 7) rfl (keep_cons (t := 8) rfl keep_nil)))))) ?_
    refine aw_ret ?_
    show ∃ v H2, ResV _ _ _ _ _ _ v ∧ Sub H2 _ ∧ _
    first | (rw [← ins_end (i := i) hL (by omega)] at hV25; exact ⟨_, E25 ++ G, resV rfl (.cons rfl .nil), (by (repeat (first | exact Sub.refl _ | refine Sub.take (by repeat (first | exact Take.here | apply Take.there | apply Take.app)) ?_ | refine Sub.takeE (by repeat (first | exact TakeE.here | apply TakeE.there | apply TakeE.app)) ?_ | exact Sub.nil _ | apply Sub.drop | apply Sub.dropE)); first | done | fail), a25, cap25, E25, rfl, hV25, rfl⟩) | exact ⟨_, (b2, .cells ((L.take (i * 3) ++ N ++ L.drop (i * 3)) ++ post2).toArray 86 (0, 0)) :: G, resV rfl (.cons rfl .nil), (by (repeat (first | exact Sub.refl _ | refine Sub.take (by repeat (first | exact Take.here | apply Take.there | apply Take.app)) ?_ | refine Sub.takeE (by repeat (first | exact TakeE.here | apply TakeE.there | apply TakeE.app)) ?_ | exact Sub.nil _ | apply Sub.drop | apply Sub.dropE)); first | done | fail), some ⟨b2, 0, none⟩, cap40, [(b2, .cells ((L.take (i * 3) ++ N ++ L.drop (i * 3)) ++ post2).toArray 86 (0, 0))], rfl, .mk (ins_len hL hN hi) hp2 hn2 hc2, rfl⟩ | exact ⟨_, (b, .cells ((L.take (i * 3) ++ N ++ L.drop (i * 3)) ++ post.drop 3).toArray 86 (0, 0)) :: G, resV rfl (.cons rfl .nil), (by (repeat (first | exact Sub.refl _ | refine Sub.take (by repeat (first | exact Take.here | apply Take.there | apply Take.app)) ?_ | refine Sub.takeE (by repeat (first | exact TakeE.here | apply TakeE.there | apply TakeE.app)) ?_ | exact Sub.nil _ | apply Sub.drop | apply Sub.dropE)); first | done | fail), some ⟨b, 0, none⟩, cap, [(b, .cells ((L.take (i * 3) ++ N ++ L.drop (i * 3)) ++ post.drop 3).toArray 86 (0, 0))], rfl, .mk (ins_len hL hN hi) (by rw [List.length_drop, hp, show cap - n = (cap - (n + 1)) + 1 from by omega, Nat.add_mul]; omega) (by omega) hcap, rfl⟩
  · refine sr_nil ?_
    refine aw_keep (keep_cons (t := 0) rfl (keep_cons (t := 1) rfl (keep_cons (t := 2) rfl (keep_cons (t := 6) rfl (keep_cons (t := 7) rfl (keep_cons (t := 8) rfl (keep_cons (t := 22) rfl keep_nil))))))) ?_
    refine aw_false rfl ?_
    refine aw_skip ?_
    show AW _ _ _ _ _ _ _
    refine aw_seq ?_
    refine aw_seq_region ?_
    refine sr_x rfl (wtd_none rfl) rfl (Rd.x (x_move rfl)) ?_
    refine sr_x rfl (wtd_none rfl) rfl (Rd.x (x_move rfl)) ?_
    refine sr_x rfl (wtd_none rfl) rfl (Rd.x (x_add' rfl rfl (i64w (by omega) (by omega)))) ?_
    refine sr_x rfl (wtd_none rfl) rfl (Rd.x (x_move rfl)) ?_
    refine sr_x rfl (wtd_none rfl) rfl (Rd.x (x_capSlice Try.underlying73 rfl)) ?_
    refine sr_cmp rfl (wtd_none rfl) rfl (Rd.x (x_gt rfl rfl)) (fun h3 => ?_) (fun h3 => ?_)
    · refine sr_nil ?_
      refine aw_keep (keep_cons (t := 0) rfl (keep_cons (t := 1) rfl (keep_cons (t := 2) rfl (keep_cons (t := 6) rfl (keep_cons (t := 7) rfl (keep_cons (t := 8) rfl (keep_cons (t := 31) rfl keep_nil))))))) ?_
      refine aw_true rfl ?_
      refine aw_seq_region ?_
      refine sr_x rfl (wtd_none rfl) rfl (Rd.x (x_move rfl)) ?_
      refine sr_x rfl (wtd_none rfl) rfl (Rd.x (x_move rfl)) ?_
      refine sr_x rfl (wtd_none rfl) rfl (Rd.x (x_sliceHiK i Try.underlying73 sz86 rfl rfl rfl (by omega))) ?_
      refine sr_x rfl (wtd_none rfl) rfl (Rd.x (x_move rfl)) ?_
      refine sr_x rfl (wtd_none rfl) rfl (Rd.x (x_move rfl)) ?_
      refine sr_x rfl (wtd_none rfl) rfl (Rd.x (x_add' rfl rfl (i64w (by omega) (by omega)))) ?_
      refine sr_x rfl (wtd_none rfl) rfl (Rd.x (x_move rfl)) ?_
      refine sr_x rfl (wtd_none rfl) rfl (Rd.x (x_sub' rfl rfl (i64w (by omega) (by omega)))) ?_
      refine sr_d rfl (wtd_none rfl) rfl (opS_appendMake (m := n + 1 - i) (L := L.take (i * 3)) Try.underlying73 Try.underlying3 sz86 zr86 rfl by86 rfl rfl (by omega) (cells_lt (by repeat (first | exact List.mem_cons_self | apply List.mem_cons_of_mem | apply List.mem_append_right)) _) (by rw [List.length_take, hL]; exact Nat.min_eq_left (Nat.mul_le_mul_right _ hi)) (by omega) (by omega) (by omega) (by omega)) ?_
      rintro v40 _ ⟨E40, hV40, rfl⟩
      obtain ⟨a40, cap40, rfl⟩ := hV40.isSl
      rw [show i + (n + 1 - i) = n + 1 from by omega] at hV40 ⊢
      obtain ⟨b2, rfl, _⟩ := hV40.pos (by omega)
      obtain ⟨_, _, post2, rfl, hL2, hp2, hn2, hc2⟩ := hV40.blk
      rw [List.singleton_append]
      obtain ⟨cs1, hs1, hs2⟩ := ins_grow (post := post2) hL hN hi (Z := (Builtin.zeroCells (.agg #[.int .i64 0, .int .i64 0, .int .i64 0] : Value).cells (n + 1 - i)).toList) (by rw [zeroCells_len]; rfl)
      refine sr_x rfl (wtd_none rfl) rfl (Rd.x (x_assign rfl)) ?_
      refine sr_nil ?_
      refine aw_keep (keep_cons (t := 0) rfl (keep_cons (t := 1) rfl (keep_cons (t := 2) rfl (keep_cons (t := 6) rfl (keep_cons (t := 7) rfl (keep_cons (t := 8) rfl (keep_cons (t := 9) rfl keep_nil))))))) ?_
      refine aw_seq_region ?_
      refine sr_x rfl (wtd_none rfl) rfl (Rd.x (x_move rfl)) ?_
      refine sr_x rfl (wtd_none rfl) rfl (Rd.x (x_move rfl)) ?_
      refine sr_x rfl (wtd_none rfl) rfl (Rd.x (x_sliceLoK (i) Try.underlying73 sz86 rfl rfl (by omega) (by omega) (by omega) (by omega))) ?_
      refine sr_x rfl (wtd_none rfl) rfl (Rd.x (x_move rfl)) ?_
      refine sr_d rfl (wtd_none rfl) rfl ((x_copy (m := 1) (N := N) (cs' := cs1) Try.underlying73 sz86 rfl rfl (by show min _ _ = _; omega) (cells_ext (by repeat (first | exact List.mem_cons_self | apply List.mem_cons_of_mem | apply List.mem_append_right)) (by repeat (first | exact Ext.all _ | exact Ext.done | apply Ext.take | apply Ext.skip))) (by rw [hN, Nat.one_mul]) (hN1) (by repeat (first | exact Repl.here | apply Repl.there | apply Repl.app)) (by rw [Nat.zero_add]; exact hs1)).opS) ?_
      rintro _ _ ⟨rfl, rfl⟩
      refine sr_nil ?_
      refine aw_keep (keep_cons (t := 0) rfl (keep_cons (t := 1) rfl (keep_cons (t := 2) rfl (keep_cons (t := 6) rfl (keep_cons (t := 7) rfl (keep_cons (t := 8) rfl (keep_cons (t := 9) rfl keep_nil))))))) ?_
      refine aw_seq_dr ⟨_, 9, 95, [[], [], [], [1, 2], [0, 1, 2, 3], [], [], [5, 6], [0, 1, 2, 3, 4, 5, 6, 7]], [.light, .light, .light, .light, .light, .light, .light, .light, .eff]⟩ (by kernel_rfl) rfl rfl mix ?_
      refine dr_light rfl rfl (wtd_none rfl) (x_move rfl) ?_
      refine dr_light rfl rfl (wtd_none rfl) (x_move rfl) ?_
      refine dr_light rfl rfl (wtd_none rfl) (x_move rfl) ?_
      refine dr_light rfl rfl (wtd_none rfl) (x_add' rfl rfl (i64w (by omega) (by omega))) ?_
      refine dr_light rfl rfl (wtd_none rfl) (x_sliceLoK (i + 1) Try.underlying73 sz86 rfl rfl (by omega) (by omega) (by omega) (by omega)) ?_
      refine dr_light rfl rfl (wtd_none rfl) (x_move rfl) ?_
      refine dr_light rfl rfl (wtd_none rfl) (x_move rfl) ?_
      refine dr_light rfl rfl (wtd_none rfl) (x_sliceLoK (i) Try.underlying73 sz86 rfl rfl (by omega) (by omega) (by omega) (by omega)) ?_
      refine dr_effE rfl rfl (wtd_none rfl) ((x_copy (m := n - i) (N := L.drop (i * 3)) (cs' := (L.take (i * 3) ++ N ++ L.drop (i * 3)) ++ post2) Try.underlying73 sz86 rfl rfl (by show min _ _ = _; omega) (cells_ld (by repeat (first | exact List.mem_cons_self | apply List.mem_cons_of_mem | apply List.mem_append_right)) _) (by rw [List.length_drop, hL, ← Nat.sub_mul]) (all_drop hL1) (by repeat (first | exact Repl.here | apply Repl.there | apply Repl.app)) (by rw [Nat.zero_add]; exact hs2)).opSF) (by exact fun hw L => ⟨_, _, ⟨rfl, rfl⟩, hw.1, fun b hb => .inl hb⟩) ?_
      rintro _ _ ⟨rfl, rfl⟩
      refine dr_nil0 ?_
      refine aw_keep (keep_cons (t := 0) rfl (keep_cons (t := 1) rfl (keep_cons (t := 2) rfl (keep_cons (t := 6) rfl (keep_cons (t := 7) rfl (keep_cons (t := 8) rfl (keep_cons (t := 9) rfl keep_nil))))))) ?_
      refine aw_seq_region ?_
      refine sr_x rfl (wtd_none rfl) rfl (Rd.x (x_move rfl)) ?_
      refine sr_x rfl (wtd_none rfl) rfl (Rd.x (x_assign rfl)) ?_
      refine sr_nil ?_
      refine aw_keep (keep_cons (t := 0) rfl (keep_cons (t := 1) rfl (keep_cons (t := 2) rfl (keep_cons (t := 6) rfl (keep_cons (t := 7) rfl (keep_cons (t := 8) rfl keep_nil)))))) ?_
      refine aw_ret ?_
      show ∃ v H2, ResV _ _ _ _ _ _ v ∧ Sub H2 _ ∧ _
      first | (rw [← ins_end (i := i) hL (by omega)] at hV25; exact ⟨_, E25 ++ G, resV rfl (.cons rfl .nil), (by (repeat (first | exact Sub.refl _ | refine Sub.take (by repeat (first | exact Take.here | apply Take.there | apply Take.app)) ?_ | refine Sub.takeE (by repeat (first | exact TakeE.here | apply TakeE.there | apply TakeE.app)) ?_ | exact Sub.nil _ | apply Sub.drop | apply Sub.dropE)); first | done | fail), a25, cap25, E25, rfl, hV25, rfl⟩) | exact ⟨_, (b2, .cells ((L.take (i * 3) ++ N ++ L.drop (i * 3)) ++ post2).toArray 86 (0, 0)) :: G, resV rfl (.cons rfl .nil), (by (repeat (first | exact Sub.refl _ | refine Sub.take (by repeat (first | exact Take.here | apply Take.there | apply Take.app)) ?_ | refine Sub.takeE (by repeat (first | exact TakeE.here | apply TakeE.there | apply TakeE.app)) ?_ | exact Sub.nil _ | apply Sub.drop | apply Sub.dropE)); first | done | fail), some ⟨b2, 0, none⟩, cap40, [(b2, .cells ((L.take (i * 3) ++ N ++ L.drop (i * 3)) ++ post2).toArray 86 (0, 0))], rfl, .mk (ins_len hL hN hi) hp2 hn2 hc2, rfl⟩ | exact ⟨_, (b, .cells ((L.take (i * 3) ++ N ++ L.drop (i * 3)) ++ post.drop 3).toArray 86 (0, 0)) :: G, resV rfl (.cons rfl .nil), (by (repeat (first | exact Sub.refl _ | refine Sub.take (by repeat (first | exact Take.here | apply Take.there | apply Take.app)) ?_ | refine Sub.takeE (by repeat (first | exact TakeE.here | apply TakeE.there | apply TakeE.app)) ?_ | exact Sub.nil _ | apply Sub.drop | apply Sub.dropE)); first | done | fail), some ⟨b, 0, none⟩, cap, [(b, .cells ((L.take (i * 3) ++ N ++ L.drop (i * 3)) ++ post.drop 3).toArray 86 (0, 0))], rfl, .mk (ins_len hL hN hi) (by rw [List.length_drop, hp, show cap - n = (cap - (n + 1)) + 1 from by omega, Nat.add_mul]; omega) (by omega) hcap, rfl⟩
    · refine sr_nil ?_
      refine aw_keep (keep_cons (t := 0) rfl (keep_cons (t := 1) rfl (keep_cons (t := 2) rfl (keep_cons (t := 6) rfl (keep_cons (t := 7) rfl (keep_cons (t := 8) rfl (keep_cons (t := 31) rfl keep_nil))))))) ?_
      refine aw_false rfl ?_
      refine aw_skip ?_
      show AW _ _ _ _ _ _ _
      refine aw_seq_region ?_
      refine sr_x rfl (wtd_none rfl) rfl (Rd.x (x_move rfl)) ?_
      refine sr_x rfl (wtd_none rfl) rfl (Rd.x (x_move rfl)) ?_
      refine sr_x rfl (wtd_none rfl) rfl (Rd.x (x_move rfl)) ?_
      refine sr_x rfl (wtd_none rfl) rfl (Rd.x (x_add' rfl rfl (i64w (by omega) (by omega)))) ?_
      refine sr_x rfl (wtd_none rfl) rfl (Rd.x (x_sliceHiK (n + 1) Try.underlying73 sz86 rfl rfl (by omega) (by omega))) ?_
      refine sr_x rfl (wtd_none rfl) rfl (Rd.x (x_assign rfl)) ?_
      refine sr_nil ?_
      refine aw_keep (keep_cons (t := 0) rfl (keep_cons (t := 1) rfl (keep_cons (t := 2) rfl (keep_cons (t := 6) rfl (keep_cons (t := 7) rfl (keep_cons (t := 8) rfl keep_nil)))))) ?_
      refine aw_seq ?_
      refine aw_seq_region ?_
      refine sr_x rfl (wtd_none rfl) rfl (Rd.x (x_move rfl)) ?_
      refine sr_x rfl (wtd_none rfl) rfl (Rd.x (x_move rfl)) ?_
      refine sr_x rfl (wtd_none rfl) rfl (Rd.x (x_move rfl)) ?_
      refine sr_x rfl (wtd_none rfl) rfl (Rd.x (x_move rfl)) ?_
      refine sr_x rfl (wtd_none rfl) rfl (Rd.x (x_add' rfl rfl (i64w (by omega) (by omega)))) ?_
      refine sr_x rfl (wtd_none rfl) rfl (Rd.x (x_sliceLoK (i + 1) Try.underlying73 sz86 rfl rfl (by omega) (by omega) (by omega) (by omega))) ?_
      refine sr_x rfl (wtd_none rfl) rfl (Rd.x (x_extern (fn := Try.f137) (v := .bool false) rfl rfl rfl Try.func137 (by kernel_rfl) (by kernel_rfl) exn137 exf137 (fun hw => rd_overlaps (t := 73) rfl Try.underlying73 sz86 (wf_ne hw).symm (hw.obj (by repeat (first | exact List.mem_cons_self | apply List.mem_cons_of_mem | apply List.mem_append_right))) (hw.obj (by repeat (first | exact List.mem_cons_self | apply List.mem_cons_of_mem | apply List.mem_append_right)))))) ?_
      refine sr_x rfl (wtd_none rfl) rfl (Rd.x (x_not rfl)) ?_
      refine sr_nil ?_
      refine aw_keep (keep_cons (t := 0) rfl (keep_cons (t := 1) rfl (keep_cons (t := 2) rfl (keep_cons (t := 6) rfl (keep_cons (t := 7) rfl (keep_cons (t := 8) rfl (keep_cons (t := 68) rfl keep_nil))))))) ?_
      refine aw_true rfl ?_
      refine aw_seq_dr ⟨_, 9, 95, [[], [], [], [1, 2], [0, 1, 2, 3], [], [], [5, 6], [0, 1, 2, 3, 4, 5, 6, 7]], [.light, .light, .light, .light, .light, .light, .light, .light, .eff]⟩ (by kernel_rfl) rfl rfl mix ?_
      obtain ⟨cs1, hs1, hs2⟩ := ins_room (post := post) hL hN hi (by have : 1 * 3 ≤ (cap - n) * 3 := Nat.mul_le_mul_right _ (by omega); omega)
      refine dr_light rfl rfl (wtd_none rfl) (x_move rfl) ?_
      refine dr_light rfl rfl (wtd_none rfl) (x_move rfl) ?_
      refine dr_light rfl rfl (wtd_none rfl) (x_move rfl) ?_
      refine dr_light rfl rfl (wtd_none rfl) (x_add' rfl rfl (i64w (by omega) (by omega))) ?_
      refine dr_light rfl rfl (wtd_none rfl) (x_sliceLoK (i + 1) Try.underlying73 sz86 rfl rfl (by omega) (by omega) (by omega) (by omega)) ?_
      refine dr_light rfl rfl (wtd_none rfl) (x_move rfl) ?_
      refine dr_light rfl rfl (wtd_none rfl) (x_move rfl) ?_
      refine dr_light rfl rfl (wtd_none rfl) (x_sliceLoK (i) Try.underlying73 sz86 rfl rfl (by omega) (by omega) (by omega) (by omega)) ?_
      refine dr_effE rfl rfl (wtd_none rfl) ((x_copy (m := n - i) (N := L.drop (i * 3)) (cs' := cs1) Try.underlying73 sz86 rfl rfl (by show min _ _ = _; omega) (cells_ld (by repeat (first | exact List.mem_cons_self | apply List.mem_cons_of_mem | apply List.mem_append_right)) _) (by rw [List.length_drop, hL, ← Nat.sub_mul]) (all_drop hL1) (by repeat (first | exact Repl.here | apply Repl.there | apply Repl.app)) (by rw [Nat.zero_add]; exact hs1)).opSF) (by exact fun hw L => ⟨_, _, ⟨rfl, rfl⟩, hw.1, fun b hb => .inl hb⟩) ?_
      rintro _ _ ⟨rfl, rfl⟩
      refine dr_nil0 ?_
      refine aw_keep (keep_cons (t := 0) rfl (keep_cons (t := 1) rfl (keep_cons (t := 2) rfl (keep_cons (t := 6) rfl (keep_cons (t := 7) rfl (keep_cons (t := 8) rfl keep_nil)))))) ?_
      refine aw_seq_region ?_
      refine sr_x rfl (wtd_none rfl) rfl (Rd.x (x_move rfl)) ?_
      refine sr_x rfl (wtd_none rfl) rfl (Rd.x (x_move rfl)) ?_
      refine sr_x rfl (wtd_none rfl) rfl (Rd.x (x_sliceLoK (i) Try.underlying73 sz86 rfl rfl (by omega) (by omega) (by omega) (by omega))) ?_
      refine sr_x rfl (wtd_none rfl) rfl (Rd.x (x_move rfl)) ?_
      refine sr_d rfl (wtd_none rfl) rfl ((x_copy (m := 1) (N := N) (cs' := (L.take (i * 3) ++ N ++ L.drop (i * 3)) ++ post.drop 3) Try.underlying73 sz86 rfl rfl (by show min _ _ = _; omega) (cells_ext (by repeat (first | exact List.mem_cons_self | apply List.mem_cons_of_mem | apply List.mem_append_right)) (by repeat (first | exact Ext.all _ | exact Ext.done | apply Ext.take | apply Ext.skip))) (by rw [hN, Nat.one_mul]) (hN1) (by repeat (first | exact Repl.here | apply Repl.there | apply Repl.app)) (by rw [Nat.zero_add]; exact hs2)).opS) ?_
      rintro _ _ ⟨rfl, rfl⟩
      refine sr_nil ?_
      refine aw_keep (keep_cons (t := 0) rfl (keep_cons (t := 1) rfl (keep_cons (t := 2) rfl (keep_cons (t := 6) rfl (keep_cons (t := 7) rfl (keep_cons (t := 8) rfl keep_nil)))))) ?_
      refine aw_seq_region ?_
      refine sr_x rfl (wtd_none rfl) rfl (Rd.x (x_move rfl)) ?_
      refine sr_x rfl (wtd_none rfl) rfl (Rd.x (x_assign rfl)) ?_
      refine sr_nil ?_
      refine aw_keep (keep_cons (t := 0) rfl (keep_cons (t := 1) rfl (keep_cons (t := 2) rfl (keep_cons (t := 6) rfl (keep_cons (t := 7) rfl (keep_cons (t := 8) rfl keep_nil)))))) ?_
      refine aw_ret ?_
      show ∃ v H2, ResV _ _ _ _ _ _ v ∧ Sub H2 _ ∧ _
      first | (rw [← ins_end (i := i) hL (by omega)] at hV25; exact ⟨_, E25 ++ G, resV rfl (.cons rfl .nil), (by (repeat (first | exact Sub.refl _ | refine Sub.take (by repeat (first | exact Take.here | apply Take.there | apply Take.app)) ?_ | refine Sub.takeE (by repeat (first | exact TakeE.here | apply TakeE.there | apply TakeE.app)) ?_ | exact Sub.nil _ | apply Sub.drop | apply Sub.dropE)); first | done | fail), a25, cap25, E25, rfl, hV25, rfl⟩) | exact ⟨_, (b2, .cells ((L.take (i * 3) ++ N ++ L.drop (i * 3)) ++ post2).toArray 86 (0, 0)) :: G, resV rfl (.cons rfl .nil), (by (repeat (first | exact Sub.refl _ | refine Sub.take (by repeat (first | exact Take.here | apply Take.there | apply Take.app)) ?_ | refine Sub.takeE (by repeat (first | exact TakeE.here | apply TakeE.there | apply TakeE.app)) ?_ | exact Sub.nil _ | apply Sub.drop | apply Sub.dropE)); first | done | fail), some ⟨b2, 0, none⟩, cap40, [(b2, .cells ((L.take (i * 3) ++ N ++ L.drop (i * 3)) ++ post2).toArray 86 (0, 0))], rfl, .mk (ins_len hL hN hi) hp2 hn2 hc2, rfl⟩ | exact ⟨_, (b, .cells ((L.take (i * 3) ++ N ++ L.drop (i * 3)) ++ post.drop 3).toArray 86 (0, 0)) :: G, resV rfl (.cons rfl .nil), (by (repeat (first | exact Sub.refl _ | refine Sub.take (by repeat (first | exact Take.here | apply Take.there | apply Take.app)) ?_ | refine Sub.takeE (by repeat (first | exact TakeE.here | apply TakeE.there | apply TakeE.app)) ?_ | exact Sub.nil _ | apply Sub.drop | apply Sub.dropE)); first | done | fail), some ⟨b, 0, none⟩, cap, [(b, .cells ((L.take (i * 3) ++ N ++ L.drop (i * 3)) ++ post.drop 3).toArray 86 (0, 0))], rfl, .mk (ins_len hL hN hi) (by rw [List.length_drop, hp, show cap - n = (cap - (n + 1)) + 1 from by omega, Nat.add_mul]; omega) (by omega) hcap, rfl⟩
set_option maxRecDepth 100000 in
set_option maxHeartbeats 400000 in
theorem uinsert_sN (r : Nat) (N : List Value) (G : SHeap) (hN : N.length = 3) (hN1 : N.all oneCell = true) : AC Try.prog W0 108 [.slice none 0 0, .int .i64 ((0 : Nat) : Int), .slice (some ⟨r, 0, none⟩) 1 1] ((r, .cells N.toArray 86 (0, 0)) :: G) (fun v H' => ∃ a' cap' E', v = .slice a' 1 cap' ∧ OwnVec 3 86 (.slice a' 1 cap') 1 N E' ∧ H' = E' ++ G) := by
  refine ac_of Try.func108 rfl rfl rfl ?_
  refine aw_seq_region ?_
  refine sr_x rfl (wtd_none rfl) rfl (Rd.x (x_assign rfl)) ?_
  refine sr_nil ?_
  refine aw_keep (keep_cons (t := 0) rfl (keep_cons (t := 1) rfl (keep_cons (t := 2) rfl (keep_cons (t := 6) rfl keep_nil)))) ?_
  refine aw_seq_region ?_
  refine sr_x rfl (wtd_none rfl) rfl (Rd.x (x_move rfl)) ?_
  refine sr_x rfl (wtd_none rfl) rfl (Rd.x (x_move rfl)) ?_
  refine sr_x rfl (wtd_none rfl) rfl (Rd.x (x_sliceLo0 Try.underlying73 sz86 rfl rfl rfl)) ?_
  refine sr_nil ?_
  refine aw_keep (keep_cons (t := 0) rfl (keep_cons (t := 1) rfl (keep_cons (t := 2) rfl (keep_cons (t := 6) rfl keep_nil)))) ?_
  refine aw_seq_region ?_
  refine sr_x rfl (wtd_none rfl) rfl (Rd.x (x_move rfl)) ?_
  refine sr_x rfl (wtd_none rfl) rfl (Rd.x (x_lenSlice Try.underlying73 rfl)) ?_
  refine sr_x rfl (wtd_none rfl) rfl (Rd.x (x_assign rfl)) ?_
  refine sr_nil ?_
  refine aw_keep (keep_cons (t := 0) rfl (keep_cons (t := 1) rfl (keep_cons (t := 2) rfl (keep_cons (t := 6) rfl (keep_cons (t := 7) rfl keep_nil))))) ?_
  refine aw_seq ?_
  refine aw_seq_region ?_
  refine sr_x rfl (wtd_none rfl) rfl (Rd.x (x_move rfl)) ?_
  refine sr_cmp rfl (wtd_none rfl) rfl (Rd.x (x_eq rfl rfl)) (fun h1 => absurd h1 (by first | omega | decide)) (fun h1 => ?_)
  refine sr_nil ?_
  refine aw_keep (keep_cons (t := 0) rfl (keep_cons (t := 1) rfl (keep_cons (t := 2) rfl (keep_cons (t := 6) rfl (keep_cons (t := 7) rfl (keep_cons (t := 16) rfl keep_nil)))))) ?_
  refine aw_false rfl ?_
  refine aw_skip ?_
  show AW _ _ _ _ _ _ _
  refine aw_seq_region ?_
  refine sr_x rfl (wtd_none rfl) rfl (Rd.x (x_move rfl)) ?_
  refine sr_x rfl (wtd_none rfl) rfl (Rd.x (x_lenSlice Try.underlying73 rfl)) ?_
  refine sr_x rfl (wtd_none rfl) rfl (Rd.x (x_assign rfl)) ?_
  refine sr_nil ?_
  refine aw_keep (keep_cons (t := 0) rfl (keep_cons (t := 1) rfl (keep_cons (t := 2) rfl (keep_cons (t := 6) rfl (keep_cons (t := 7) rfl (keep_cons (t := 8) rfl keep_nil)))))) ?_
  refine aw_seq ?_
  refine aw_seq_region ?_
  refine sr_x rfl (wtd_none rfl) rfl (Rd.x (x_move rfl)) ?_
  refine sr_x rfl (wtd_none rfl) rfl (Rd.x (x_move rfl)) ?_
  refine sr_cmp rfl (wtd_none rfl) rfl (Rd.x (x_eq rfl rfl)) (fun h2 => ?_) (fun h2 => absurd (by first | omega | decide) h2)
  refine sr_nil ?_
  refine aw_keep (keep_cons (t := 0) rfl (keep_cons (t := 1) rfl (keep_cons (t := 2) rfl (keep_cons (t := 6) rfl (keep_cons (t := 7) rfl (keep_cons (t := 8) rfl (keep_cons (t := 22) rfl keep_nil))))))) ?_
  refine aw_true rfl ?_
  refine aw_seq_region ?_
  refine sr_x rfl (wtd_none rfl) rfl (Rd.x (x_move rfl)) ?_
  refine sr_x rfl (wtd_none rfl) rfl (Rd.x (x_move rfl)) ?_
  refine sr_d rfl (wtd_none rfl) rfl (opS_append (G := G) (N := N) (m := 1) Try.underlying73 sz86 zr86 rfl by86 rfl rfl OwnVec.nil (by repeat (first | exact Sub.refl _ | refine Sub.take (by repeat (first | exact Take.here | apply Take.there | apply Take.app)) ?_ | refine Sub.takeE (by repeat (first | exact TakeE.here | apply TakeE.there | apply TakeE.app)) ?_ | exact Sub.nil _ | apply Sub.drop | apply Sub.dropE)) (.inr ⟨_, _, rfl, (cells_ext (by repeat (first | exact List.mem_cons_self | apply List.mem_cons_of_mem | apply List.mem_append_right)) (by repeat (first | exact Ext.all _ | exact Ext.done | apply Ext.take | apply Ext.skip)))⟩) (by rw [hN, Nat.one_mul]) hN1 (by omega) (by omega)) ?_
  rintro v25 _ ⟨E25, hV25, rfl⟩
  obtain ⟨a25, cap25, rfl⟩ := hV25.isSl
  refine sr_x rfl (wtd_none rfl) rfl (Rd.x (x_assign rfl)) ?_
  refine sr_nil ?_
  refine aw_keep (keep_cons (t := 0) rfl (keep_cons (t := 1) rfl (keep_cons (t := 2) rfl (keep_cons (t := 6) rfl (keep_cons (t := 7) rfl (keep_cons (t := 8) rfl keep_nil)))))) ?_
  refine aw_ret ?_
  show ∃ v H2, ResV _ _ _ _ _ _ v ∧ Sub H2 _ ∧ _
  exact ⟨_, E25 ++ G, resV rfl (.cons rfl .nil), (by (repeat (first | exact Sub.refl _ | refine Sub.take (by repeat (first | exact Take.here | apply Take.there | apply Take.app)) ?_ | refine Sub.takeE (by repeat (first | exact TakeE.here | apply TakeE.there | apply TakeE.app)) ?_ | exact Sub.nil _ | apply Sub.drop | apply Sub.dropE)); first | done | fail), a25, cap25, E25, rfl, by simpa using hV25, rfl⟩
theorem uinsert_s (v : Value) (n i r : Nat) (L N : List Value) (Ev G : SHeap) (V : OwnVec 3 86 v n L Ev) (hN : N.length = 3) (hN1 : N.all oneCell = true) (hL1 : L.all oneCell = true) (hi : i ≤ n) (hn : n ≤ 1000000) : AC Try.prog W0 108 [v, .int .i64 i, .slice (some ⟨r, 0, none⟩) 1 1] (Ev ++ ((r, .cells N.toArray 86 (0, 0)) :: G)) (fun v H' => ∃ a' cap' E', v = .slice a' (n + 1) cap' ∧ OwnVec 3 86 (.slice a' (n + 1) cap') (n + 1) (L.take (i * 3) ++ N ++ L.drop (i * 3)) E' ∧ H' = E' ++ G) := by
  cases V with
  | nil =>
    have : i = 0 := by omega
    subst this
    refine (uinsert_sN (W0 := W0) r N G hN hN1).mono fun v H' h => ?_
    simpa using h
  | mk hL hp hnc hcap => exact uinsert_sM r n _ i _ L N _ G hL hp hnc hcap hN hN1 hL1 hi hn
set_option maxRecDepth 100000 in
set_option maxHeartbeats 1000000 in
theorem ubsearch_s (a : Option Addr) (cap : Nat) (xs : List User) (id : Int) (c : User → Int) (H : SHeap) (hs : SlV W0 H 3 User.cells a cap xs) (hn : xs.length ≤ 1000000) (hf : ∀ x ∈ xs, ∀ H, AC Try.prog W0 135 [User.v x, .int .i64 id] H (fun v H' => v = .int .i64 (c x) ∧ H' = H)) (hmono : ∀ (i j : Nat) (x y : User), i ≤ j → xs[i]? = some x → xs[j]? = some y → 0 ≤ c x → 0 ≤ c y) : AC Try.prog W0 134 [.slice a xs.length cap, .int .i64 id, .func (.func 135) #[] #[]] H (fun v H' => (∃ (i : Nat) (ok : Bool), v = .tuple #[.int .i64 i, .bool ok] ∧ i ≤ xs.length ∧ (∀ k x, k < i → xs[k]? = some x → c x < 0) ∧ (∀ k x, i ≤ k → xs[k]? = some x → 0 ≤ c x) ∧ (ok = true ↔ ∃ x, xs[i]? = some x ∧ c x = 0)) ∧ H' = H) := by
  have hle := hs.le
  have hcb := hs.capb
  refine ac_of Try.func134 rfl rfl rfl ?_
  refine aw_seq_region ?_
  refine sr_x rfl (wtd_none rfl) rfl (Rd.x (x_assign rfl)) ?_
  refine sr_x rfl (wtd_none rfl) rfl (Rd.x (x_assign rfl)) ?_
  refine sr_nil ?_
  refine aw_keep (keep_cons (t := 0) rfl (keep_cons (t := 1) rfl (keep_cons (t := 2) rfl (keep_cons (t := 6) rfl (keep_cons (t := 7) rfl keep_nil))))) ?_
  refine aw_seq_region ?_
  refine sr_x rfl (wtd_none rfl) rfl (Rd.x (x_move rfl)) ?_
  refine sr_x rfl (wtd_none rfl) rfl (Rd.x (x_lenSlice Try.underlying73 rfl)) ?_
  refine sr_x rfl (wtd_none rfl) rfl (Rd.x (x_assign rfl)) ?_
  refine sr_nil ?_
  refine aw_keep (keep_cons (t := 0) rfl (keep_cons (t := 1) rfl (keep_cons (t := 2) rfl (keep_cons (t := 6) rfl (keep_cons (t := 7) rfl (keep_cons (t := 8) rfl keep_nil)))))) ?_
  refine aw_seq_region ?_
  refine sr_x rfl (wtd_none rfl) rfl (Rd.x (x_move rfl)) ?_
  refine sr_x rfl (wtd_none rfl) rfl (Rd.x (x_assign rfl)) ?_
  refine sr_x rfl (wtd_none rfl) rfl (Rd.x (x_assign rfl)) ?_
  refine sr_nil ?_
  refine aw_keep (keep_cons (t := 0) rfl (keep_cons (t := 1) rfl (keep_cons (t := 2) rfl (keep_cons (t := 6) rfl (keep_cons (t := 7) rfl (keep_cons (t := 8) rfl (keep_cons (t := 9) rfl (keep_cons (t := 10) rfl keep_nil)))))))) ?_
  refine aw_seq ?_
  refine aw_block ?_
  refine aw_loop (ι := Nat × Nat) (fun s => s.1 ≤ s.2 ∧ s.2 ≤ xs.length ∧ (∀ k x, k < s.1 → xs[k]? = some x → c x < 0) ∧ (∀ k x, s.2 ≤ k → xs[k]? = some x → 0 ≤ c x)) (fun s => [(0, .slice a xs.length cap), (1, .int .i64 id), (2, .func (.func 135) #[] #[]), (8, .int .i64 xs.length), (9, .int .i64 s.1), (10, .int .i64 s.2)]) (fun _ => H) (fun s => s.2 - s.1) (0, xs.length) (⟨Nat.zero_le _, Nat.le_refl _, fun k x h => by omega, fun k x h hx => by have := get_lt hx; simp only at h; omega⟩) (by (repeat (first | exact keep_nil | refine keep_cons rfl ?_)); first | done | fail) (by repeat (first | exact Sub.refl _ | apply Sub.drop)) ?_
  intro s hs9
  obtain ⟨i, j⟩ := s
  obtain ⟨h9a, h9b, h9c, h9d⟩ := hs9
  simp only at h9a h9b h9c h9d ⊢
  refine aw_seq ?_
  refine aw_seq_region ?_
  refine sr_x rfl (wtd_none rfl) rfl (Rd.x (x_move rfl)) ?_
  refine sr_x rfl (wtd_none rfl) rfl (Rd.x (x_move rfl)) ?_
  refine sr_cmp rfl (wtd_none rfl) rfl (Rd.x (x_lt rfl rfl)) (fun h1 => ?_) (fun h1 => ?_)
  · refine sr_nil ?_
    refine aw_keep (keep_cons (t := 0) rfl (keep_cons (t := 1) rfl (keep_cons (t := 2) rfl (keep_cons (t := 8) rfl (keep_cons (t := 9) rfl (keep_cons (t := 10) rfl (keep_cons (t := 15) rfl (keep_cons (t := 16) rfl (keep_cons (t := 17) rfl keep_nil))))))))) ?_
    refine aw_true rfl ?_
    refine aw_skip ?_
    show AW _ _ _ _ _ _ _
    refine aw_block ?_
    refine aw_seq_region ?_
    refine sr_x rfl (wtd_none rfl) rfl (Rd.x (x_move rfl)) ?_
    refine sr_x rfl (wtd_none rfl) rfl (Rd.x (x_move rfl)) ?_
    refine sr_x rfl (wtd_none rfl) rfl (Rd.x (x_add' rfl rfl (i64w (by omega) (by omega)))) ?_
    refine sr_x rfl (wtd_none rfl) rfl (Rd.x (x_conv' Try.underlying3 Try.underlying207 rfl (u64w (by omega) (by omega)))) ?_
    refine sr_x rfl (wtd_none rfl) rfl (Rd.x (x_cast (x_shr rfl rfl (by omega)) (shr1 i j))) ?_
    refine sr_x rfl (wtd_none rfl) rfl (Rd.x (x_conv' Try.underlying207 Try.underlying3 rfl (i64w (by omega) (by omega)))) ?_
    refine sr_x rfl (wtd_none rfl) rfl (Rd.x (x_assign rfl)) ?_
    refine sr_nil ?_
    refine aw_keep (keep_cons (t := 0) rfl (keep_cons (t := 1) rfl (keep_cons (t := 2) rfl (keep_cons (t := 8) rfl (keep_cons (t := 9) rfl (keep_cons (t := 10) rfl (keep_cons (t := 11) rfl (keep_cons (t := 15) rfl (keep_cons (t := 16) rfl (keep_cons (t := 17) rfl (keep_cons (t := 18) rfl (keep_cons (t := 19) rfl (keep_cons (t := 20) rfl (keep_cons (t := 21) rfl (keep_cons (t := 22) rfl (keep_cons (t := 23) rfl keep_nil)))))))))))))))) ?_
    refine aw_seq_region ?_
    obtain ⟨x, hx⟩ := get_ex (show (i + j) / 2 < xs.length by omega)
    obtain ⟨bx, ox, ha, hcx⟩ := hs.at_ _ _ hx
    refine sr_x rfl (wtd_none rfl) rfl (Rd.x (x_move rfl)) ?_
    refine sr_x rfl (wtd_none rfl) rfl (Rd.x (x_move rfl)) ?_
    refine sr_x rfl (wtd_none rfl) rfl (Rd.x (x_move rfl)) ?_
    refine sr_x rfl (wtd_none rfl) rfl (Rd.x (x_indexAddrN ((i + j) / 2) Try.underlying73 sz86 rfl ha rfl (by omega) (by omega))) ?_
    refine sr_x rfl (wtd_none rfl) rfl (Rd.x (x_loadN ag86 sz86 rfl (Cells.mono hcx (by repeat (first | exact Sub.refl _ | apply Sub.drop))) rfl)) ?_
    refine sr_x rfl (wtd_none rfl) rfl (Rd.x (x_move rfl)) ?_
    refine sr_d rfl (wtd_none rfl) rfl (opS_call rfl rfl rfl rfl cl135 (hf x (List.mem_of_getElem? hx) _)) ?_
    rintro _ H ⟨rfl, rfl⟩
    refine sr_cmp rfl (wtd_none rfl) rfl (Rd.x (x_lt rfl rfl)) (fun h2 => ?_) (fun h2 => ?_)
    · refine sr_nil ?_
      refine aw_keep (keep_cons (t := 0) rfl (keep_cons (t := 1) rfl (keep_cons (t := 2) rfl (keep_cons (t := 8) rfl (keep_cons (t := 9) rfl (keep_cons (t := 10) rfl (keep_cons (t := 11) rfl (keep_cons (t := 15) rfl (keep_cons (t := 16) rfl (keep_cons (t := 17) rfl (keep_cons (t := 18) rfl (keep_cons (t := 19) rfl (keep_cons (t := 20) rfl (keep_cons (t := 21) rfl (keep_cons (t := 22) rfl (keep_cons (t := 23) rfl (keep_cons (t := 24) rfl (keep_cons (t := 25) rfl (keep_cons (t := 26) rfl (keep_cons (t := 27) rfl (keep_cons (t := 28) rfl (keep_cons (t := 29) rfl (keep_cons (t := 30) rfl (keep_cons (t := 31) rfl keep_nil)))))))))))))))))))))))) ?_
      refine aw_true rfl ?_
      refine aw_region ?_
      refine sr_x rfl (wtd_none rfl) rfl (Rd.x (x_move rfl)) ?_
      refine sr_x rfl (wtd_none rfl) rfl (Rd.x (x_add' rfl rfl (i64w (by omega) (by omega)))) ?_
      refine sr_x rfl (wtd_none rfl) rfl (Rd.x (x_assign rfl)) ?_
      refine sr_nil ?_
      show ∃ s', _ ∧ _ ∧ _ ∧ _
      first | exact ⟨((i + j) / 2 + 1, j), ⟨by dsimp only; omega, h9b, bs_lo hx hmono (by omega), h9d⟩, by dsimp only; omega, (by (repeat (first | exact keep_nil | refine keep_cons rfl ?_)); first | done | fail), (by repeat (first | exact Sub.refl _ | apply Sub.drop))⟩ | exact ⟨(i, (i + j) / 2), ⟨by dsimp only; omega, by dsimp only; omega, h9c, bs_hi hx hmono (by omega)⟩, by dsimp only; omega, (by (repeat (first | exact keep_nil | refine keep_cons rfl ?_)); first | done | fail), (by repeat (first | exact Sub.refl _ | apply Sub.drop))⟩
    · refine sr_nil ?_
      refine aw_keep (keep_cons (t := 0) rfl (keep_cons (t := 1) rfl (keep_cons (t := 2) rfl (keep_cons (t := 8) rfl (keep_cons (t := 9) rfl (keep_cons (t := 10) rfl (keep_cons (t := 11) rfl (keep_cons (t := 15) rfl (keep_cons (t := 16) rfl (keep_cons (t := 17) rfl (keep_cons (t := 18) rfl (keep_cons (t := 19) rfl (keep_cons (t := 20) rfl (keep_cons (t := 21) rfl (keep_cons (t := 22) rfl (keep_cons (t := 23) rfl (keep_cons (t := 24) rfl (keep_cons (t := 25) rfl (keep_cons (t := 26) rfl (keep_cons (t := 27) rfl (keep_cons (t := 28) rfl (keep_cons (t := 29) rfl (keep_cons (t := 30) rfl (keep_cons (t := 31) rfl keep_nil)))))))))))))))))))))))) ?_
      refine aw_false rfl ?_
      refine aw_region ?_
      refine sr_x rfl (wtd_none rfl) rfl (Rd.x (x_move rfl)) ?_
      refine sr_x rfl (wtd_none rfl) rfl (Rd.x (x_assign rfl)) ?_
      refine sr_nil ?_
      show ∃ s', _ ∧ _ ∧ _ ∧ _
      first | exact ⟨((i + j) / 2 + 1, j), ⟨by dsimp only; omega, h9b, bs_lo hx hmono (by omega), h9d⟩, by dsimp only; omega, (by (repeat (first | exact keep_nil | refine keep_cons rfl ?_)); first | done | fail), (by repeat (first | exact Sub.refl _ | apply Sub.drop))⟩ | exact ⟨(i, (i + j) / 2), ⟨by dsimp only; omega, by dsimp only; omega, h9c, bs_hi hx hmono (by omega)⟩, by dsimp only; omega, (by (repeat (first | exact keep_nil | refine keep_cons rfl ?_)); first | done | fail), (by repeat (first | exact Sub.refl _ | apply Sub.drop))⟩
  · refine sr_nil ?_
    refine aw_keep (keep_cons (t := 0) rfl (keep_cons (t := 1) rfl (keep_cons (t := 2) rfl (keep_cons (t := 8) rfl (keep_cons (t := 9) rfl (keep_cons (t := 10) rfl (keep_cons (t := 15) rfl (keep_cons (t := 16) rfl (keep_cons (t := 17) rfl keep_nil))))))))) ?_
    refine aw_false rfl ?_
    refine aw_exit ?_
    show AW _ _ _ _ _ _ _
    refine aw_seq_region ?_
    refine sr_x rfl (wtd_none rfl) rfl (Rd.x (x_move rfl)) ?_
    refine sr_x rfl (wtd_none rfl) rfl (Rd.x (x_move rfl)) ?_
    refine sr_x rfl (wtd_none rfl) rfl (Rd.x (x_move rfl)) ?_
    refine sr_cmp rfl (wtd_none rfl) rfl (Rd.x (x_lt rfl rfl)) (fun h3 => ?_) (fun h3 => ?_)
    · refine sr_x rfl (wtd_none rfl) rfl (Rd.x (x_move rfl)) ?_
      obtain ⟨x, hx⟩ := get_ex (show i < xs.length by omega)
      obtain ⟨bx, ox, ha, hcx⟩ := hs.at_ _ _ hx
      refine sr_x rfl (wtd_yes rfl rfl rfl) rfl (Rd.x (x_move rfl)) ?_
      refine sr_x rfl (wtd_yes rfl rfl rfl) rfl (Rd.x (x_move rfl)) ?_
      refine sr_x rfl (wtd_yes rfl rfl rfl) rfl (Rd.x (x_move rfl)) ?_
      refine sr_x rfl (wtd_yes rfl rfl rfl) rfl (Rd.x (x_indexAddrN i Try.underlying73 sz86 rfl ha rfl (by omega) (by omega))) ?_
      refine sr_x rfl (wtd_yes rfl rfl rfl) rfl (Rd.x (x_loadN ag86 sz86 rfl (Cells.mono hcx (by repeat (first | exact Sub.refl _ | apply Sub.drop))) rfl)) ?_
      refine sr_x rfl (wtd_yes rfl rfl rfl) rfl (Rd.x (x_move rfl)) ?_
      refine sr_d rfl (wtd_yes rfl rfl rfl) rfl (opS_call rfl rfl rfl rfl cl135 (hf x (List.mem_of_getElem? hx) _)) ?_
      rintro _ H ⟨rfl, rfl⟩
      refine sr_cmp rfl (wtd_yes rfl rfl rfl) rfl (Rd.x (x_eq rfl rfl)) (fun h4 => ?_) (fun h4 => ?_)
      · refine sr_x rfl (wtd_none rfl) rfl (Rd.x (x_pick_t rfl rfl rfl)) ?_
        refine sr_x rfl (wtd_none rfl) rfl (Rd.x (x_assign rfl)) ?_
        refine sr_x rfl (wtd_none rfl) rfl (Rd.x (x_assign rfl)) ?_
        refine sr_nil ?_
        refine aw_keep (keep_cons (t := 6) rfl (keep_cons (t := 7) rfl keep_nil)) ?_
        refine aw_ret ?_
        show ∃ v H2, ResV _ _ _ _ _ _ v ∧ Sub H2 _ ∧ _
        exact ⟨_, H, resV rfl (.cons rfl (.cons rfl .nil)), (by repeat (first | exact Sub.refl _ | apply Sub.drop)), (by (have e9 : i = j := by omega); subst e9; first | exact ⟨⟨i, true, rfl, h9b, h9c, h9d, ⟨fun _ => ⟨x, hx, by assumption⟩, fun _ => rfl⟩⟩, rfl⟩ | exact ⟨⟨i, false, rfl, h9b, h9c, h9d, ⟨(fun h => nomatch h), fun ⟨y, hy, hy0⟩ => by first | (have := get_lt hy; exfalso; omega) | (rw [hx] at hy; cases hy; exact absurd hy0 (by assumption))⟩⟩, rfl⟩)⟩
      · refine sr_x rfl (wtd_none rfl) rfl (Rd.x (x_pick_t rfl rfl rfl)) ?_
        refine sr_x rfl (wtd_none rfl) rfl (Rd.x (x_assign rfl)) ?_
        refine sr_x rfl (wtd_none rfl) rfl (Rd.x (x_assign rfl)) ?_
        refine sr_nil ?_
        refine aw_keep (keep_cons (t := 6) rfl (keep_cons (t := 7) rfl keep_nil)) ?_
        refine aw_ret ?_
        show ∃ v H2, ResV _ _ _ _ _ _ v ∧ Sub H2 _ ∧ _
        exact ⟨_, H, resV rfl (.cons rfl (.cons rfl .nil)), (by repeat (first | exact Sub.refl _ | apply Sub.drop)), (by (have e9 : i = j := by omega); subst e9; first | exact ⟨⟨i, true, rfl, h9b, h9c, h9d, ⟨fun _ => ⟨x, hx, by assumption⟩, fun _ => rfl⟩⟩, rfl⟩ | exact ⟨⟨i, false, rfl, h9b, h9c, h9d, ⟨(fun h => nomatch h), fun ⟨y, hy, hy0⟩ => by first | (have := get_lt hy; exfalso; omega) | (rw [hx] at hy; cases hy; exact absurd hy0 (by assumption))⟩⟩, rfl⟩)⟩
    · refine sr_x rfl (wtd_none rfl) rfl (Rd.x (x_move rfl)) ?_
      refine sr_skip rfl (wtd_no rfl rfl rfl rfl) rfl ?_
      refine sr_skip rfl (wtd_no rfl rfl rfl rfl) rfl ?_
      refine sr_skip rfl (wtd_no rfl rfl rfl rfl) rfl ?_
      refine sr_skip rfl (wtd_no rfl rfl rfl rfl) rfl ?_
      refine sr_skip rfl (wtd_no rfl rfl rfl rfl) rfl ?_
      refine sr_skip rfl (wtd_no rfl rfl rfl rfl) rfl ?_
      refine sr_skip rfl (wtd_no rfl rfl rfl rfl) rfl ?_
      refine sr_skip rfl (wtd_no rfl rfl rfl rfl) rfl ?_
      refine sr_x rfl (wtd_none rfl) rfl (Rd.x (x_pick_f rfl rfl rfl)) ?_
      refine sr_x rfl (wtd_none rfl) rfl (Rd.x (x_assign rfl)) ?_
      refine sr_x rfl (wtd_none rfl) rfl (Rd.x (x_assign rfl)) ?_
      refine sr_nil ?_
      refine aw_keep (keep_cons (t := 6) rfl (keep_cons (t := 7) rfl keep_nil)) ?_
      refine aw_ret ?_
      show ∃ v H2, ResV _ _ _ _ _ _ v ∧ Sub H2 _ ∧ _
      exact ⟨_, H, resV rfl (.cons rfl (.cons rfl .nil)), (by repeat (first | exact Sub.refl _ | apply Sub.drop)), (by (have e9 : i = j := by omega); subst e9; first | exact ⟨⟨i, true, rfl, h9b, h9c, h9d, ⟨fun _ => ⟨x, hx, by assumption⟩, fun _ => rfl⟩⟩, rfl⟩ | exact ⟨⟨i, false, rfl, h9b, h9c, h9d, ⟨(fun h => nomatch h), fun ⟨y, hy, hy0⟩ => by first | (have := get_lt hy; exfalso; omega) | (rw [hx] at hy; cases hy; exact absurd hy0 (by assumption))⟩⟩, rfl⟩)⟩
set_option maxRecDepth 100000 in
set_option maxHeartbeats 400000 in
theorem ufind_s (p : Nat) (a : Option Addr) (cap : Nat) (us : List User) (half now id : Int) (H : SHeap) (hc : Cells W0 H p 0 (bkC (.slice a us.length cap) half now)) (hs : SlV W0 H 3 User.cells a cap us) (hsrt : Srt us) (hn : us.length ≤ 1000000) : AC Try.prog W0 107 [.pointer (some ⟨p, 0, none⟩), .int .i64 id] H (fun v H' => (∃ (i : Nat) (ok : Bool), v = .tuple #[.int .i64 i, .bool ok] ∧ At us id i ∧ (ok = true ↔ ∃ x ∈ us, x.id = id)) ∧ H' = H) := by
  refine ac_of Try.func107 rfl rfl rfl ?_
  refine aw_seq_region ?_
  refine sr_x rfl (wtd_none rfl) rfl (Rd.x (x_assign rfl)) ?_
  refine sr_x rfl (wtd_none rfl) rfl (Rd.x (x_assign rfl)) ?_
  refine sr_nil ?_
  refine aw_keep (keep_cons (t := 0) rfl (keep_cons (t := 1) rfl (keep_cons (t := 4) rfl (keep_cons (t := 5) rfl keep_nil)))) ?_
  refine aw_seq_region ?_
  refine sr_x rfl (wtd_none rfl) rfl (Rd.x (x_move rfl)) ?_
  refine sr_x rfl (wtd_none rfl) rfl (Rd.x (x_nilCheck rfl)) ?_
  refine sr_x rfl (wtd_none rfl) rfl (Rd.x (x_fieldAddr fd141_0 rfl)) ?_
  refine sr_x rfl (wtd_none rfl) rfl (Rd.x (x_load ag73 rfl (cells_get (Cells.mono hc (by repeat (first | exact Sub.refl _ | apply Sub.drop))) 0 rfl))) ?_
  refine sr_x rfl (wtd_none rfl) rfl (Rd.x (x_move rfl)) ?_
  refine sr_d rfl (wtd_none rfl) rfl (opS_call rfl rfl rfl rfl cl134 (ubsearch_s a cap us id (fun x => cmpI x.id id) _ (hs.mono (by repeat (first | exact Sub.refl _ | apply Sub.drop))) hn (fun x _ H => findcmp_s x id H) (fun i j x y hij hx hy h => cmpI_ge.2 (Int.le_trans (cmpI_ge.1 h) (srt_le hsrt hij hx hy))))) ?_
  rintro _ H ⟨⟨i, ok, rfl, hi1, hi2, hi3, hok⟩, rfl⟩
  refine sr_x rfl (wtd_none rfl) rfl (Rd.x (x_extract rfl rfl)) ?_
  refine sr_x rfl (wtd_none rfl) rfl (Rd.x (x_extract rfl rfl)) ?_
  refine sr_x rfl (wtd_none rfl) rfl (Rd.x (x_assign rfl)) ?_
  refine sr_x rfl (wtd_none rfl) rfl (Rd.x (x_assign rfl)) ?_
  refine sr_nil ?_
  refine aw_keep (keep_cons (t := 4) rfl (keep_cons (t := 5) rfl keep_nil)) ?_
  refine aw_ret ?_
  show ∃ v H2, ResV _ _ _ _ _ _ v ∧ Sub H2 _ ∧ _
  exact ⟨_, H, resV rfl (.cons rfl (.cons rfl .nil)), (by repeat (first | exact Sub.refl _ | apply Sub.drop)), ⟨⟨i, ok, rfl, ⟨hi1, fun k x hk hx => cmpI_lt.1 (hi2 k x hk hx), fun k x hk hx => cmpI_ge.1 (hi3 k x hk hx)⟩, hok.trans ⟨fun ⟨x, hx, h0⟩ => ⟨x, List.mem_of_getElem? hx, cmpI_eq.1 h0⟩, fun ⟨x, hx, h0⟩ => (find_here ⟨hi1, fun k x hk hx => cmpI_lt.1 (hi2 k x hk hx), fun k x hk hx => cmpI_ge.1 (hi3 k x hk hx)⟩ hsrt hx h0)⟩⟩, rfl⟩⟩
set_option maxRecDepth 100000 in
set_option maxHeartbeats 400000 in
theorem uright_s (u : User) (H : SHeap) : AC Try.prog W0 109 [u.v] H (fun v H' => v = .bool (decide (URight u)) ∧ H' = H) := by
  refine ac_of Try.func109 rfl rfl rfl ?_
  refine aw_seq_region ?_
  refine sr_new rfl (wtd_none rfl) rfl (x_box rfl rfl) ?_
  intro r0_0 hr0_0 gr0_0
  refine sr_x rfl (wtd_none rfl) rfl (Rd.x (x_assign rfl)) ?_
  refine sr_nil ?_
  refine aw_keep (keep_cons (t := 1) rfl (keep_cons (t := 2) rfl keep_nil)) ?_
  refine aw_seq_region ?_
  refine sr_x rfl (wtd_none rfl) rfl (Rd.x (x_fieldAddr fd86_0 rfl)) ?_
  refine sr_x rfl (wtd_none rfl) rfl (Rd.x (x_load ag3 rfl (cells_ext (by repeat (first | exact List.mem_cons_self | apply List.mem_cons_of_mem | apply List.mem_append_right)) (by repeat (first | exact Ext.all _ | exact Ext.done | apply Ext.take | apply Ext.skip))))) ?_
  refine sr_cmp rfl (wtd_none rfl) rfl (Rd.x (x_ge rfl rfl)) (fun h1 => ?_) (fun h1 => ?_)
  · refine sr_x rfl (wtd_none rfl) rfl (Rd.x (x_move rfl)) ?_
    refine sr_x rfl (wtd_yes rfl rfl rfl) rfl (Rd.x (x_fieldAddr fd86_0 rfl)) ?_
    refine sr_x rfl (wtd_yes rfl rfl rfl) rfl (Rd.x (x_load ag3 rfl (cells_ext (by repeat (first | exact List.mem_cons_self | apply List.mem_cons_of_mem | apply List.mem_append_right)) (by repeat (first | exact Ext.all _ | exact Ext.done | apply Ext.take | apply Ext.skip))))) ?_
    refine sr_cmp rfl (wtd_yes rfl rfl rfl) rfl (Rd.x (x_le rfl rfl)) (fun h2 => ?_) (fun h2 => ?_)
    · refine sr_x rfl (wtd_none rfl) rfl (Rd.x (x_pick_t rfl rfl rfl)) ?_
      refine sr_x rfl (wtd_none rfl) rfl (Rd.x (x_move rfl)) ?_
      refine sr_x rfl (wtd_yes rfl rfl rfl) rfl (Rd.x (x_fieldAddr fd86_1 rfl)) ?_
      refine sr_x rfl (wtd_yes rfl rfl rfl) rfl (Rd.x (x_load ag3 rfl (cells_ext (by repeat (first | exact List.mem_cons_self | apply List.mem_cons_of_mem | apply List.mem_append_right)) (by repeat (first | exact Ext.all _ | exact Ext.done | apply Ext.take | apply Ext.skip))))) ?_
      refine sr_cmp rfl (wtd_yes rfl rfl rfl) rfl (Rd.x (x_ge rfl rfl)) (fun h3 => ?_) (fun h3 => ?_)
      · refine sr_x rfl (wtd_none rfl) rfl (Rd.x (x_pick_t rfl rfl rfl)) ?_
        refine sr_x rfl (wtd_none rfl) rfl (Rd.x (x_move rfl)) ?_
        refine sr_x rfl (wtd_yes rfl rfl rfl) rfl (Rd.x (x_fieldAddr fd86_1 rfl)) ?_
        refine sr_x rfl (wtd_yes rfl rfl rfl) rfl (Rd.x (x_load ag3 rfl (cells_ext (by repeat (first | exact List.mem_cons_self | apply List.mem_cons_of_mem | apply List.mem_append_right)) (by repeat (first | exact Ext.all _ | exact Ext.done | apply Ext.take | apply Ext.skip))))) ?_
        refine sr_cmp rfl (wtd_yes rfl rfl rfl) rfl (Rd.x (x_le rfl rfl)) (fun h4 => ?_) (fun h4 => ?_)
        · refine sr_x rfl (wtd_none rfl) rfl (Rd.x (x_pick_t rfl rfl rfl)) ?_
          refine sr_x rfl (wtd_none rfl) rfl (Rd.x (x_move rfl)) ?_
          refine sr_x rfl (wtd_yes rfl rfl rfl) rfl (Rd.x (x_fieldAddr fd86_2 rfl)) ?_
          refine sr_x rfl (wtd_yes rfl rfl rfl) rfl (Rd.x (x_load ag2 rfl (cells_ext (by repeat (first | exact List.mem_cons_self | apply List.mem_cons_of_mem | apply List.mem_append_right)) (by repeat (first | exact Ext.all _ | exact Ext.done | apply Ext.take | apply Ext.skip))))) ?_
          refine sr_cmp rfl (wtd_yes rfl rfl rfl) rfl (Rd.x (x_ge rfl rfl)) (fun h5 => ?_) (fun h5 => ?_)
          · refine sr_x rfl (wtd_none rfl) rfl (Rd.x (x_pick_t rfl rfl rfl)) ?_
            refine sr_x rfl (wtd_none rfl) rfl (Rd.x (x_move rfl)) ?_
            refine sr_x rfl (wtd_yes rfl rfl rfl) rfl (Rd.x (x_fieldAddr fd86_2 rfl)) ?_
            refine sr_x rfl (wtd_yes rfl rfl rfl) rfl (Rd.x (x_load ag2 rfl (cells_ext (by repeat (first | exact List.mem_cons_self | apply List.mem_cons_of_mem | apply List.mem_append_right)) (by repeat (first | exact Ext.all _ | exact Ext.done | apply Ext.take | apply Ext.skip))))) ?_
            refine sr_cmp rfl (wtd_yes rfl rfl rfl) rfl (Rd.x (x_le rfl rfl)) (fun h6 => ?_) (fun h6 => ?_)
            · refine sr_x rfl (wtd_none rfl) rfl (Rd.x (x_pick_t rfl rfl rfl)) ?_
              refine sr_x rfl (wtd_none rfl) rfl (Rd.x (x_assign rfl)) ?_
              refine sr_nil ?_
              refine aw_keep (keep_cons (t := 2) rfl keep_nil) ?_
              refine aw_ret ?_
              show ∃ v H2, ResV _ _ _ _ _ _ v ∧ Sub H2 _ ∧ _
              exact ⟨_, H, resV rfl (.cons rfl .nil), (by repeat (first | exact Sub.refl _ | apply Sub.drop)), ⟨congrArg Value.bool (by first | exact (decide_eq_true (by omega)).symm | exact (decide_eq_false (by omega)).symm), rfl⟩⟩
            · refine sr_x rfl (wtd_none rfl) rfl (Rd.x (x_pick_t rfl rfl rfl)) ?_
              refine sr_x rfl (wtd_none rfl) rfl (Rd.x (x_assign rfl)) ?_
              refine sr_nil ?_
              refine aw_keep (keep_cons (t := 2) rfl keep_nil) ?_
              refine aw_ret ?_
              show ∃ v H2, ResV _ _ _ _ _ _ v ∧ Sub H2 _ ∧ _
              exact ⟨_, H, resV rfl (.cons rfl .nil), (by repeat (first | exact Sub.refl _ | apply Sub.drop)), ⟨congrArg Value.bool (by first | exact (decide_eq_true (by omega)).symm | exact (decide_eq_false (by omega)).symm), rfl⟩⟩
          · refine sr_x rfl (wtd_none rfl) rfl (Rd.x (x_pick_t rfl rfl rfl)) ?_
            refine sr_x rfl (wtd_none rfl) rfl (Rd.x (x_move rfl)) ?_
            refine sr_skip rfl (wtd_no rfl rfl rfl rfl) rfl ?_
            refine sr_skip rfl (wtd_no rfl rfl rfl rfl) rfl ?_
            refine sr_skip rfl (wtd_no rfl rfl rfl rfl) rfl ?_
            refine sr_x rfl (wtd_none rfl) rfl (Rd.x (x_pick_f rfl rfl rfl)) ?_
            refine sr_x rfl (wtd_none rfl) rfl (Rd.x (x_assign rfl)) ?_
            refine sr_nil ?_
            refine aw_keep (keep_cons (t := 2) rfl keep_nil) ?_
            refine aw_ret ?_
            show ∃ v H2, ResV _ _ _ _ _ _ v ∧ Sub H2 _ ∧ _
            exact ⟨_, H, resV rfl (.cons rfl .nil), (by repeat (first | exact Sub.refl _ | apply Sub.drop)), ⟨congrArg Value.bool (by first | exact (decide_eq_true (by omega)).symm | exact (decide_eq_false (by omega)).symm), rfl⟩⟩
        · refine sr_x rfl (wtd_none rfl) rfl (Rd.x (x_pick_t rfl rfl rfl)) ?_
          refine sr_x rfl (wtd_none rfl) rfl (Rd.x (x_move rfl)) ?_
          refine sr_skip rfl (wtd_no rfl rfl rfl rfl) rfl ?_
          refine sr_skip rfl (wtd_no rfl rfl rfl rfl) rfl ?_
          refine sr_skip rfl (wtd_no rfl rfl rfl rfl) rfl ?_
          refine sr_x rfl (wtd_none rfl) rfl (Rd.x (x_pick_f rfl rfl rfl)) ?_
          refine sr_x rfl (wtd_none rfl) rfl (Rd.x (x_move rfl)) ?_
          refine sr_skip rfl (wtd_no rfl rfl rfl rfl) rfl ?_
          refine sr_skip rfl (wtd_no rfl rfl rfl rfl) rfl ?_
          refine sr_skip rfl (wtd_no rfl rfl rfl rfl) rfl ?_
          refine sr_x rfl (wtd_none rfl) rfl (Rd.x (x_pick_f rfl rfl rfl)) ?_
          refine sr_x rfl (wtd_none rfl) rfl (Rd.x (x_assign rfl)) ?_
          refine sr_nil ?_
          refine aw_keep (keep_cons (t := 2) rfl keep_nil) ?_
          refine aw_ret ?_
          show ∃ v H2, ResV _ _ _ _ _ _ v ∧ Sub H2 _ ∧ _
          exact ⟨_, H, resV rfl (.cons rfl .nil), (by repeat (first | exact Sub.refl _ | apply Sub.drop)), ⟨congrArg Value.bool (by first | exact (decide_eq_true (by omega)).symm | exact (decide_eq_false (by omega)).symm), rfl⟩⟩
      · refine sr_x rfl (wtd_none rfl) rfl (Rd.x (x_pick_t rfl rfl rfl)) ?_
        refine sr_x rfl (wtd_none rfl) rfl (Rd.x (x_move rfl)) ?_
        refine sr_skip rfl (wtd_no rfl rfl rfl rfl) rfl ?_
        refine sr_skip rfl (wtd_no rfl rfl rfl rfl) rfl ?_
        refine sr_skip rfl (wtd_no rfl rfl rfl rfl) rfl ?_
        refine sr_x rfl (wtd_none rfl) rfl (Rd.x (x_pick_f rfl rfl rfl)) ?_
        refine sr_x rfl (wtd_none rfl) rfl (Rd.x (x_move rfl)) ?_
        refine sr_skip rfl (wtd_no rfl rfl rfl rfl) rfl ?_
        refine sr_skip rfl (wtd_no rfl rfl rfl rfl) rfl ?_
        refine sr_skip rfl (wtd_no rfl rfl rfl rfl) rfl ?_
        refine sr_x rfl (wtd_none rfl) rfl (Rd.x (x_pick_f rfl rfl rfl)) ?_
        refine sr_x rfl (wtd_none rfl) rfl (Rd.x (x_move rfl)) ?_
        refine sr_skip rfl (wtd_no rfl rfl rfl rfl) rfl ?_
        refine sr_skip rfl (wtd_no rfl rfl rfl rfl) rfl ?_
        refine sr_skip rfl (wtd_no rfl rfl rfl rfl) rfl ?_
        refine sr_x rfl (wtd_none rfl) rfl (Rd.x (x_pick_f rfl rfl rfl)) ?_
        refine sr_x rfl (wtd_none rfl) rfl (Rd.x (x_assign rfl)) ?_
        refine sr_nil ?_
        refine aw_keep (keep_cons (t := 2) rfl keep_nil) ?_
        refine aw_ret ?_
        show ∃ v H2, ResV _ _ _ _ _ _ v ∧ Sub H2 _ ∧ _
        exact ⟨_, H, resV rfl (.cons rfl .nil), (by repeat (first | exact Sub.refl _ | apply Sub.drop)), ⟨congrArg Value.bool (by first | exact (decide_eq_true (by omega)).symm | exact (decide_eq_false (by omega)).symm), rfl⟩⟩
    · refine sr_x rfl (wtd_none rfl) rfl (Rd.x (x_pick_t rfl rfl rfl)) ?_
      refine sr_x rfl (wtd_none rfl) rfl (Rd.x (x_move rfl)) ?_
      refine sr_skip rfl (wtd_no rfl rfl rfl rfl) rfl ?_
      refine sr_skip rfl (wtd_no rfl rfl rfl rfl) rfl ?_
      refine sr_skip rfl (wtd_no rfl rfl rfl rfl) rfl ?_
      refine sr_x rfl (wtd_none rfl) rfl (Rd.x (x_pick_f rfl rfl rfl)) ?_
      refine sr_x rfl (wtd_none rfl) rfl (Rd.x (x_move rfl)) ?_
      refine sr_skip rfl (wtd_no rfl rfl rfl rfl) rfl ?_
      refine sr_skip rfl (wtd_no rfl rfl rfl rfl) rfl ?_
      refine sr_skip rfl (wtd_no rfl rfl rfl rfl) rfl ?_
      refine sr_x rfl (wtd_none rfl) rfl (Rd.x (x_pick_f rfl rfl rfl)) ?_
      refine sr_x rfl (wtd_none rfl) rfl (Rd.x (x_move rfl)) ?_
      refine sr_skip rfl (wtd_no rfl rfl rfl rfl) rfl ?_
      refine sr_skip rfl (wtd_no rfl rfl rfl rfl) rfl ?_
      refine sr_skip rfl (wtd_no rfl rfl rfl rfl) rfl ?_
      refine sr_x rfl (wtd_none rfl) rfl (Rd.x (x_pick_f rfl rfl rfl)) ?_
      refine sr_x rfl (wtd_none rfl) rfl (Rd.x (x_move rfl)) ?_
      refine sr_skip rfl (wtd_no rfl rfl rfl rfl) rfl ?_
      refine sr_skip rfl (wtd_no rfl rfl rfl rfl) rfl ?_
      refine sr_skip rfl (wtd_no rfl rfl rfl rfl) rfl ?_
      refine sr_x rfl (wtd_none rfl) rfl (Rd.x (x_pick_f rfl rfl rfl)) ?_
      refine sr_x rfl (wtd_none rfl) rfl (Rd.x (x_assign rfl)) ?_
      refine sr_nil ?_
      refine aw_keep (keep_cons (t := 2) rfl keep_nil) ?_
      refine aw_ret ?_
      show ∃ v H2, ResV _ _ _ _ _ _ v ∧ Sub H2 _ ∧ _
      exact ⟨_, H, resV rfl (.cons rfl .nil), (by repeat (first | exact Sub.refl _ | apply Sub.drop)), ⟨congrArg Value.bool (by first | exact (decide_eq_true (by omega)).symm | exact (decide_eq_false (by omega)).symm), rfl⟩⟩
  · refine sr_x rfl (wtd_none rfl) rfl (Rd.x (x_move rfl)) ?_
    refine sr_skip rfl (wtd_no rfl rfl rfl rfl) rfl ?_
    refine sr_skip rfl (wtd_no rfl rfl rfl rfl) rfl ?_
    refine sr_skip rfl (wtd_no rfl rfl rfl rfl) rfl ?_
    refine sr_x rfl (wtd_none rfl) rfl (Rd.x (x_pick_f rfl rfl rfl)) ?_
    refine sr_x rfl (wtd_none rfl) rfl (Rd.x (x_move rfl)) ?_
    refine sr_skip rfl (wtd_no rfl rfl rfl rfl) rfl ?_
    refine sr_skip rfl (wtd_no rfl rfl rfl rfl) rfl ?_
    refine sr_skip rfl (wtd_no rfl rfl rfl rfl) rfl ?_
    refine sr_x rfl (wtd_none rfl) rfl (Rd.x (x_pick_f rfl rfl rfl)) ?_
    refine sr_x rfl (wtd_none rfl) rfl (Rd.x (x_move rfl)) ?_
    refine sr_skip rfl (wtd_no rfl rfl rfl rfl) rfl ?_
    refine sr_skip rfl (wtd_no rfl rfl rfl rfl) rfl ?_
    refine sr_skip rfl (wtd_no rfl rfl rfl rfl) rfl ?_
    refine sr_x rfl (wtd_none rfl) rfl (Rd.x (x_pick_f rfl rfl rfl)) ?_
    refine sr_x rfl (wtd_none rfl) rfl (Rd.x (x_move rfl)) ?_
    refine sr_skip rfl (wtd_no rfl rfl rfl rfl) rfl ?_
    refine sr_skip rfl (wtd_no rfl rfl rfl rfl) rfl ?_
    refine sr_skip rfl (wtd_no rfl rfl rfl rfl) rfl ?_
    refine sr_x rfl (wtd_none rfl) rfl (Rd.x (x_pick_f rfl rfl rfl)) ?_
    refine sr_x rfl (wtd_none rfl) rfl (Rd.x (x_move rfl)) ?_
    refine sr_skip rfl (wtd_no rfl rfl rfl rfl) rfl ?_
    refine sr_skip rfl (wtd_no rfl rfl rfl rfl) rfl ?_
    refine sr_skip rfl (wtd_no rfl rfl rfl rfl) rfl ?_
    refine sr_x rfl (wtd_none rfl) rfl (Rd.x (x_pick_f rfl rfl rfl)) ?_
    refine sr_x rfl (wtd_none rfl) rfl (Rd.x (x_assign rfl)) ?_
    refine sr_nil ?_
    refine aw_keep (keep_cons (t := 2) rfl keep_nil) ?_
    refine aw_ret ?_
    show ∃ v H2, ResV _ _ _ _ _ _ v ∧ Sub H2 _ ∧ _
    exact ⟨_, H, resV rfl (.cons rfl .nil), (by repeat (first | exact Sub.refl _ | apply Sub.drop)), ⟨congrArg Value.bool (by first | exact (decide_eq_true (by omega)).symm | exact (decide_eq_false (by omega)).symm), rfl⟩⟩
set_option maxRecDepth 100000 in
set_option maxHeartbeats 2000000 in
theorem unew_s (half : Int) (a : Option Addr) (cap : Nat) (l : List User) (G : SHeap) (hs : ∀ H, Sub G H → SlV W0 H 3 User.cells a cap l) : AC Try.prog W0 49 [.int .i64 half, .slice a l.length cap] G (fun v H' => (((half < 1 ∨ 1099511627776 < half ∨ 256 < l.length) ∧ v = .tuple #[.pointer none, .int .i64 1] ∧ H' = G) ∨ (¬ (half < 1 ∨ 1099511627776 < half ∨ 256 < l.length) ∧ ∃ e us, AddAll [] l e us ∧ e ≠ 0 ∧ v = .tuple #[.pointer none, .int .i64 e] ∧ H' = G) ∨ (¬ (half < 1 ∨ 1099511627776 < half ∨ 256 < l.length) ∧ ∃ us p sl E, AddAll [] l 0 us ∧ Srt us ∧ us.length ≤ l.length ∧ OwnVec 3 86 sl us.length (us.flatMap User.cells) E ∧ v = .tuple #[.pointer (some ⟨p, 0, none⟩), .int .i64 0] ∧ H' = bk p sl half 0 :: (E ++ G)))) := by
  have hle := (hs G (Sub.refl _)).le
  have hcb := (hs G (Sub.refl _)).capb
  refine ac_of Try.func49 rfl rfl rfl ?_
  refine aw_seq_region ?_
  refine sr_x rfl (wtd_none rfl) rfl (Rd.x (x_assign rfl)) ?_
  refine sr_x rfl (wtd_none rfl) rfl (Rd.x (x_assign rfl)) ?_
  refine sr_nil ?_
  refine aw_keep (keep_cons (t := 0) rfl (keep_cons (t := 1) rfl (keep_cons (t := 4) rfl (keep_cons (t := 5) rfl keep_nil)))) ?_
  refine aw_seq ?_
  refine aw_seq_region ?_
  refine sr_x rfl (wtd_none rfl) rfl (Rd.x (x_move rfl)) ?_
  refine sr_cmp rfl (wtd_none rfl) rfl (Rd.x (x_lt rfl rfl)) (fun h1 => ?_) (fun h1 => ?_)
  · refine sr_x rfl (wtd_none rfl) rfl (Rd.x (x_move rfl)) ?_
    refine sr_skip rfl (wtd_no rfl rfl rfl rfl) rfl ?_
    refine sr_skip rfl (wtd_no rfl rfl rfl rfl) rfl ?_
    refine sr_x rfl (wtd_none rfl) rfl (Rd.x (x_pick_t rfl rfl rfl)) ?_
    refine sr_x rfl (wtd_none rfl) rfl (Rd.x (x_move rfl)) ?_
    refine sr_skip rfl (wtd_no rfl rfl rfl rfl) rfl ?_
    refine sr_skip rfl (wtd_no rfl rfl rfl rfl) rfl ?_
    refine sr_skip rfl (wtd_no rfl rfl rfl rfl) rfl ?_
    refine sr_x rfl (wtd_none rfl) rfl (Rd.x (x_pick_t rfl rfl rfl)) ?_
    refine sr_nil ?_
    refine aw_keep (keep_cons (t := 0) rfl (keep_cons (t := 1) rfl (keep_cons (t := 4) rfl (keep_cons (t := 5) rfl (keep_cons (t := 21) rfl keep_nil))))) ?_
    refine aw_true rfl ?_
    refine aw_seq_region ?_
    refine sr_x rfl (wtd_none rfl) rfl (Rd.x (x_assign rfl)) ?_
    refine sr_x rfl (wtd_none rfl) rfl (Rd.x (x_assign rfl)) ?_
    refine sr_nil ?_
    refine aw_keep (keep_cons (t := 0) rfl (keep_cons (t := 1) rfl (keep_cons (t := 4) rfl (keep_cons (t := 5) rfl keep_nil)))) ?_
    refine aw_ret ?_
    show ∃ v H2, ResV _ _ _ _ _ _ v ∧ Sub H2 _ ∧ _
    first | exact ⟨_, G, resV rfl (.cons rfl (.cons rfl .nil)), Sub.refl _, .inl ⟨by omega, rfl, rfl⟩⟩ | exact ⟨_, G, resV rfl (.cons rfl (.cons rfl .nil)), (by (repeat (first | exact Sub.refl _ | refine Sub.take (by repeat (first | exact Take.here | apply Take.there | apply Take.app)) ?_ | refine Sub.takeE (by repeat (first | exact TakeE.here | apply TakeE.there | apply TakeE.app)) ?_ | exact Sub.nil _ | apply Sub.drop | apply Sub.dropE)); first | done | fail), .inr (.inl ⟨by omega, 5, us, hgo.stop hu (.bad (by omega)) (by decide), by decide, rfl, rfl⟩)⟩ | exact ⟨_, G, resV rfl (.cons rfl (.cons rfl .nil)), (by (repeat (first | exact Sub.refl _ | refine Sub.take (by repeat (first | exact Take.here | apply Take.there | apply Take.app)) ?_ | refine Sub.takeE (by repeat (first | exact TakeE.here | apply TakeE.there | apply TakeE.app)) ?_ | exact Sub.nil _ | apply Sub.drop | apply Sub.dropE)); first | done | fail), .inr (.inl ⟨by omega, 13, us, hgo.stop hu (.twice (by omega) (hok.1 rfl)) (by decide), by decide, rfl, rfl⟩)⟩ | exact ⟨_, bk r3_2 (.slice a0 us.length c0) half 0 :: (E ++ G), resV rfl (.cons rfl (.cons rfl .nil)), Sub.refl _, .inr (.inr ⟨by omega, us, _, _, _, hgo.done (by omega), hsrt, by omega, V, rfl, rfl⟩)⟩
  · refine sr_x rfl (wtd_none rfl) rfl (Rd.x (x_move rfl)) ?_
    refine sr_x rfl (wtd_yes rfl rfl rfl) rfl (Rd.x (x_move rfl)) ?_
    refine sr_cmp rfl (wtd_yes rfl rfl rfl) rfl (Rd.x (x_gt rfl rfl)) (fun h2 => ?_) (fun h2 => ?_)
    · refine sr_x rfl (wtd_none rfl) rfl (Rd.x (x_pick_f rfl rfl rfl)) ?_
      refine sr_x rfl (wtd_none rfl) rfl (Rd.x (x_move rfl)) ?_
      refine sr_skip rfl (wtd_no rfl rfl rfl rfl) rfl ?_
      refine sr_skip rfl (wtd_no rfl rfl rfl rfl) rfl ?_
      refine sr_skip rfl (wtd_no rfl rfl rfl rfl) rfl ?_
      refine sr_x rfl (wtd_none rfl) rfl (Rd.x (x_pick_t rfl rfl rfl)) ?_
      refine sr_nil ?_
      refine aw_keep (keep_cons (t := 0) rfl (keep_cons (t := 1) rfl (keep_cons (t := 4) rfl (keep_cons (t := 5) rfl (keep_cons (t := 21) rfl keep_nil))))) ?_
      refine aw_true rfl ?_
      refine aw_seq_region ?_
      refine sr_x rfl (wtd_none rfl) rfl (Rd.x (x_assign rfl)) ?_
      refine sr_x rfl (wtd_none rfl) rfl (Rd.x (x_assign rfl)) ?_
      refine sr_nil ?_
      refine aw_keep (keep_cons (t := 0) rfl (keep_cons (t := 1) rfl (keep_cons (t := 4) rfl (keep_cons (t := 5) rfl keep_nil)))) ?_
      refine aw_ret ?_
      show ∃ v H2, ResV _ _ _ _ _ _ v ∧ Sub H2 _ ∧ _
      first | exact ⟨_, G, resV rfl (.cons rfl (.cons rfl .nil)), Sub.refl _, .inl ⟨by omega, rfl, rfl⟩⟩ | exact ⟨_, G, resV rfl (.cons rfl (.cons rfl .nil)), (by (repeat (first | exact Sub.refl _ | refine Sub.take (by repeat (first | exact Take.here | apply Take.there | apply Take.app)) ?_ | refine Sub.takeE (by repeat (first | exact TakeE.here | apply TakeE.there | apply TakeE.app)) ?_ | exact Sub.nil _ | apply Sub.drop | apply Sub.dropE)); first | done | fail), .inr (.inl ⟨by omega, 5, us, hgo.stop hu (.bad (by omega)) (by decide), by decide, rfl, rfl⟩)⟩ | exact ⟨_, G, resV rfl (.cons rfl (.cons rfl .nil)), (by (repeat (first | exact Sub.refl _ | refine Sub.take (by repeat (first | exact Take.here | apply Take.there | apply Take.app)) ?_ | refine Sub.takeE (by repeat (first | exact TakeE.here | apply TakeE.there | apply TakeE.app)) ?_ | exact Sub.nil _ | apply Sub.drop | apply Sub.dropE)); first | done | fail), .inr (.inl ⟨by omega, 13, us, hgo.stop hu (.twice (by omega) (hok.1 rfl)) (by decide), by decide, rfl, rfl⟩)⟩ | exact ⟨_, bk r3_2 (.slice a0 us.length c0) half 0 :: (E ++ G), resV rfl (.cons rfl (.cons rfl .nil)), Sub.refl _, .inr (.inr ⟨by omega, us, _, _, _, hgo.done (by omega), hsrt, by omega, V, rfl, rfl⟩)⟩
    · refine sr_x rfl (wtd_none rfl) rfl (Rd.x (x_pick_f rfl rfl rfl)) ?_
      refine sr_x rfl (wtd_none rfl) rfl (Rd.x (x_move rfl)) ?_
      refine sr_x rfl (wtd_yes rfl rfl rfl) rfl (Rd.x (x_move rfl)) ?_
      refine sr_x rfl (wtd_yes rfl rfl rfl) rfl (Rd.x (x_lenSlice Try.underlying73 rfl)) ?_
      refine sr_cmp rfl (wtd_yes rfl rfl rfl) rfl (Rd.x (x_gt rfl rfl)) (fun h3 => ?_) (fun h3 => ?_)
      · refine sr_x rfl (wtd_none rfl) rfl (Rd.x (x_pick_f rfl rfl rfl)) ?_
        refine sr_nil ?_
        refine aw_keep (keep_cons (t := 0) rfl (keep_cons (t := 1) rfl (keep_cons (t := 4) rfl (keep_cons (t := 5) rfl (keep_cons (t := 21) rfl keep_nil))))) ?_
        refine aw_true rfl ?_
        refine aw_seq_region ?_
        refine sr_x rfl (wtd_none rfl) rfl (Rd.x (x_assign rfl)) ?_
        refine sr_x rfl (wtd_none rfl) rfl (Rd.x (x_assign rfl)) ?_
        refine sr_nil ?_
        refine aw_keep (keep_cons (t := 0) rfl (keep_cons (t := 1) rfl (keep_cons (t := 4) rfl (keep_cons (t := 5) rfl keep_nil)))) ?_
        refine aw_ret ?_
        show ∃ v H2, ResV _ _ _ _ _ _ v ∧ Sub H2 _ ∧ _
        first | exact ⟨_, G, resV rfl (.cons rfl (.cons rfl .nil)), Sub.refl _, .inl ⟨by omega, rfl, rfl⟩⟩ | exact ⟨_, G, resV rfl (.cons rfl (.cons rfl .nil)), (by (repeat (first | exact Sub.refl _ | refine Sub.take (by repeat (first | exact Take.here | apply Take.there | apply Take.app)) ?_ | refine Sub.takeE (by repeat (first | exact TakeE.here | apply TakeE.there | apply TakeE.app)) ?_ | exact Sub.nil _ | apply Sub.drop | apply Sub.dropE)); first | done | fail), .inr (.inl ⟨by omega, 5, us, hgo.stop hu (.bad (by omega)) (by decide), by decide, rfl, rfl⟩)⟩ | exact ⟨_, G, resV rfl (.cons rfl (.cons rfl .nil)), (by (repeat (first | exact Sub.refl _ | refine Sub.take (by repeat (first | exact Take.here | apply Take.there | apply Take.app)) ?_ | refine Sub.takeE (by repeat (first | exact TakeE.here | apply TakeE.there | apply TakeE.app)) ?_ | exact Sub.nil _ | apply Sub.drop | apply Sub.dropE)); first | done | fail), .inr (.inl ⟨by omega, 13, us, hgo.stop hu (.twice (by omega) (hok.1 rfl)) (by decide), by decide, rfl, rfl⟩)⟩ | exact ⟨_, bk r3_2 (.slice a0 us.length c0) half 0 :: (E ++ G), resV rfl (.cons rfl (.cons rfl .nil)), Sub.refl _, .inr (.inr ⟨by omega, us, _, _, _, hgo.done (by omega), hsrt, by omega, V, rfl, rfl⟩)⟩
      · refine sr_x rfl (wtd_none rfl) rfl (Rd.x (x_pick_f rfl rfl rfl)) ?_
        refine sr_nil ?_
        refine aw_keep (keep_cons (t := 0) rfl (keep_cons (t := 1) rfl (keep_cons (t := 4) rfl (keep_cons (t := 5) rfl (keep_cons (t := 21) rfl keep_nil))))) ?_
        refine aw_false rfl ?_
        refine aw_skip ?_
        show AW _ _ _ _ _ _ _
        refine aw_seq_region ?_
        refine sr_x rfl (wtd_none rfl) rfl (Rd.x (x_move rfl)) ?_
        refine sr_x rfl (wtd_none rfl) rfl (Rd.x (x_build zr141 rfl fl141 (by repeat (first | exact Parts.nil | (apply Parts.cons; rfl))) (by repeat (first | exact Fill.done | (apply Fill.part; rfl; rfl; rfl; focus (repeat (first | exact Spl.done | exact Spl.all rfl | apply Spl.put | apply Spl.skip))))))) ?_
        refine sr_new rfl (wtd_none rfl) rfl (x_box rfl rfl) ?_
        intro r3_2 hr3_2 gr3_2
        refine sr_x rfl (wtd_none rfl) rfl (Rd.x (x_assign rfl)) ?_
        refine sr_nil ?_
        refine aw_keep (keep_cons (t := 1) rfl (keep_cons (t := 4) rfl (keep_cons (t := 5) rfl (keep_cons (t := 6) rfl keep_nil)))) ?_
        refine aw_seq ?_
        refine aw_seq_region ?_
        refine sr_x rfl (wtd_none rfl) rfl (Rd.x (x_move rfl)) ?_
        refine sr_x rfl (wtd_none rfl) rfl (Rd.x (x_lenSlice Try.underlying73 rfl)) ?_
        refine sr_x rfl (wtd_none rfl) rfl (Rd.x (x_move rfl)) ?_
        refine sr_nil ?_
        refine aw_keep (keep_cons (t := 4) rfl (keep_cons (t := 5) rfl (keep_cons (t := 6) rfl (keep_cons (t := 25) rfl (keep_cons (t := 26) rfl (keep_cons (t := 27) rfl keep_nil)))))) ?_
        refine aw_block ?_
        refine aw_loop (ι := NG) (fun s => s.k ≤ l.length ∧ Srt s.us ∧ s.us.length ≤ s.k ∧ OwnVec 3 86 s.sl s.us.length (s.us.flatMap User.cells) s.E ∧ Goes l [] s.k s.us) (fun s => [(4, .pointer none), (5, .int .i64 0), (6, .pointer (some ⟨r3_2, 0, none⟩)), (25, .slice a l.length cap), (26, .int .i64 l.length), (27, .int .i64 s.k)]) (fun s => bk r3_2 s.sl half 0 :: (s.E ++ G)) (fun s => l.length - s.k) ⟨0, [], .slice none 0 0, []⟩ (⟨Nat.zero_le _, List.Pairwise.nil, Nat.le_refl _, .nil, Goes.zero _ _⟩) (by (repeat (first | exact keep_nil | refine keep_cons rfl ?_)); first | done | fail) (by repeat (first | exact Sub.refl _ | refine Sub.take (by repeat (first | exact Take.here | apply Take.there | apply Take.app)) ?_ | refine Sub.takeE (by repeat (first | exact TakeE.here | apply TakeE.there | apply TakeE.app)) ?_ | exact Sub.nil _ | apply Sub.drop | apply Sub.dropE)) ?_
        intro s hs9
        obtain ⟨k, us, sl, E⟩ := s
        dsimp only at hs9 ⊢
        obtain ⟨hk, hsrt, hul, V, hgo⟩ := hs9
        obtain ⟨a0, c0, rfl⟩ := V.isSl
        refine aw_seq_region ?_
        refine sr_cmp rfl (wtd_none rfl) rfl (Rd.x (x_lt rfl rfl)) (fun h4 => ?_) (fun h4 => ?_)
        · refine sr_nil ?_
          refine aw_keep (keep_cons (t := 4) rfl (keep_cons (t := 5) rfl (keep_cons (t := 6) rfl (keep_cons (t := 25) rfl (keep_cons (t := 26) rfl (keep_cons (t := 27) rfl (keep_cons (t := 28) rfl keep_nil))))))) ?_
          refine aw_seq ?_
          refine aw_true rfl ?_
          refine aw_skip ?_
          show AW _ _ _ _ _ _ _
          refine aw_seq ?_
          refine aw_block ?_
          refine aw_seq_region ?_
          obtain ⟨u, hu⟩ := get_ex (show k < l.length by omega)
          obtain ⟨bu, ou, hau, hcu⟩ := (hs G (Sub.refl _)).at_ k _ hu
          refine sr_x rfl (wtd_none rfl) rfl (Rd.x (x_indexAddrN k Try.underlying73 sz86 rfl hau rfl (by omega) (by omega))) ?_
          refine sr_x rfl (wtd_none rfl) rfl (Rd.x (x_loadN ag86 sz86 rfl (Cells.mono hcu (by repeat (first | exact Sub.refl _ | apply Sub.drop | apply Sub.dropE))) rfl)) ?_
          refine sr_new rfl (wtd_none rfl) rfl (x_alloc zr86 rfl) ?_
          intro r6_2 hr6_2 gr6_2
          refine sr_x0 rfl (wtd_none rfl) (x_store sz86 rfl rfl rfl rfl rfl (by repeat (first | exact Repl.here | apply Repl.there | apply Repl.app)) (by repeat (first | exact Spl.done | exact Spl.all rfl | apply Spl.put | apply Spl.skip))) ?_
          refine sr_nil ?_
          refine aw_keep (keep_cons (t := 4) rfl (keep_cons (t := 5) rfl (keep_cons (t := 6) rfl (keep_cons (t := 8) rfl (keep_cons (t := 25) rfl (keep_cons (t := 26) rfl (keep_cons (t := 27) rfl (keep_cons (t := 28) rfl (keep_cons (t := 29) rfl (keep_cons (t := 30) rfl keep_nil)))))))))) ?_
          refine aw_seq ?_
          refine aw_seq_region ?_
          refine sr_x rfl (wtd_none rfl) rfl (Rd.x (x_fieldAddr fd86_0 rfl)) ?_
          refine sr_x rfl (wtd_none rfl) rfl (Rd.x (x_load ag3 rfl (cells_ext (by repeat (first | exact List.mem_cons_self | apply List.mem_cons_of_mem | apply List.mem_append_right)) (by repeat (first | exact Ext.all _ | exact Ext.done | apply Ext.take | apply Ext.skip))))) ?_
          refine sr_cmp rfl (wtd_none rfl) rfl (Rd.x (x_lt rfl rfl)) (fun h5 => ?_) (fun h5 => ?_)
          · refine sr_x rfl (wtd_none rfl) rfl (Rd.x (x_move rfl)) ?_
            refine sr_skip rfl (wtd_no rfl rfl rfl rfl) rfl ?_
            refine sr_skip rfl (wtd_no rfl rfl rfl rfl) rfl ?_
            refine sr_skip rfl (wtd_no rfl rfl rfl rfl) rfl ?_
            refine sr_x rfl (wtd_none rfl) rfl (Rd.x (x_pick_t rfl rfl rfl)) ?_
            refine sr_x rfl (wtd_none rfl) rfl (Rd.x (x_move rfl)) ?_
            refine sr_skip rfl (wtd_no rfl rfl rfl rfl) rfl ?_
            refine sr_skip rfl (wtd_no rfl rfl rfl rfl) rfl ?_
            refine sr_skip rfl (wtd_no rfl rfl rfl rfl) rfl ?_
            refine sr_x rfl (wtd_none rfl) rfl (Rd.x (x_pick_t rfl rfl rfl)) ?_
            refine sr_x rfl (wtd_none rfl) rfl (Rd.x (x_move rfl)) ?_
            refine sr_skip rfl (wtd_no rfl rfl rfl rfl) rfl ?_
            refine sr_skip rfl (wtd_no rfl rfl rfl rfl) rfl ?_
            refine sr_skip rfl (wtd_no rfl rfl rfl rfl) rfl ?_
            refine sr_x rfl (wtd_none rfl) rfl (Rd.x (x_pick_t rfl rfl rfl)) ?_
            refine sr_x rfl (wtd_none rfl) rfl (Rd.x (x_move rfl)) ?_
            refine sr_skip rfl (wtd_no rfl rfl rfl rfl) rfl ?_
            refine sr_skip rfl (wtd_no rfl rfl rfl rfl) rfl ?_
            refine sr_skip rfl (wtd_no rfl rfl rfl rfl) rfl ?_
            refine sr_x rfl (wtd_none rfl) rfl (Rd.x (x_pick_t rfl rfl rfl)) ?_
            refine sr_x rfl (wtd_none rfl) rfl (Rd.x (x_move rfl)) ?_
            refine sr_skip rfl (wtd_no rfl rfl rfl rfl) rfl ?_
            refine sr_skip rfl (wtd_no rfl rfl rfl rfl) rfl ?_
            refine sr_skip rfl (wtd_no rfl rfl rfl rfl) rfl ?_
            refine sr_x rfl (wtd_none rfl) rfl (Rd.x (x_pick_t rfl rfl rfl)) ?_
            refine sr_nil ?_
            refine aw_keep (keep_cons (t := 4) rfl (keep_cons (t := 5) rfl (keep_cons (t := 6) rfl (keep_cons (t := 8) rfl (keep_cons (t := 25) rfl (keep_cons (t := 26) rfl (keep_cons (t := 27) rfl (keep_cons (t := 28) rfl (keep_cons (t := 29) rfl (keep_cons (t := 30) rfl (keep_cons (t := 31) rfl (keep_cons (t := 32) rfl (keep_cons (t := 33) rfl (keep_cons (t := 34) rfl (keep_cons (t := 35) rfl (keep_cons (t := 36) rfl (keep_cons (t := 37) rfl (keep_cons (t := 38) rfl (keep_cons (t := 39) rfl (keep_cons (t := 40) rfl (keep_cons (t := 41) rfl (keep_cons (t := 42) rfl (keep_cons (t := 43) rfl (keep_cons (t := 44) rfl (keep_cons (t := 45) rfl (keep_cons (t := 46) rfl (keep_cons (t := 47) rfl (keep_cons (t := 48) rfl (keep_cons (t := 49) rfl (keep_cons (t := 50) rfl (keep_cons (t := 51) rfl (keep_cons (t := 52) rfl (keep_cons (t := 53) rfl (keep_cons (t := 54) rfl (keep_cons (t := 55) rfl (keep_cons (t := 56) rfl (keep_cons (t := 57) rfl (keep_cons (t := 58) rfl keep_nil)))))))))))))))))))))))))))))))))))))) ?_
            refine aw_true rfl ?_
            refine aw_seq_region ?_
            refine sr_x rfl (wtd_none rfl) rfl (Rd.x (x_assign rfl)) ?_
            refine sr_x rfl (wtd_none rfl) rfl (Rd.x (x_assign rfl)) ?_
            refine sr_nil ?_
            refine aw_keep (keep_cons (t := 4) rfl (keep_cons (t := 5) rfl (keep_cons (t := 6) rfl (keep_cons (t := 8) rfl (keep_cons (t := 25) rfl (keep_cons (t := 26) rfl (keep_cons (t := 27) rfl (keep_cons (t := 28) rfl (keep_cons (t := 29) rfl (keep_cons (t := 30) rfl (keep_cons (t := 31) rfl (keep_cons (t := 32) rfl (keep_cons (t := 33) rfl (keep_cons (t := 34) rfl (keep_cons (t := 35) rfl (keep_cons (t := 36) rfl (keep_cons (t := 37) rfl (keep_cons (t := 38) rfl (keep_cons (t := 39) rfl (keep_cons (t := 40) rfl (keep_cons (t := 41) rfl (keep_cons (t := 42) rfl (keep_cons (t := 43) rfl (keep_cons (t := 44) rfl (keep_cons (t := 45) rfl (keep_cons (t := 46) rfl (keep_cons (t := 47) rfl (keep_cons (t := 48) rfl (keep_cons (t := 49) rfl (keep_cons (t := 50) rfl (keep_cons (t := 51) rfl (keep_cons (t := 52) rfl (keep_cons (t := 53) rfl (keep_cons (t := 54) rfl (keep_cons (t := 55) rfl (keep_cons (t := 56) rfl (keep_cons (t := 57) rfl (keep_cons (t := 58) rfl keep_nil)))))))))))))))))))))))))))))))))))))) ?_
            refine aw_ret ?_
            show ∃ v H2, ResV _ _ _ _ _ _ v ∧ Sub H2 _ ∧ _
            first | exact ⟨_, G, resV rfl (.cons rfl (.cons rfl .nil)), Sub.refl _, .inl ⟨by omega, rfl, rfl⟩⟩ | exact ⟨_, G, resV rfl (.cons rfl (.cons rfl .nil)), (by (repeat (first | exact Sub.refl _ | refine Sub.take (by repeat (first | exact Take.here | apply Take.there | apply Take.app)) ?_ | refine Sub.takeE (by repeat (first | exact TakeE.here | apply TakeE.there | apply TakeE.app)) ?_ | exact Sub.nil _ | apply Sub.drop | apply Sub.dropE)); first | done | fail), .inr (.inl ⟨by omega, 5, us, hgo.stop hu (.bad (by omega)) (by decide), by decide, rfl, rfl⟩)⟩ | exact ⟨_, G, resV rfl (.cons rfl (.cons rfl .nil)), (by (repeat (first | exact Sub.refl _ | refine Sub.take (by repeat (first | exact Take.here | apply Take.there | apply Take.app)) ?_ | refine Sub.takeE (by repeat (first | exact TakeE.here | apply TakeE.there | apply TakeE.app)) ?_ | exact Sub.nil _ | apply Sub.drop | apply Sub.dropE)); first | done | fail), .inr (.inl ⟨by omega, 13, us, hgo.stop hu (.twice (by omega) (hok.1 rfl)) (by decide), by decide, rfl, rfl⟩)⟩ | exact ⟨_, bk r3_2 (.slice a0 us.length c0) half 0 :: (E ++ G), resV rfl (.cons rfl (.cons rfl .nil)), Sub.refl _, .inr (.inr ⟨by omega, us, _, _, _, hgo.done (by omega), hsrt, by omega, V, rfl, rfl⟩)⟩
          · refine sr_x rfl (wtd_none rfl) rfl (Rd.x (x_move rfl)) ?_
            refine sr_x rfl (wtd_yes rfl rfl rfl) rfl (Rd.x (x_fieldAddr fd86_0 rfl)) ?_
            refine sr_x rfl (wtd_yes rfl rfl rfl) rfl (Rd.x (x_load ag3 rfl (cells_ext (by repeat (first | exact List.mem_cons_self | apply List.mem_cons_of_mem | apply List.mem_append_right)) (by repeat (first | exact Ext.all _ | exact Ext.done | apply Ext.take | apply Ext.skip))))) ?_
            refine sr_cmp rfl (wtd_yes rfl rfl rfl) rfl (Rd.x (x_gt rfl rfl)) (fun h6 => ?_) (fun h6 => ?_)
            · refine sr_x rfl (wtd_none rfl) rfl (Rd.x (x_pick_f rfl rfl rfl)) ?_
              refine sr_x rfl (wtd_none rfl) rfl (Rd.x (x_move rfl)) ?_
              refine sr_skip rfl (wtd_no rfl rfl rfl rfl) rfl ?_
              refine sr_skip rfl (wtd_no rfl rfl rfl rfl) rfl ?_
              refine sr_skip rfl (wtd_no rfl rfl rfl rfl) rfl ?_
              refine sr_x rfl (wtd_none rfl) rfl (Rd.x (x_pick_t rfl rfl rfl)) ?_
              refine sr_x rfl (wtd_none rfl) rfl (Rd.x (x_move rfl)) ?_
              refine sr_skip rfl (wtd_no rfl rfl rfl rfl) rfl ?_
              refine sr_skip rfl (wtd_no rfl rfl rfl rfl) rfl ?_
              refine sr_skip rfl (wtd_no rfl rfl rfl rfl) rfl ?_
              refine sr_x rfl (wtd_none rfl) rfl (Rd.x (x_pick_t rfl rfl rfl)) ?_
              refine sr_x rfl (wtd_none rfl) rfl (Rd.x (x_move rfl)) ?_
              refine sr_skip rfl (wtd_no rfl rfl rfl rfl) rfl ?_
              refine sr_skip rfl (wtd_no rfl rfl rfl rfl) rfl ?_
              refine sr_skip rfl (wtd_no rfl rfl rfl rfl) rfl ?_
              refine sr_x rfl (wtd_none rfl) rfl (Rd.x (x_pick_t rfl rfl rfl)) ?_
              refine sr_x rfl (wtd_none rfl) rfl (Rd.x (x_move rfl)) ?_
              refine sr_skip rfl (wtd_no rfl rfl rfl rfl) rfl ?_
              refine sr_skip rfl (wtd_no rfl rfl rfl rfl) rfl ?_
              refine sr_skip rfl (wtd_no rfl rfl rfl rfl) rfl ?_
              refine sr_x rfl (wtd_none rfl) rfl (Rd.x (x_pick_t rfl rfl rfl)) ?_
              refine sr_nil ?_
              refine aw_keep (keep_cons (t := 4) rfl (keep_cons (t := 5) rfl (keep_cons (t := 6) rfl (keep_cons (t := 8) rfl (keep_cons (t := 25) rfl (keep_cons (t := 26) rfl (keep_cons (t := 27) rfl (keep_cons (t := 28) rfl (keep_cons (t := 29) rfl (keep_cons (t := 30) rfl (keep_cons (t := 31) rfl (keep_cons (t := 32) rfl (keep_cons (t := 33) rfl (keep_cons (t := 34) rfl (keep_cons (t := 35) rfl (keep_cons (t := 36) rfl (keep_cons (t := 37) rfl (keep_cons (t := 38) rfl (keep_cons (t := 39) rfl (keep_cons (t := 40) rfl (keep_cons (t := 41) rfl (keep_cons (t := 42) rfl (keep_cons (t := 43) rfl (keep_cons (t := 44) rfl (keep_cons (t := 45) rfl (keep_cons (t := 46) rfl (keep_cons (t := 47) rfl (keep_cons (t := 48) rfl (keep_cons (t := 49) rfl (keep_cons (t := 50) rfl (keep_cons (t := 51) rfl (keep_cons (t := 52) rfl (keep_cons (t := 53) rfl (keep_cons (t := 54) rfl (keep_cons (t := 55) rfl (keep_cons (t := 56) rfl (keep_cons (t := 57) rfl (keep_cons (t := 58) rfl keep_nil)))))))))))))))))))))))))))))))))))))) ?_
              refine aw_true rfl ?_
              refine aw_seq_region ?_
              refine sr_x rfl (wtd_none rfl) rfl (Rd.x (x_assign rfl)) ?_
              refine sr_x rfl (wtd_none rfl) rfl (Rd.x (x_assign rfl)) ?_
              refine sr_nil ?_
              refine aw_keep (keep_cons (t := 4) rfl (keep_cons (t := 5) rfl (keep_cons (t := 6) rfl (keep_cons (t := 8) rfl (keep_cons (t := 25) rfl (keep_cons (t := 26) rfl (keep_cons (t := 27) rfl (keep_cons (t := 28) rfl (keep_cons (t := 29) rfl (keep_cons (t := 30) rfl (keep_cons (t := 31) rfl (keep_cons (t := 32) rfl (keep_cons (t := 33) rfl (keep_cons (t := 34) rfl (keep_cons (t := 35) rfl (keep_cons (t := 36) rfl (keep_cons (t := 37) rfl (keep_cons (t := 38) rfl (keep_cons (t := 39) rfl (keep_cons (t := 40) rfl (keep_cons (t := 41) rfl (keep_cons (t := 42) rfl (keep_cons (t := 43) rfl (keep_cons (t := 44) rfl (keep_cons (t := 45) rfl (keep_cons (t := 46) rfl (keep_cons (t := 47) rfl (keep_cons (t := 48) rfl (keep_cons (t := 49) rfl (keep_cons (t := 50) rfl (keep_cons (t := 51) rfl (keep_cons (t := 52) rfl (keep_cons (t := 53) rfl (keep_cons (t := 54) rfl (keep_cons (t := 55) rfl (keep_cons (t := 56) rfl (keep_cons (t := 57) rfl (keep_cons (t := 58) rfl keep_nil)))))))))))))))))))))))))))))))))))))) ?_
              refine aw_ret ?_
              show ∃ v H2, ResV _ _ _ _ _ _ v ∧ Sub H2 _ ∧ _
              first | exact ⟨_, G, resV rfl (.cons rfl (.cons rfl .nil)), Sub.refl _, .inl ⟨by omega, rfl, rfl⟩⟩ | exact ⟨_, G, resV rfl (.cons rfl (.cons rfl .nil)), (by (repeat (first | exact Sub.refl _ | refine Sub.take (by repeat (first | exact Take.here | apply Take.there | apply Take.app)) ?_ | refine Sub.takeE (by repeat (first | exact TakeE.here | apply TakeE.there | apply TakeE.app)) ?_ | exact Sub.nil _ | apply Sub.drop | apply Sub.dropE)); first | done | fail), .inr (.inl ⟨by omega, 5, us, hgo.stop hu (.bad (by omega)) (by decide), by decide, rfl, rfl⟩)⟩ | exact ⟨_, G, resV rfl (.cons rfl (.cons rfl .nil)), (by (repeat (first | exact Sub.refl _ | refine Sub.take (by repeat (first | exact Take.here | apply Take.there | apply Take.app)) ?_ | refine Sub.takeE (by repeat (first | exact TakeE.here | apply TakeE.there | apply TakeE.app)) ?_ | exact Sub.nil _ | apply Sub.drop | apply Sub.dropE)); first | done | fail), .inr (.inl ⟨by omega, 13, us, hgo.stop hu (.twice (by omega) (hok.1 rfl)) (by decide), by decide, rfl, rfl⟩)⟩ | exact ⟨_, bk r3_2 (.slice a0 us.length c0) half 0 :: (E ++ G), resV rfl (.cons rfl (.cons rfl .nil)), Sub.refl _, .inr (.inr ⟨by omega, us, _, _, _, hgo.done (by omega), hsrt, by omega, V, rfl, rfl⟩)⟩
            · refine sr_x rfl (wtd_none rfl) rfl (Rd.x (x_pick_f rfl rfl rfl)) ?_
              refine sr_x rfl (wtd_none rfl) rfl (Rd.x (x_move rfl)) ?_
              refine sr_x rfl (wtd_yes rfl rfl rfl) rfl (Rd.x (x_fieldAddr fd86_1 rfl)) ?_
              refine sr_x rfl (wtd_yes rfl rfl rfl) rfl (Rd.x (x_load ag3 rfl (cells_ext (by repeat (first | exact List.mem_cons_self | apply List.mem_cons_of_mem | apply List.mem_append_right)) (by repeat (first | exact Ext.all _ | exact Ext.done | apply Ext.take | apply Ext.skip))))) ?_
              refine sr_cmp rfl (wtd_yes rfl rfl rfl) rfl (Rd.x (x_lt rfl rfl)) (fun h7 => ?_) (fun h7 => ?_)
              · refine sr_x rfl (wtd_none rfl) rfl (Rd.x (x_pick_f rfl rfl rfl)) ?_
                refine sr_x rfl (wtd_none rfl) rfl (Rd.x (x_move rfl)) ?_
                refine sr_skip rfl (wtd_no rfl rfl rfl rfl) rfl ?_
                refine sr_skip rfl (wtd_no rfl rfl rfl rfl) rfl ?_
                refine sr_skip rfl (wtd_no rfl rfl rfl rfl) rfl ?_
                refine sr_x rfl (wtd_none rfl) rfl (Rd.x (x_pick_t rfl rfl rfl)) ?_
                refine sr_x rfl (wtd_none rfl) rfl (Rd.x (x_move rfl)) ?_
                refine sr_skip rfl (wtd_no rfl rfl rfl rfl) rfl ?_
                refine sr_skip rfl (wtd_no rfl rfl rfl rfl) rfl ?_
                refine sr_skip rfl (wtd_no rfl rfl rfl rfl) rfl ?_
                refine sr_x rfl (wtd_none rfl) rfl (Rd.x (x_pick_t rfl rfl rfl)) ?_
                refine sr_x rfl (wtd_none rfl) rfl (Rd.x (x_move rfl)) ?_
                refine sr_skip rfl (wtd_no rfl rfl rfl rfl) rfl ?_
                refine sr_skip rfl (wtd_no rfl rfl rfl rfl) rfl ?_
                refine sr_skip rfl (wtd_no rfl rfl rfl rfl) rfl ?_
                refine sr_x rfl (wtd_none rfl) rfl (Rd.x (x_pick_t rfl rfl rfl)) ?_
                refine sr_nil ?_
                refine aw_keep (keep_cons (t := 4) rfl (keep_cons (t := 5) rfl (keep_cons (t := 6) rfl (keep_cons (t := 8) rfl (keep_cons (t := 25) rfl (keep_cons (t := 26) rfl (keep_cons (t := 27) rfl (keep_cons (t := 28) rfl (keep_cons (t := 29) rfl (keep_cons (t := 30) rfl (keep_cons (t := 31) rfl (keep_cons (t := 32) rfl (keep_cons (t := 33) rfl (keep_cons (t := 34) rfl (keep_cons (t := 35) rfl (keep_cons (t := 36) rfl (keep_cons (t := 37) rfl (keep_cons (t := 38) rfl (keep_cons (t := 39) rfl (keep_cons (t := 40) rfl (keep_cons (t := 41) rfl (keep_cons (t := 42) rfl (keep_cons (t := 43) rfl (keep_cons (t := 44) rfl (keep_cons (t := 45) rfl (keep_cons (t := 46) rfl (keep_cons (t := 47) rfl (keep_cons (t := 48) rfl (keep_cons (t := 49) rfl (keep_cons (t := 50) rfl (keep_cons (t := 51) rfl (keep_cons (t := 52) rfl (keep_cons (t := 53) rfl (keep_cons (t := 54) rfl (keep_cons (t := 55) rfl (keep_cons (t := 56) rfl (keep_cons (t := 57) rfl (keep_cons (t := 58) rfl keep_nil)))))))))))))))))))))))))))))))))))))) ?_
                refine aw_true rfl ?_
                refine aw_seq_region ?_
                refine sr_x rfl (wtd_none rfl) rfl (Rd.x (x_assign rfl)) ?_
                refine sr_x rfl (wtd_none rfl) rfl (Rd.x (x_assign rfl)) ?_
                refine sr_nil ?_
                refine aw_keep (keep_cons (t := 4) rfl (keep_cons (t := 5) rfl (keep_cons (t := 6) rfl (keep_cons (t := 8) rfl (keep_cons (t := 25) rfl (keep_cons (t := 26) rfl (keep_cons (t := 27) rfl (keep_cons (t := 28) rfl (keep_cons (t := 29) rfl (keep_cons (t := 30) rfl (keep_cons (t := 31) rfl (keep_cons (t := 32) rfl (keep_cons (t := 33) rfl (keep_cons (t := 34) rfl (keep_cons (t := 35) rfl (keep_cons (t := 36) rfl (keep_cons (t := 37) rfl (keep_cons (t := 38) rfl (keep_cons (t := 39) rfl (keep_cons (t := 40) rfl (keep_cons (t := 41) rfl (keep_cons (t := 42) rfl (keep_cons (t := 43) rfl (keep_cons (t := 44) rfl (keep_cons (t := 45) rfl (keep_cons (t := 46) rfl (keep_cons (t := 47) rfl (keep_cons (t := 48) rfl (keep_cons (t := 49) rfl (keep_cons (t := 50) rfl (keep_cons (t := 51) rfl (keep_cons (t := 52) rfl (keep_cons (t := 53) rfl (keep_cons (t := 54) rfl (keep_cons (t := 55) rfl (keep_cons (t := 56) rfl (keep_cons (t := 57) rfl (keep_cons (t := 58) rfl keep_nil)))))))))))))))))))))))))))))))))))))) ?_
                refine aw_ret ?_
                show ∃ v H2, ResV _ _ _ _ _ _ v ∧ Sub H2 _ ∧ _
                first | exact ⟨_, G, resV rfl (.cons rfl (.cons rfl .nil)), Sub.refl _, .inl ⟨by omega, rfl, rfl⟩⟩ | exact ⟨_, G, resV rfl (.cons rfl (.cons rfl .nil)), (by (repeat (first | exact Sub.refl _ | refine Sub.take (by repeat (first | exact Take.here | apply Take.there | apply Take.app)) ?_ | refine Sub.takeE (by repeat (first | exact TakeE.here | apply TakeE.there | apply TakeE.app)) ?_ | exact Sub.nil _ | apply Sub.drop | apply Sub.dropE)); first | done | fail), .inr (.inl ⟨by omega, 5, us, hgo.stop hu (.bad (by omega)) (by decide), by decide, rfl, rfl⟩)⟩ | exact ⟨_, G, resV rfl (.cons rfl (.cons rfl .nil)), (by (repeat (first | exact Sub.refl _ | refine Sub.take (by repeat (first | exact Take.here | apply Take.there | apply Take.app)) ?_ | refine Sub.takeE (by repeat (first | exact TakeE.here | apply TakeE.there | apply TakeE.app)) ?_ | exact Sub.nil _ | apply Sub.drop | apply Sub.dropE)); first | done | fail), .inr (.inl ⟨by omega, 13, us, hgo.stop hu (.twice (by omega) (hok.1 rfl)) (by decide), by decide, rfl, rfl⟩)⟩ | exact ⟨_, bk r3_2 (.slice a0 us.length c0) half 0 :: (E ++ G), resV rfl (.cons rfl (.cons rfl .nil)), Sub.refl _, .inr (.inr ⟨by omega, us, _, _, _, hgo.done (by omega), hsrt, by omega, V, rfl, rfl⟩)⟩
              · refine sr_x rfl (wtd_none rfl) rfl (Rd.x (x_pick_f rfl rfl rfl)) ?_
                refine sr_x rfl (wtd_none rfl) rfl (Rd.x (x_move rfl)) ?_
                refine sr_x rfl (wtd_yes rfl rfl rfl) rfl (Rd.x (x_fieldAddr fd86_1 rfl)) ?_
                refine sr_x rfl (wtd_yes rfl rfl rfl) rfl (Rd.x (x_load ag3 rfl (cells_ext (by repeat (first | exact List.mem_cons_self | apply List.mem_cons_of_mem | apply List.mem_append_right)) (by repeat (first | exact Ext.all _ | exact Ext.done | apply Ext.take | apply Ext.skip))))) ?_
                refine sr_cmp rfl (wtd_yes rfl rfl rfl) rfl (Rd.x (x_gt rfl rfl)) (fun h8 => ?_) (fun h8 => ?_)
                · refine sr_x rfl (wtd_none rfl) rfl (Rd.x (x_pick_f rfl rfl rfl)) ?_
                  refine sr_x rfl (wtd_none rfl) rfl (Rd.x (x_move rfl)) ?_
                  refine sr_skip rfl (wtd_no rfl rfl rfl rfl) rfl ?_
                  refine sr_skip rfl (wtd_no rfl rfl rfl rfl) rfl ?_
                  refine sr_skip rfl (wtd_no rfl rfl rfl rfl) rfl ?_
                  refine sr_x rfl (wtd_none rfl) rfl (Rd.x (x_pick_t rfl rfl rfl)) ?_
                  refine sr_x rfl (wtd_none rfl) rfl (Rd.x (x_move rfl)) ?_
                  refine sr_skip rfl (wtd_no rfl rfl rfl rfl) rfl ?_
                  refine sr_skip rfl (wtd_no rfl rfl rfl rfl) rfl ?_
                  refine sr_skip rfl (wtd_no rfl rfl rfl rfl) rfl ?_
                  refine sr_x rfl (wtd_none rfl) rfl (Rd.x (x_pick_t rfl rfl rfl)) ?_
                  refine sr_nil ?_
                  refine aw_keep (keep_cons (t := 4) rfl (keep_cons (t := 5) rfl (keep_cons (t := 6) rfl (keep_cons (t := 8) rfl (keep_cons (t := 25) rfl (keep_cons (t := 26) rfl (keep_cons (t := 27) rfl (keep_cons (t := 28) rfl (keep_cons (t := 29) rfl (keep_cons (t := 30) rfl (keep_cons (t := 31) rfl (keep_cons (t := 32) rfl (keep_cons (t := 33) rfl (keep_cons (t := 34) rfl (keep_cons (t := 35) rfl (keep_cons (t := 36) rfl (keep_cons (t := 37) rfl (keep_cons (t := 38) rfl (keep_cons (t := 39) rfl (keep_cons (t := 40) rfl (keep_cons (t := 41) rfl (keep_cons (t := 42) rfl (keep_cons (t := 43) rfl (keep_cons (t := 44) rfl (keep_cons (t := 45) rfl (keep_cons (t := 46) rfl (keep_cons (t := 47) rfl (keep_cons (t := 48) rfl (keep_cons (t := 49) rfl (keep_cons (t := 50) rfl (keep_cons (t := 51) rfl (keep_cons (t := 52) rfl (keep_cons (t := 53) rfl (keep_cons (t := 54) rfl (keep_cons (t := 55) rfl (keep_cons (t := 56) rfl (keep_cons (t := 57) rfl (keep_cons (t := 58) rfl keep_nil)))))))))))))))))))))))))))))))))))))) ?_
                  refine aw_true rfl ?_
                  refine aw_seq_region ?_
                  refine sr_x rfl (wtd_none rfl) rfl (Rd.x (x_assign rfl)) ?_
                  refine sr_x rfl (wtd_none rfl) rfl (Rd.x (x_assign rfl)) ?_
                  refine sr_nil ?_
                  refine aw_keep (keep_cons (t := 4) rfl (keep_cons (t := 5) rfl (keep_cons (t := 6) rfl (keep_cons (t := 8) rfl (keep_cons (t := 25) rfl (keep_cons (t := 26) rfl (keep_cons (t := 27) rfl (keep_cons (t := 28) rfl (keep_cons (t := 29) rfl (keep_cons (t := 30) rfl (keep_cons (t := 31) rfl (keep_cons (t := 32) rfl (keep_cons (t := 33) rfl (keep_cons (t := 34) rfl (keep_cons (t := 35) rfl (keep_cons (t := 36) rfl (keep_cons (t := 37) rfl (keep_cons (t := 38) rfl (keep_cons (t := 39) rfl (keep_cons (t := 40) rfl (keep_cons (t := 41) rfl (keep_cons (t := 42) rfl (keep_cons (t := 43) rfl (keep_cons (t := 44) rfl (keep_cons (t := 45) rfl (keep_cons (t := 46) rfl (keep_cons (t := 47) rfl (keep_cons (t := 48) rfl (keep_cons (t := 49) rfl (keep_cons (t := 50) rfl (keep_cons (t := 51) rfl (keep_cons (t := 52) rfl (keep_cons (t := 53) rfl (keep_cons (t := 54) rfl (keep_cons (t := 55) rfl (keep_cons (t := 56) rfl (keep_cons (t := 57) rfl (keep_cons (t := 58) rfl keep_nil)))))))))))))))))))))))))))))))))))))) ?_
                  refine aw_ret ?_
                  show ∃ v H2, ResV _ _ _ _ _ _ v ∧ Sub H2 _ ∧ _
                  first | exact ⟨_, G, resV rfl (.cons rfl (.cons rfl .nil)), Sub.refl _, .inl ⟨by omega, rfl, rfl⟩⟩ | exact ⟨_, G, resV rfl (.cons rfl (.cons rfl .nil)), (by (repeat (first | exact Sub.refl _ | refine Sub.take (by repeat (first | exact Take.here | apply Take.there | apply Take.app)) ?_ | refine Sub.takeE (by repeat (first | exact TakeE.here | apply TakeE.there | apply TakeE.app)) ?_ | exact Sub.nil _ | apply Sub.drop | apply Sub.dropE)); first | done | fail), .inr (.inl ⟨by omega, 5, us, hgo.stop hu (.bad (by omega)) (by decide), by decide, rfl, rfl⟩)⟩ | exact ⟨_, G, resV rfl (.cons rfl (.cons rfl .nil)), (by (repeat (first | exact Sub.refl _ | refine Sub.take (by repeat (first | exact Take.here | apply Take.there | apply Take.app)) ?_ | refine Sub.takeE (by repeat (first | exact TakeE.here | apply TakeE.there | apply TakeE.app)) ?_ | exact Sub.nil _ | apply Sub.drop | apply Sub.dropE)); first | done | fail), .inr (.inl ⟨by omega, 13, us, hgo.stop hu (.twice (by omega) (hok.1 rfl)) (by decide), by decide, rfl, rfl⟩)⟩ | exact ⟨_, bk r3_2 (.slice a0 us.length c0) half 0 :: (E ++ G), resV rfl (.cons rfl (.cons rfl .nil)), Sub.refl _, .inr (.inr ⟨by omega, us, _, _, _, hgo.done (by omega), hsrt, by omega, V, rfl, rfl⟩)⟩
                · refine sr_x rfl (wtd_none rfl) rfl (Rd.x (x_pick_f rfl rfl rfl)) ?_
                  refine sr_x rfl (wtd_none rfl) rfl (Rd.x (x_move rfl)) ?_
                  refine sr_x rfl (wtd_yes rfl rfl rfl) rfl (Rd.x (x_fieldAddr fd86_2 rfl)) ?_
                  refine sr_x rfl (wtd_yes rfl rfl rfl) rfl (Rd.x (x_load ag2 rfl (cells_ext (by repeat (first | exact List.mem_cons_self | apply List.mem_cons_of_mem | apply List.mem_append_right)) (by repeat (first | exact Ext.all _ | exact Ext.done | apply Ext.take | apply Ext.skip))))) ?_
                  refine sr_cmp rfl (wtd_yes rfl rfl rfl) rfl (Rd.x (x_lt rfl rfl)) (fun h9 => ?_) (fun h9 => ?_)
                  · refine sr_x rfl (wtd_none rfl) rfl (Rd.x (x_pick_f rfl rfl rfl)) ?_
                    refine sr_x rfl (wtd_none rfl) rfl (Rd.x (x_move rfl)) ?_
                    refine sr_skip rfl (wtd_no rfl rfl rfl rfl) rfl ?_
                    refine sr_skip rfl (wtd_no rfl rfl rfl rfl) rfl ?_
                    refine sr_skip rfl (wtd_no rfl rfl rfl rfl) rfl ?_
                    refine sr_x rfl (wtd_none rfl) rfl (Rd.x (x_pick_t rfl rfl rfl)) ?_
                    refine sr_nil ?_
                    refine aw_keep (keep_cons (t := 4) rfl (keep_cons (t := 5) rfl (keep_cons (t := 6) rfl (keep_cons (t := 8) rfl (keep_cons (t := 25) rfl (keep_cons (t := 26) rfl (keep_cons (t := 27) rfl (keep_cons (t := 28) rfl (keep_cons (t := 29) rfl (keep_cons (t := 30) rfl (keep_cons (t := 31) rfl (keep_cons (t := 32) rfl (keep_cons (t := 33) rfl (keep_cons (t := 34) rfl (keep_cons (t := 35) rfl (keep_cons (t := 36) rfl (keep_cons (t := 37) rfl (keep_cons (t := 38) rfl (keep_cons (t := 39) rfl (keep_cons (t := 40) rfl (keep_cons (t := 41) rfl (keep_cons (t := 42) rfl (keep_cons (t := 43) rfl (keep_cons (t := 44) rfl (keep_cons (t := 45) rfl (keep_cons (t := 46) rfl (keep_cons (t := 47) rfl (keep_cons (t := 48) rfl (keep_cons (t := 49) rfl (keep_cons (t := 50) rfl (keep_cons (t := 51) rfl (keep_cons (t := 52) rfl (keep_cons (t := 53) rfl (keep_cons (t := 54) rfl (keep_cons (t := 55) rfl (keep_cons (t := 56) rfl (keep_cons (t := 57) rfl (keep_cons (t := 58) rfl keep_nil)))))))))))))))))))))))))))))))))))))) ?_
                    refine aw_true rfl ?_
                    refine aw_seq_region ?_
                    refine sr_x rfl (wtd_none rfl) rfl (Rd.x (x_assign rfl)) ?_
                    refine sr_x rfl (wtd_none rfl) rfl (Rd.x (x_assign rfl)) ?_
                    refine sr_nil ?_
                    refine aw_keep (keep_cons (t := 4) rfl (keep_cons (t := 5) rfl (keep_cons (t := 6) rfl (keep_cons (t := 8) rfl (keep_cons (t := 25) rfl (keep_cons (t := 26) rfl (keep_cons (t := 27) rfl (keep_cons (t := 28) rfl (keep_cons (t := 29) rfl (keep_cons (t := 30) rfl (keep_cons (t := 31) rfl (keep_cons (t := 32) rfl (keep_cons (t := 33) rfl (keep_cons (t := 34) rfl (keep_cons (t := 35) rfl (keep_cons (t := 36) rfl (keep_cons (t := 37) rfl (keep_cons (t := 38) rfl (keep_cons (t := 39) rfl (keep_cons (t := 40) rfl (keep_cons (t := 41) rfl (keep_cons (t := 42) rfl (keep_cons (t := 43) rfl (keep_cons (t := 44) rfl (keep_cons (t := 45) rfl (keep_cons (t := 46) rfl (keep_cons (t := 47) rfl (keep_cons (t := 48) rfl (keep_cons (t := 49) rfl (keep_cons (t := 50) rfl (keep_cons (t := 51) rfl (keep_cons (t := 52) rfl (keep_cons (t := 53) rfl (keep_cons (t := 54) rfl (keep_cons (t := 55) rfl (keep_cons (t := 56) rfl (keep_cons (t := 57) rfl (keep_cons (t := 58) rfl keep_nil)))))))))))))))))))))))))))))))))))))) ?_
                    refine aw_ret ?_
                    show ∃ v H2, ResV _ _ _ _ _ _ v ∧ Sub H2 _ ∧ _
                    first | exact ⟨_, G, resV rfl (.cons rfl (.cons rfl .nil)), Sub.refl _, .inl ⟨by omega, rfl, rfl⟩⟩ | exact ⟨_, G, resV rfl (.cons rfl (.cons rfl .nil)), (by (repeat (first | exact Sub.refl _ | refine Sub.take (by repeat (first | exact Take.here | apply Take.there | apply Take.app)) ?_ | refine Sub.takeE (by repeat (first | exact TakeE.here | apply TakeE.there | apply TakeE.app)) ?_ | exact Sub.nil _ | apply Sub.drop | apply Sub.dropE)); first | done | fail), .inr (.inl ⟨by omega, 5, us, hgo.stop hu (.bad (by omega)) (by decide), by decide, rfl, rfl⟩)⟩ | exact ⟨_, G, resV rfl (.cons rfl (.cons rfl .nil)), (by (repeat (first | exact Sub.refl _ | refine Sub.take (by repeat (first | exact Take.here | apply Take.there | apply Take.app)) ?_ | refine Sub.takeE (by repeat (first | exact TakeE.here | apply TakeE.there | apply TakeE.app)) ?_ | exact Sub.nil _ | apply Sub.drop | apply Sub.dropE)); first | done | fail), .inr (.inl ⟨by omega, 13, us, hgo.stop hu (.twice (by omega) (hok.1 rfl)) (by decide), by decide, rfl, rfl⟩)⟩ | exact ⟨_, bk r3_2 (.slice a0 us.length c0) half 0 :: (E ++ G), resV rfl (.cons rfl (.cons rfl .nil)), Sub.refl _, .inr (.inr ⟨by omega, us, _, _, _, hgo.done (by omega), hsrt, by omega, V, rfl, rfl⟩)⟩
                  · refine sr_x rfl (wtd_none rfl) rfl (Rd.x (x_pick_f rfl rfl rfl)) ?_
                    refine sr_x rfl (wtd_none rfl) rfl (Rd.x (x_move rfl)) ?_
                    refine sr_x rfl (wtd_yes rfl rfl rfl) rfl (Rd.x (x_fieldAddr fd86_2 rfl)) ?_
                    refine sr_x rfl (wtd_yes rfl rfl rfl) rfl (Rd.x (x_load ag2 rfl (cells_ext (by repeat (first | exact List.mem_cons_self | apply List.mem_cons_of_mem | apply List.mem_append_right)) (by repeat (first | exact Ext.all _ | exact Ext.done | apply Ext.take | apply Ext.skip))))) ?_
                    refine sr_cmp rfl (wtd_yes rfl rfl rfl) rfl (Rd.x (x_gt rfl rfl)) (fun h10 => ?_) (fun h10 => ?_)
                    · refine sr_x rfl (wtd_none rfl) rfl (Rd.x (x_pick_f rfl rfl rfl)) ?_
                      refine sr_nil ?_
                      refine aw_keep (keep_cons (t := 4) rfl (keep_cons (t := 5) rfl (keep_cons (t := 6) rfl (keep_cons (t := 8) rfl (keep_cons (t := 25) rfl (keep_cons (t := 26) rfl (keep_cons (t := 27) rfl (keep_cons (t := 28) rfl (keep_cons (t := 29) rfl (keep_cons (t := 30) rfl (keep_cons (t := 31) rfl (keep_cons (t := 32) rfl (keep_cons (t := 33) rfl (keep_cons (t := 34) rfl (keep_cons (t := 35) rfl (keep_cons (t := 36) rfl (keep_cons (t := 37) rfl (keep_cons (t := 38) rfl (keep_cons (t := 39) rfl (keep_cons (t := 40) rfl (keep_cons (t := 41) rfl (keep_cons (t := 42) rfl (keep_cons (t := 43) rfl (keep_cons (t := 44) rfl (keep_cons (t := 45) rfl (keep_cons (t := 46) rfl (keep_cons (t := 47) rfl (keep_cons (t := 48) rfl (keep_cons (t := 49) rfl (keep_cons (t := 50) rfl (keep_cons (t := 51) rfl (keep_cons (t := 52) rfl (keep_cons (t := 53) rfl (keep_cons (t := 54) rfl (keep_cons (t := 55) rfl (keep_cons (t := 56) rfl (keep_cons (t := 57) rfl (keep_cons (t := 58) rfl keep_nil)))))))))))))))))))))))))))))))))))))) ?_
                      refine aw_true rfl ?_
                      refine aw_seq_region ?_
                      refine sr_x rfl (wtd_none rfl) rfl (Rd.x (x_assign rfl)) ?_
                      refine sr_x rfl (wtd_none rfl) rfl (Rd.x (x_assign rfl)) ?_
                      refine sr_nil ?_
                      refine aw_keep (keep_cons (t := 4) rfl (keep_cons (t := 5) rfl (keep_cons (t := 6) rfl (keep_cons (t := 8) rfl (keep_cons (t := 25) rfl (keep_cons (t := 26) rfl (keep_cons (t := 27) rfl (keep_cons (t := 28) rfl (keep_cons (t := 29) rfl (keep_cons (t := 30) rfl (keep_cons (t := 31) rfl (keep_cons (t := 32) rfl (keep_cons (t := 33) rfl (keep_cons (t := 34) rfl (keep_cons (t := 35) rfl (keep_cons (t := 36) rfl (keep_cons (t := 37) rfl (keep_cons (t := 38) rfl (keep_cons (t := 39) rfl (keep_cons (t := 40) rfl (keep_cons (t := 41) rfl (keep_cons (t := 42) rfl (keep_cons (t := 43) rfl (keep_cons (t := 44) rfl (keep_cons (t := 45) rfl (keep_cons (t := 46) rfl (keep_cons (t := 47) rfl (keep_cons (t := 48) rfl (keep_cons (t := 49) rfl (keep_cons (t := 50) rfl (keep_cons (t := 51) rfl (keep_cons (t := 52) rfl (keep_cons (t := 53) rfl (keep_cons (t := 54) rfl (keep_cons (t := 55) rfl (keep_cons (t := 56) rfl (keep_cons (t := 57) rfl (keep_cons (t := 58) rfl keep_nil)))))))))))))))))))))))))))))))))))))) ?_
                      refine aw_ret ?_
                      show ∃ v H2, ResV _ _ _ _ _ _ v ∧ Sub H2 _ ∧ _
                      first | exact ⟨_, G, resV rfl (.cons rfl (.cons rfl .nil)), Sub.refl _, .inl ⟨by omega, rfl, rfl⟩⟩ | exact ⟨_, G, resV rfl (.cons rfl (.cons rfl .nil)), (by (repeat (first | exact Sub.refl _ | refine Sub.take (by repeat (first | exact Take.here | apply Take.there | apply Take.app)) ?_ | refine Sub.takeE (by repeat (first | exact TakeE.here | apply TakeE.there | apply TakeE.app)) ?_ | exact Sub.nil _ | apply Sub.drop | apply Sub.dropE)); first | done | fail), .inr (.inl ⟨by omega, 5, us, hgo.stop hu (.bad (by omega)) (by decide), by decide, rfl, rfl⟩)⟩ | exact ⟨_, G, resV rfl (.cons rfl (.cons rfl .nil)), (by (repeat (first | exact Sub.refl _ | refine Sub.take (by repeat (first | exact Take.here | apply Take.there | apply Take.app)) ?_ | refine Sub.takeE (by repeat (first | exact TakeE.here | apply TakeE.there | apply TakeE.app)) ?_ | exact Sub.nil _ | apply Sub.drop | apply Sub.dropE)); first | done | fail), .inr (.inl ⟨by omega, 13, us, hgo.stop hu (.twice (by omega) (hok.1 rfl)) (by decide), by decide, rfl, rfl⟩)⟩ | exact ⟨_, bk r3_2 (.slice a0 us.length c0) half 0 :: (E ++ G), resV rfl (.cons rfl (.cons rfl .nil)), Sub.refl _, .inr (.inr ⟨by omega, us, _, _, _, hgo.done (by omega), hsrt, by omega, V, rfl, rfl⟩)⟩
                    · refine sr_x rfl (wtd_none rfl) rfl (Rd.x (x_pick_f rfl rfl rfl)) ?_
                      refine sr_nil ?_
                      refine aw_keep (keep_cons (t := 4) rfl (keep_cons (t := 5) rfl (keep_cons (t := 6) rfl (keep_cons (t := 8) rfl (keep_cons (t := 25) rfl (keep_cons (t := 26) rfl (keep_cons (t := 27) rfl (keep_cons (t := 28) rfl (keep_cons (t := 29) rfl (keep_cons (t := 30) rfl (keep_cons (t := 31) rfl (keep_cons (t := 32) rfl (keep_cons (t := 33) rfl (keep_cons (t := 34) rfl (keep_cons (t := 35) rfl (keep_cons (t := 36) rfl (keep_cons (t := 37) rfl (keep_cons (t := 38) rfl (keep_cons (t := 39) rfl (keep_cons (t := 40) rfl (keep_cons (t := 41) rfl (keep_cons (t := 42) rfl (keep_cons (t := 43) rfl (keep_cons (t := 44) rfl (keep_cons (t := 45) rfl (keep_cons (t := 46) rfl (keep_cons (t := 47) rfl (keep_cons (t := 48) rfl (keep_cons (t := 49) rfl (keep_cons (t := 50) rfl (keep_cons (t := 51) rfl (keep_cons (t := 52) rfl (keep_cons (t := 53) rfl (keep_cons (t := 54) rfl (keep_cons (t := 55) rfl (keep_cons (t := 56) rfl (keep_cons (t := 57) rfl (keep_cons (t := 58) rfl keep_nil)))))))))))))))))))))))))))))))))))))) ?_
                      refine aw_false rfl ?_
                      refine aw_skip ?_
                      show AW _ _ _ _ _ _ _
                      refine aw_seq_region ?_
                      refine sr_x rfl (wtd_none rfl) rfl (Rd.x (x_move rfl)) ?_
                      refine sr_x rfl (wtd_none rfl) rfl (Rd.x (x_fieldAddr fd86_0 rfl)) ?_
                      refine sr_x rfl (wtd_none rfl) rfl (Rd.x (x_load ag3 rfl (cells_ext (by repeat (first | exact List.mem_cons_self | apply List.mem_cons_of_mem | apply List.mem_append_right)) (by repeat (first | exact Ext.all _ | exact Ext.done | apply Ext.take | apply Ext.skip))))) ?_
                      refine sr_d rfl (wtd_none rfl) rfl (opS_call rfl rfl rfl rfl cl107 (ufind_s r3_2 a0 c0 us half 0 u.id _ (cells_ext (by repeat (first | exact List.mem_cons_self | apply List.mem_cons_of_mem | apply List.mem_append_right)) (by repeat (first | exact Ext.all _ | exact Ext.done | apply Ext.take | apply Ext.skip))) (V.slv' (fun _ => rfl) rfl (Sub.takeE0 (by repeat (first | exact TakeE.here | apply TakeE.there | apply TakeE.app)))) hsrt (by omega))) ?_
                      rintro _ H9 ⟨⟨i, ok, rfl, hat, hok⟩, rfl⟩
                      cases ok
                      · refine sr_x rfl (wtd_none rfl) rfl (Rd.x (x_move rfl)) ?_
                        refine sr_x rfl (wtd_none rfl) rfl (Rd.x (x_extract rfl rfl)) ?_
                        refine sr_x rfl (wtd_none rfl) rfl (Rd.x (x_extract rfl rfl)) ?_
                        refine sr_x rfl (wtd_none rfl) rfl (Rd.x (x_assign rfl)) ?_
                        refine sr_x rfl (wtd_none rfl) rfl (Rd.x (x_assign rfl)) ?_
                        refine sr_nil ?_
                        refine aw_keep (keep_cons (t := 4) rfl (keep_cons (t := 5) rfl (keep_cons (t := 6) rfl (keep_cons (t := 8) rfl (keep_cons (t := 9) rfl (keep_cons (t := 10) rfl (keep_cons (t := 25) rfl (keep_cons (t := 26) rfl (keep_cons (t := 27) rfl (keep_cons (t := 28) rfl (keep_cons (t := 29) rfl (keep_cons (t := 30) rfl (keep_cons (t := 31) rfl (keep_cons (t := 32) rfl (keep_cons (t := 33) rfl (keep_cons (t := 34) rfl (keep_cons (t := 35) rfl (keep_cons (t := 36) rfl (keep_cons (t := 37) rfl (keep_cons (t := 38) rfl (keep_cons (t := 39) rfl (keep_cons (t := 40) rfl (keep_cons (t := 41) rfl (keep_cons (t := 42) rfl (keep_cons (t := 43) rfl (keep_cons (t := 44) rfl (keep_cons (t := 45) rfl (keep_cons (t := 46) rfl (keep_cons (t := 47) rfl (keep_cons (t := 48) rfl (keep_cons (t := 49) rfl (keep_cons (t := 50) rfl (keep_cons (t := 51) rfl (keep_cons (t := 52) rfl (keep_cons (t := 53) rfl (keep_cons (t := 54) rfl (keep_cons (t := 55) rfl (keep_cons (t := 56) rfl (keep_cons (t := 57) rfl (keep_cons (t := 58) rfl (keep_cons (t := 59) rfl (keep_cons (t := 60) rfl (keep_cons (t := 61) rfl (keep_cons (t := 62) rfl (keep_cons (t := 63) rfl (keep_cons (t := 64) rfl (keep_cons (t := 65) rfl keep_nil))))))))))))))))))))))))))))))))))))))))))))))) ?_
                        refine aw_seq ?_
                        refine aw_seq_region ?_
                        refine sr_x rfl (wtd_none rfl) rfl (Rd.x (x_move rfl)) ?_
                        refine sr_nil ?_
                        refine aw_keep (keep_cons (t := 4) rfl (keep_cons (t := 5) rfl (keep_cons (t := 6) rfl (keep_cons (t := 8) rfl (keep_cons (t := 9) rfl (keep_cons (t := 10) rfl (keep_cons (t := 25) rfl (keep_cons (t := 26) rfl (keep_cons (t := 27) rfl (keep_cons (t := 28) rfl (keep_cons (t := 29) rfl (keep_cons (t := 30) rfl (keep_cons (t := 31) rfl (keep_cons (t := 32) rfl (keep_cons (t := 33) rfl (keep_cons (t := 34) rfl (keep_cons (t := 35) rfl (keep_cons (t := 36) rfl (keep_cons (t := 37) rfl (keep_cons (t := 38) rfl (keep_cons (t := 39) rfl (keep_cons (t := 40) rfl (keep_cons (t := 41) rfl (keep_cons (t := 42) rfl (keep_cons (t := 43) rfl (keep_cons (t := 44) rfl (keep_cons (t := 45) rfl (keep_cons (t := 46) rfl (keep_cons (t := 47) rfl (keep_cons (t := 48) rfl (keep_cons (t := 49) rfl (keep_cons (t := 50) rfl (keep_cons (t := 51) rfl (keep_cons (t := 52) rfl (keep_cons (t := 53) rfl (keep_cons (t := 54) rfl (keep_cons (t := 55) rfl (keep_cons (t := 56) rfl (keep_cons (t := 57) rfl (keep_cons (t := 58) rfl (keep_cons (t := 59) rfl (keep_cons (t := 60) rfl (keep_cons (t := 61) rfl (keep_cons (t := 62) rfl (keep_cons (t := 63) rfl (keep_cons (t := 64) rfl (keep_cons (t := 65) rfl (keep_cons (t := 66) rfl keep_nil)))))))))))))))))))))))))))))))))))))))))))))))) ?_
                        refine aw_false rfl ?_
                        refine aw_skip ?_
                        show AW _ _ _ _ _ _ _
                        refine aw_dr ⟨_, 12, 80, [[], [], [1], [1, 2], [1, 2, 3], [], [], [6], [1, 2, 3, 4, 5, 6, 7], [0, 1, 2, 3, 4, 5, 6, 7, 8], [0, 1, 2, 3, 4, 5, 6, 7, 8, 9], [0, 1, 2, 3, 4, 5, 6, 7, 8, 9, 10]], [.light, .light, .light, .light, .mem, .light, .mem, .alloc, .eff, .light, .light, .eff]⟩ (by kernel_rfl) rfl rfl mix ?_
                        have hnm : ∀ x ∈ us, x.id ≠ u.id := fun x hx he => (nomatch hok.2 ⟨x, hx, he⟩)
                        refine dr_light rfl rfl (wtd_none rfl) (x_move rfl) ?_
                        refine dr_light rfl rfl (wtd_none rfl) (x_move rfl) ?_
                        refine dr_light rfl rfl (wtd_none rfl) (x_nilCheck rfl) ?_
                        refine dr_light rfl rfl (wtd_none rfl) (x_fieldAddr fd141_0 rfl) ?_
                        refine dr_mem0 rfl rfl (wtd_none rfl) (x_load ag73 rfl (cells_ext (by repeat (first | exact List.mem_cons_self | apply List.mem_cons_of_mem | apply List.mem_append_right)) (by repeat (first | exact Ext.all _ | exact Ext.done | apply Ext.take | apply Ext.skip)))) ?_
                        refine dr_light rfl rfl (wtd_none rfl) (x_move rfl) ?_
                        refine dr_mem0 rfl rfl (wtd_none rfl) (x_loadN ag86 sz86 rfl (cells_ext (by repeat (first | exact List.mem_cons_self | apply List.mem_cons_of_mem | apply List.mem_append_right)) (by repeat (first | exact Ext.all _ | exact Ext.done | apply Ext.take | apply Ext.skip))) rfl) ?_
                        refine dr_alloc rfl rfl (wtd_none rfl) (x_buildSlice Try.underlying73 sz86 zr86 rfl rfl rfl rfl (by repeat (first | exact Parts.nil | (apply Parts.cons; rfl))) (by repeat (first | exact Fill.done | (apply Fill.part; rfl; rfl; rfl; focus (repeat (first | exact Spl.done | exact Spl.all rfl | apply Spl.put | apply Spl.skip)))))) ?_
                        intro r12_7 hr12_7 gr12_7
                        refine dr_eff rfl (V := [(r12_7, _)]) rfl (L' := []) (clear_all rfl) rfl (wtd_none rfl) (opS_F rfl rfl rfl rfl cl108 (AC.sub (by repeat (first | exact Sub.refl _ | refine Sub.take (by repeat (first | exact Take.here | apply Take.there | apply Take.app)) ?_ | refine Sub.takeE (by repeat (first | exact TakeE.here | apply TakeE.there | apply TakeE.app)) ?_ | exact Sub.nil _ | apply Sub.drop | apply Sub.dropE)) (uinsert_s (.slice a0 us.length c0) us.length i r12_7 (us.flatMap User.cells) u.cells E (bk r3_2 (.slice a0 us.length c0) half 0 :: G) V rfl rfl (all_oneU us) hat.1 (by omega)))) (vec_fresh (by rw [insU_cells, flat_len (n := 3) (fun _ => rfl), insU_len hat.1]) (by omega) (by repeat (first | exact Sub.refl _ | refine Sub.take (by repeat (first | exact Take.here | apply Take.there | apply Take.app)) ?_ | refine Sub.takeE (by repeat (first | exact TakeE.here | apply TakeE.there | apply TakeE.app)) ?_ | exact Sub.nil _ | apply Sub.drop | apply Sub.dropE))) ?_
                        rintro _ _ ⟨a1, c1, E1, rfl, V1, rfl⟩
                        rw [insU_cells] at V1
                        refine dr_light rfl rfl (wtd_none rfl) (x_nilCheck rfl) ?_
                        refine dr_light rfl rfl (wtd_none rfl) (x_fieldAddr fd141_0 rfl) ?_
                        refine dr_store0 rfl rfl (wtd_none rfl) (x_store sz73 rfl rfl rfl rfl rfl (by repeat (first | exact Repl.here | apply Repl.there | apply Repl.app)) (by repeat (first | exact Spl.done | exact Spl.all rfl | apply Spl.put | apply Spl.skip))) (by first | rfl | simp [keys_append, keys_cons]) ?_
                        refine dr_nil0 ?_
                        show AW _ _ _ _ _ _ _
                        refine aw_region ?_
                        refine sr_x rfl (wtd_none rfl) rfl (Rd.x (x_add' rfl rfl (i64w (by omega) (by omega)))) ?_
                        refine sr_x rfl (wtd_none rfl) rfl (Rd.x (x_move rfl)) ?_
                        refine sr_nil ?_
                        show ∃ s', _ ∧ _ ∧ _ ∧ _
                        exact ⟨⟨k + 1, insU us i u, .slice a1 (us.length + 1) c1, E1⟩, ⟨by dsimp only; omega, srt_ins hsrt hat hnm, by dsimp only; rw [insU_len hat.1]; omega, by dsimp only; rw [insU_len hat.1]; exact V1, hgo.step hu (.ok (by omega) hnm hat)⟩, by dsimp only; omega, (by (repeat (first | exact keep_nil | refine keep_cons rfl ?_)); first | done | fail), (by repeat (first | exact Sub.refl _ | refine Sub.take (by repeat (first | exact Take.here | apply Take.there | apply Take.app)) ?_ | refine Sub.takeE (by repeat (first | exact TakeE.here | apply TakeE.there | apply TakeE.app)) ?_ | exact Sub.nil _ | apply Sub.drop | apply Sub.dropE))⟩
                      · refine sr_x rfl (wtd_none rfl) rfl (Rd.x (x_move rfl)) ?_
                        refine sr_x rfl (wtd_none rfl) rfl (Rd.x (x_extract rfl rfl)) ?_
                        refine sr_x rfl (wtd_none rfl) rfl (Rd.x (x_extract rfl rfl)) ?_
                        refine sr_x rfl (wtd_none rfl) rfl (Rd.x (x_assign rfl)) ?_
                        refine sr_x rfl (wtd_none rfl) rfl (Rd.x (x_assign rfl)) ?_
                        refine sr_nil ?_
                        refine aw_keep (keep_cons (t := 4) rfl (keep_cons (t := 5) rfl (keep_cons (t := 6) rfl (keep_cons (t := 8) rfl (keep_cons (t := 9) rfl (keep_cons (t := 10) rfl (keep_cons (t := 25) rfl (keep_cons (t := 26) rfl (keep_cons (t := 27) rfl (keep_cons (t := 28) rfl (keep_cons (t := 29) rfl (keep_cons (t := 30) rfl (keep_cons (t := 31) rfl (keep_cons (t := 32) rfl (keep_cons (t := 33) rfl (keep_cons (t := 34) rfl (keep_cons (t := 35) rfl (keep_cons (t := 36) rfl (keep_cons (t := 37) rfl (keep_cons (t := 38) rfl (keep_cons (t := 39) rfl (keep_cons (t := 40) rfl (keep_cons (t := 41) rfl (keep_cons (t := 42) rfl (keep_cons (t := 43) rfl (keep_cons (t := 44) rfl (keep_cons (t := 45) rfl (keep_cons (t := 46) rfl (keep_cons (t := 47) rfl (keep_cons (t := 48) rfl (keep_cons (t := 49) rfl (keep_cons (t := 50) rfl (keep_cons (t := 51) rfl (keep_cons (t := 52) rfl (keep_cons (t := 53) rfl (keep_cons (t := 54) rfl (keep_cons (t := 55) rfl (keep_cons (t := 56) rfl (keep_cons (t := 57) rfl (keep_cons (t := 58) rfl (keep_cons (t := 59) rfl (keep_cons (t := 60) rfl (keep_cons (t := 61) rfl (keep_cons (t := 62) rfl (keep_cons (t := 63) rfl (keep_cons (t := 64) rfl (keep_cons (t := 65) rfl keep_nil))))))))))))))))))))))))))))))))))))))))))))))) ?_
                        refine aw_seq ?_
                        refine aw_seq_region ?_
                        refine sr_x rfl (wtd_none rfl) rfl (Rd.x (x_move rfl)) ?_
                        refine sr_nil ?_
                        refine aw_keep (keep_cons (t := 4) rfl (keep_cons (t := 5) rfl (keep_cons (t := 6) rfl (keep_cons (t := 8) rfl (keep_cons (t := 9) rfl (keep_cons (t := 10) rfl (keep_cons (t := 25) rfl (keep_cons (t := 26) rfl (keep_cons (t := 27) rfl (keep_cons (t := 28) rfl (keep_cons (t := 29) rfl (keep_cons (t := 30) rfl (keep_cons (t := 31) rfl (keep_cons (t := 32) rfl (keep_cons (t := 33) rfl (keep_cons (t := 34) rfl (keep_cons (t := 35) rfl (keep_cons (t := 36) rfl (keep_cons (t := 37) rfl (keep_cons (t := 38) rfl (keep_cons (t := 39) rfl (keep_cons (t := 40) rfl (keep_cons (t := 41) rfl (keep_cons (t := 42) rfl (keep_cons (t := 43) rfl (keep_cons (t := 44) rfl (keep_cons (t := 45) rfl (keep_cons (t := 46) rfl (keep_cons (t := 47) rfl (keep_cons (t := 48) rfl (keep_cons (t := 49) rfl (keep_cons (t := 50) rfl (keep_cons (t := 51) rfl (keep_cons (t := 52) rfl (keep_cons (t := 53) rfl (keep_cons (t := 54) rfl (keep_cons (t := 55) rfl (keep_cons (t := 56) rfl (keep_cons (t := 57) rfl (keep_cons (t := 58) rfl (keep_cons (t := 59) rfl (keep_cons (t := 60) rfl (keep_cons (t := 61) rfl (keep_cons (t := 62) rfl (keep_cons (t := 63) rfl (keep_cons (t := 64) rfl (keep_cons (t := 65) rfl (keep_cons (t := 66) rfl keep_nil)))))))))))))))))))))))))))))))))))))))))))))))) ?_
                        refine aw_true rfl ?_
                        refine aw_seq_region ?_
                        refine sr_x rfl (wtd_none rfl) rfl (Rd.x (x_assign rfl)) ?_
                        refine sr_x rfl (wtd_none rfl) rfl (Rd.x (x_assign rfl)) ?_
                        refine sr_nil ?_
                        refine aw_keep (keep_cons (t := 4) rfl (keep_cons (t := 5) rfl (keep_cons (t := 6) rfl (keep_cons (t := 8) rfl (keep_cons (t := 9) rfl (keep_cons (t := 10) rfl (keep_cons (t := 25) rfl (keep_cons (t := 26) rfl (keep_cons (t := 27) rfl (keep_cons (t := 28) rfl (keep_cons (t := 29) rfl (keep_cons (t := 30) rfl (keep_cons (t := 31) rfl (keep_cons (t := 32) rfl (keep_cons (t := 33) rfl (keep_cons (t := 34) rfl (keep_cons (t := 35) rfl (keep_cons (t := 36) rfl (keep_cons (t := 37) rfl (keep_cons (t := 38) rfl (keep_cons (t := 39) rfl (keep_cons (t := 40) rfl (keep_cons (t := 41) rfl (keep_cons (t := 42) rfl (keep_cons (t := 43) rfl (keep_cons (t := 44) rfl (keep_cons (t := 45) rfl (keep_cons (t := 46) rfl (keep_cons (t := 47) rfl (keep_cons (t := 48) rfl (keep_cons (t := 49) rfl (keep_cons (t := 50) rfl (keep_cons (t := 51) rfl (keep_cons (t := 52) rfl (keep_cons (t := 53) rfl (keep_cons (t := 54) rfl (keep_cons (t := 55) rfl (keep_cons (t := 56) rfl (keep_cons (t := 57) rfl (keep_cons (t := 58) rfl (keep_cons (t := 59) rfl (keep_cons (t := 60) rfl (keep_cons (t := 61) rfl (keep_cons (t := 62) rfl (keep_cons (t := 63) rfl (keep_cons (t := 64) rfl (keep_cons (t := 65) rfl (keep_cons (t := 66) rfl keep_nil)))))))))))))))))))))))))))))))))))))))))))))))) ?_
                        refine aw_ret ?_
                        show ∃ v H2, ResV _ _ _ _ _ _ v ∧ Sub H2 _ ∧ _
                        first | exact ⟨_, G, resV rfl (.cons rfl (.cons rfl .nil)), Sub.refl _, .inl ⟨by omega, rfl, rfl⟩⟩ | exact ⟨_, G, resV rfl (.cons rfl (.cons rfl .nil)), (by (repeat (first | exact Sub.refl _ | refine Sub.take (by repeat (first | exact Take.here | apply Take.there | apply Take.app)) ?_ | refine Sub.takeE (by repeat (first | exact TakeE.here | apply TakeE.there | apply TakeE.app)) ?_ | exact Sub.nil _ | apply Sub.drop | apply Sub.dropE)); first | done | fail), .inr (.inl ⟨by omega, 5, us, hgo.stop hu (.bad (by omega)) (by decide), by decide, rfl, rfl⟩)⟩ | exact ⟨_, G, resV rfl (.cons rfl (.cons rfl .nil)), (by (repeat (first | exact Sub.refl _ | refine Sub.take (by repeat (first | exact Take.here | apply Take.there | apply Take.app)) ?_ | refine Sub.takeE (by repeat (first | exact TakeE.here | apply TakeE.there | apply TakeE.app)) ?_ | exact Sub.nil _ | apply Sub.drop | apply Sub.dropE)); first | done | fail), .inr (.inl ⟨by omega, 13, us, hgo.stop hu (.twice (by omega) (hok.1 rfl)) (by decide), by decide, rfl, rfl⟩)⟩ | exact ⟨_, bk r3_2 (.slice a0 us.length c0) half 0 :: (E ++ G), resV rfl (.cons rfl (.cons rfl .nil)), Sub.refl _, .inr (.inr ⟨by omega, us, _, _, _, hgo.done (by omega), hsrt, by omega, V, rfl, rfl⟩)⟩
        · refine sr_nil ?_
          refine aw_keep (keep_cons (t := 4) rfl (keep_cons (t := 5) rfl (keep_cons (t := 6) rfl (keep_cons (t := 25) rfl (keep_cons (t := 26) rfl (keep_cons (t := 27) rfl (keep_cons (t := 28) rfl keep_nil))))))) ?_
          refine aw_seq ?_
          refine aw_false rfl ?_
          refine aw_exit ?_
          show AW _ _ _ _ _ _ _
          refine aw_seq_region ?_
          refine sr_x rfl (wtd_none rfl) rfl (Rd.x (x_move rfl)) ?_
          refine sr_x rfl (wtd_none rfl) rfl (Rd.x (x_assign rfl)) ?_
          refine sr_x rfl (wtd_none rfl) rfl (Rd.x (x_assign rfl)) ?_
          refine sr_nil ?_
          refine aw_keep (keep_cons (t := 4) rfl (keep_cons (t := 5) rfl keep_nil)) ?_
          refine aw_ret ?_
          show ∃ v H2, ResV _ _ _ _ _ _ v ∧ Sub H2 _ ∧ _
          first | exact ⟨_, G, resV rfl (.cons rfl (.cons rfl .nil)), Sub.refl _, .inl ⟨by omega, rfl, rfl⟩⟩ | exact ⟨_, G, resV rfl (.cons rfl (.cons rfl .nil)), (by (repeat (first | exact Sub.refl _ | refine Sub.take (by repeat (first | exact Take.here | apply Take.there | apply Take.app)) ?_ | refine Sub.takeE (by repeat (first | exact TakeE.here | apply TakeE.there | apply TakeE.app)) ?_ | exact Sub.nil _ | apply Sub.drop | apply Sub.dropE)); first | done | fail), .inr (.inl ⟨by omega, 5, us, hgo.stop hu (.bad (by omega)) (by decide), by decide, rfl, rfl⟩)⟩ | exact ⟨_, G, resV rfl (.cons rfl (.cons rfl .nil)), (by (repeat (first | exact Sub.refl _ | refine Sub.take (by repeat (first | exact Take.here | apply Take.there | apply Take.app)) ?_ | refine Sub.takeE (by repeat (first | exact TakeE.here | apply TakeE.there | apply TakeE.app)) ?_ | exact Sub.nil _ | apply Sub.drop | apply Sub.dropE)); first | done | fail), .inr (.inl ⟨by omega, 13, us, hgo.stop hu (.twice (by omega) (hok.1 rfl)) (by decide), by decide, rfl, rfl⟩)⟩ | exact ⟨_, bk r3_2 (.slice a0 us.length c0) half 0 :: (E ++ G), resV rfl (.cons rfl (.cons rfl .nil)), Sub.refl _, .inr (.inr ⟨by omega, us, _, _, _, hgo.done (by omega), hsrt, by omega, V, rfl, rfl⟩)⟩
set_option maxRecDepth 100000 in
theorem read_User {H : Type} {enc : TypeId × Value → H} {w : World} {base : Nat} {spare : Nat → Bool} {held : Bool} {fuel : Nat} {cs : List Value} {x : DataW H × List MemPlace} (h : DataW.trod enc Try.prog w base spare held fuel 86 cs = some x) : ∃ j : User, cs = j.cells ∧ j.Wf := by
  obtain ⟨hlen, n, hf⟩ := read_struct Try.underlying86 h
  rw [cells86] at hlen
  obtain ⟨a0, e0, l0, u0⟩ := read_int Try.underlying3 cells3 (hf 0 _ rfl)
  obtain ⟨a1, e1, l1, u1⟩ := read_int Try.underlying3 cells3 (hf 1 _ rfl)
  obtain ⟨a2, e2, l2, u2⟩ := read_int Try.underlying2 cells2 (hf 2 _ rfl)
  refine ⟨⟨a0, a1, a2⟩, ?_, ⟨l0, u0, l1, u1, l2, u2⟩⟩
  apply List.ext_getElem?
  intro i
  match i with
  | 0 => exact e0
  | 1 => exact e1
  | 2 => exact e2
  | i + 3 => rw [List.getElem?_eq_none (by omega), List.getElem?_eq_none (by simp)]
set_option maxRecDepth 100000 in
theorem open_User {H : Type} {enc : TypeId × Value → H} {w : World} {base b0 : Nat} {spare : Nat → Bool} {held : Bool} {v : Value} {d : DataW H} {p : List MemPlace} {r : Reach} (hv : Value.okWide Try.prog w r b0 86 v) (h : DataW.Trod enc Try.prog w base spare held 86 v d p) : ∃ j : User, v = j.v ∧ j.Wf := by
  obtain ⟨cs, rfl, _⟩ := Go.WideShapes.okWide_struct Try.underlying86 hv
  obtain ⟨fuel, hf⟩ := h
  obtain ⟨j, h1, h2⟩ := read_User hf
  refine ⟨j, ?_, h2⟩
  have : cs = j.cells.toArray := by apply Array.toList_inj.1; exact h1
  rw [this]
end
end Go.Proofs.Yteilocpjikmmdaa
