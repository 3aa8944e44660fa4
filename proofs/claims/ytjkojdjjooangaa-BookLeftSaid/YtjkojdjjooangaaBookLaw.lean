/- A book of entries in plain Lean: entries by their names, and room for one more. -/
import Derived.Test.YtjkojdjjooangaaSpanLaw
namespace Go.Proofs.Ytjkojdjjooangaa.Sym
set_option linter.unusedVariables false
set_option linter.unusedSimpArgs false
open Go.Op (bytesLess)
theorem bl_irr : ∀ l : List UInt8, bytesLess l l = false
  | [] => rfl
  | a :: l => by
    unfold bytesLess
    rw [bl_irr l, Bool.and_false, Bool.or_false]
    exact decide_eq_false (UInt8.lt_irrefl a)
theorem bl_trans : ∀ {x y z : List UInt8}, bytesLess x y = true → bytesLess y z = true → bytesLess x z = true
  | _, _, [], _, h => by unfold bytesLess at h; cases h
  | _, [], _ :: _, h, _ => by unfold bytesLess at h; cases h
  | [], _ :: _, _ :: _, _, _ => rfl
  | a :: x, b :: y, c :: z, h1, h2 => by
    unfold bytesLess at *
    simp only [Bool.or_eq_true, decide_eq_true_eq, Bool.and_eq_true, beq_iff_eq] at *
    rcases h1 with h1 | ⟨rfl, h1⟩
    · rcases h2 with h2 | ⟨rfl, h2⟩
      · exact .inl (UInt8.lt_trans h1 h2)
      · exact .inl h1
    · rcases h2 with h2 | ⟨rfl, h2⟩
      · exact .inl h2
      · exact .inr ⟨rfl, bl_trans h1 h2⟩
theorem bl_tri : ∀ {x y : List UInt8}, bytesLess x y = false → bytesLess y x = false → x = y
  | [], [], _, _ => rfl
  | [], _ :: _, h, _ => by unfold bytesLess at h; cases h
  | _ :: _, [], _, h => by unfold bytesLess at h; cases h
  | a :: x, b :: y, h1, h2 => by
    unfold bytesLess at *
    simp only [Bool.or_eq_false_iff, decide_eq_false_iff_not, Bool.and_eq_false_imp, beq_iff_eq] at *
    have e : a = b := by
      apply UInt8.toNat_inj.1
      have q1 := h1.1
      have q2 := h2.1
      rw [UInt8.lt_iff_toNat_lt] at q1 q2
      omega
    subst e
    rw [bl_tri (h1.2 rfl) (h2.2 rfl)]
def bless (a b : ByteArray) : Bool := bytesLess a.toList b.toList
theorem bless_irr (a : ByteArray) : bless a a = false := bl_irr _
theorem bless_trans {a b c : ByteArray} (h : bless a b = true) (k : bless b c = true) : bless a c = true := bl_trans h k
theorem bless_asym {a b : ByteArray} (h : bless a b = true) : bless b a = false := by
  cases q : bless b a with
  | false => rfl
  | true => have := bless_trans h q; rw [bless_irr] at this; cases this
theorem bless_tri {a b : ByteArray} (h : bless a b = false) (k : bless b a = false) : a = b := by
  have h1 := bl_tri h k
  have h2 := str_eq (a := a) (b := b)
  rw [h1] at h2
  simpa using h2
theorem bless_ne {a b : ByteArray} (h : bless a b = true) : a ≠ b := fun e => by subst e; rw [bless_irr] at h; cases h
section
variable {P : Program} {W0 : World} {F : Fm} {H : SHeap} {t t' : TypeId} {x y : Operand} {a b : ByteArray} {d : Option Tmp} {ty : TypeId} {pos : String} {af : Array Edge} {g : Option (Nat × Bool)}
theorem x_ltS (hx : val F x = some (.string a)) (hy : val F y = some (.string b)) : Rd P W0 F H ⟨d, .binOp .lss t x y t', ty, pos, af, g⟩ (.bool (decide (bless a b = true))) :=
  exec_binS hx hy (by simp only [binOp, Op.stringOp, Bool.decide_eq_true]; rfl)
theorem x_gtS (hx : val F x = some (.string a)) (hy : val F y = some (.string b)) : Rd P W0 F H ⟨d, .binOp .gtr t x y t', ty, pos, af, g⟩ (.bool (decide (bless b a = true))) :=
  exec_binS hx hy (by
    have e : (!(bytesLess a.toList b.toList || a.toList == b.toList)) = decide (bless b a = true) := by
      rw [str_eq]
      cases q : bytesLess a.toList b.toList with
      | true =>
        have h1 : bless b a = false := bless_asym q
        rw [h1]; rfl
      | false =>
        cases q2 : bless b a with
        | true =>
          have h1 : ¬ a = b := fun e => bless_ne q2 e.symm
          rw [decide_eq_false h1]; rfl
        | false => rw [decide_eq_true (bless_tri q q2)]; rfl
    simp only [binOp, Op.stringOp, e]; rfl)
end
structure BEnt where
  name : ByteArray
  sp : PSpan
@[reducible] def BEnt.cells (j : BEnt) : List Value := [.string j.name, .int .i64 j.sp.from_, .int .i64 j.sp.to_, .int .i64 j.sp.width]
@[reducible] def BEnt.v (j : BEnt) : Value := .agg (BEnt.cells j).toArray
def bR (e : BEnt) : Prop := 1 ≤ e.name.size ∧ e.name.size ≤ 32 ∧ 0 ≤ e.sp.from_ ∧ e.sp.from_ < e.sp.to_ ∧ e.sp.to_ ≤ 2199023255552 ∧ 1 ≤ e.sp.width ∧ e.sp.width ≤ 64
instance (e : BEnt) : Decidable (bR e) := by unfold bR; exact inferInstance
theorem bR.ok {e : BEnt} (h : bR e) : spR e.sp = true := spR_iff.2 (by unfold bR at h; omega)
def BSrt (B : List BEnt) : Prop := B.Pairwise (fun a b => bless a.name b.name = true)
def insB (e : BEnt) : List BEnt → List BEnt
  | [] => [e]
  | x :: l => if bless e.name x.name = true then e :: x :: l else x :: insB e l
theorem insB_mem {e x : BEnt} : ∀ {B : List BEnt}, x ∈ insB e B ↔ x = e ∨ x ∈ B
  | [] => by unfold insB; simp
  | y :: l => by
    unfold insB
    split
    · simp
    · rw [List.mem_cons, insB_mem, List.mem_cons]
      constructor
      · rintro (h | h | h)
        · exact .inr (.inl h)
        · exact .inl h
        · exact .inr (.inr h)
      · rintro (h | h | h)
        · exact .inr (.inl h)
        · exact .inl h
        · exact .inr (.inr h)
theorem insB_len {e : BEnt} : ∀ {B : List BEnt}, (insB e B).length = B.length + 1
  | [] => rfl
  | y :: l => by
    unfold insB
    split
    · rfl
    · rw [List.length_cons, insB_len, List.length_cons]
theorem insB_srt {e : BEnt} : ∀ {B : List BEnt}, BSrt B → (∀ x ∈ B, x.name ≠ e.name) → BSrt (insB e B)
  | [], _, _ => by unfold insB BSrt; simp
  | y :: l, h, hn => by
    have h' := h
    unfold BSrt at h
    rw [List.pairwise_cons] at h
    unfold insB
    split
    · next q =>
      unfold BSrt
      rw [List.pairwise_cons]
      refine ⟨fun x hx => ?_, h'⟩
      rw [List.mem_cons] at hx
      rcases hx with rfl | hx
      · exact q
      · exact bless_trans q (h.1 x hx)
    · next q =>
      unfold BSrt
      rw [List.pairwise_cons]
      refine ⟨fun x hx => ?_, insB_srt h.2 fun x hx => hn x (List.mem_cons_of_mem _ hx)⟩
      rcases insB_mem.1 hx with rfl | hx
      · cases q2 : bless y.name x.name with
        | true => rfl
        | false =>
          refine absurd (bless_tri q2 ?_) (hn y List.mem_cons_self)
          cases q3 : bless x.name y.name with
          | false => rfl
          | true => exact absurd q3 q
      · exact h.1 x hx
theorem insB_at {e : BEnt} : ∀ {B : List BEnt} {i : Nat}, i ≤ B.length → (∀ j x, j < i → B[j]? = some x → bless x.name e.name = true) → (∀ x, B[i]? = some x → bless e.name x.name = true) → insB e B = B.take i ++ e :: B.drop i
  | [], i, hi, _, _ => by
    obtain rfl : i = 0 := by simpa using hi
    rfl
  | y :: l, 0, _, _, hn => by
    unfold insB
    rw [if_pos (hn y rfl)]; rfl
  | y :: l, i + 1, hi, hp, hn => by
    unfold insB
    rw [if_neg (by rw [bless_asym (hp 0 y (by omega) rfl)]; decide), insB_at (i := i) (by simpa using hi) (fun j x hj hx => hp (j + 1) x (by omega) (by simpa using hx)) (fun x hx => hn x (by simpa using hx))]
    rfl
/-- Where a name is, or would be. -/
structure Fnd (B : List BEnt) (nm : ByteArray) (i : Nat) (b : Bool) : Prop where
  le : i ≤ B.length
  lo : ∀ j x, j < i → B[j]? = some x → bless x.name nm = true
  hi : ∀ x, B[i]? = some x → bless x.name nm = false
  at_ : b = true ↔ ∃ x, B[i]? = some x ∧ x.name = nm
theorem BSrt.lt {B : List BEnt} (h : BSrt B) {i j : Nat} {x y : BEnt} (hx : B[i]? = some x) (hy : B[j]? = some y) (hij : i < j) : bless x.name y.name = true := by
  have h1 := get_lt hx
  have h2 := get_lt hy
  have := List.pairwise_iff_getElem.1 h i j h1 h2 hij
  rw [List.getElem?_eq_getElem h1] at hx
  rw [List.getElem?_eq_getElem h2] at hy
  cases hx; cases hy; exact this
theorem Fnd.no {B : List BEnt} {nm : ByteArray} {i : Nat} (hs : BSrt B) (h : Fnd B nm i false) : ∀ x ∈ B, x.name ≠ nm := by
  intro x hx
  obtain ⟨j, hj⟩ := List.getElem?_of_mem hx
  rcases Nat.lt_trichotomy j i with q | q | q
  · exact bless_ne (h.lo j x q hj)
  · subst q
    intro e
    have := h.at_.2 ⟨x, hj, e⟩
    cases this
  · obtain ⟨y, hy⟩ := get_ex (show i < B.length by have := get_lt hj; omega)
    intro e
    have h1 := hs.lt hy hj q
    have h2 := h.hi y hy
    rw [e] at h1
    rw [h1] at h2
    cases h2
theorem Fnd.ins {B : List BEnt} {e : BEnt} {i : Nat} (hs : BSrt B) (h : Fnd B e.name i false) : insB e B = B.take i ++ e :: B.drop i := by
  refine insB_at h.le h.lo fun x hx => ?_
  cases q : bless e.name x.name with
  | true => rfl
  | false => exact absurd (bless_tri (h.hi x hx) q) (h.no hs x (List.mem_of_getElem? hx))
/-- Entries that are let go. -/
def gonP (nm : ByteArray) (now : Int) (ended : Bool) (e : BEnt) : Bool := (ended && decide (e.sp.to_ ≤ now)) || (!ended && decide (e.name = nm))
def gonL (nm : ByteArray) (now : Int) (ended : Bool) (B : List BEnt) : List BEnt := B.filter (fun e => !gonP nm now ended e)
theorem gonL_take {nm : ByteArray} {now : Int} {ended : Bool} {B : List BEnt} {k : Nat} {e : BEnt} (he : B[k]? = some e) : gonL nm now ended (B.take (k + 1)) = gonL nm now ended (B.take k) ++ if gonP nm now ended e = true then [] else [e] := by
  unfold gonL
  rw [takeS he, List.filter_append]
  cases q : gonP nm now ended e with
  | true => rw [List.filter_cons_of_neg (by rw [q]; decide), if_pos rfl]; rfl
  | false => rw [List.filter_cons_of_pos (by rw [q]; rfl), if_neg (by decide)]; rfl
theorem gonL_len {nm : ByteArray} {now : Int} {ended : Bool} {B : List BEnt} : (gonL nm now ended B).length ≤ B.length := List.length_filter_le _ _
theorem gonL_srt {nm : ByteArray} {now : Int} {ended : Bool} {B : List BEnt} (h : BSrt B) : BSrt (gonL nm now ended B) := List.Pairwise.sublist (List.filter_sublist) h
theorem gonL_mem {nm : ByteArray} {now : Int} {ended : Bool} {B : List BEnt} {x : BEnt} (h : x ∈ gonL nm now ended B) : x ∈ B := (List.mem_filter.1 h).1
/-- One entry is let go by its name. -/
theorem Fnd.del {B : List BEnt} {nm : ByteArray} {i : Nat} (hs : BSrt B) (h : Fnd B nm i true) : gonL nm 0 false B = B.take i ++ B.drop (i + 1) ∧ i < B.length := by
  obtain ⟨x, hx, e⟩ := h.at_.1 rfl
  have hi := get_lt hx
  refine ⟨?_, hi⟩
  have hB : B = B.take i ++ (x :: B.drop (i + 1)) := by rw [← drop_get hx, List.take_append_drop]
  have h1 : ∀ l : List BEnt, (∀ y ∈ l, y.name ≠ nm) → gonL nm 0 false l = l := fun l hl => List.filter_eq_self.2 fun y hy => by
    unfold gonP; simp [hl y hy]
  have h2 : gonL nm 0 false B = gonL nm 0 false (B.take i) ++ gonL nm 0 false (x :: B.drop (i + 1)) := by
    conv => lhs; rw [hB]
    exact List.filter_append ..
  rw [h2, h1 (B.take i)]
  · congr 1
    have h3 : gonL nm 0 false (x :: B.drop (i + 1)) = gonL nm 0 false (B.drop (i + 1)) := by
      unfold gonL
      rw [List.filter_cons_of_neg (by unfold gonP; simp [e])]
    rw [h3]
    refine h1 _ fun y hy => ?_
    obtain ⟨j, hj⟩ := List.getElem?_of_mem hy
    rw [List.getElem?_drop] at hj
    rw [← e]
    exact fun q => bless_ne (hs.lt hx hj (by omega)) q.symm
  · intro y hy
    obtain ⟨j, hj⟩ := List.getElem?_of_mem hy
    rw [List.getElem?_take] at hj
    split at hj
    · exact bless_ne (h.lo j y (by assumption) hj)
    · cases hj
theorem Fnd.del0 {B : List BEnt} {nm : ByteArray} {i : Nat} (hs : BSrt B) (h : Fnd B nm i false) : gonL nm 0 false B = B :=
  List.filter_eq_self.2 fun y hy => by unfold gonP; simp [h.no hs y hy]
/-- How many nodes are booked at a time. -/
def atB (B : List BEnt) (t : Int) : Int := B.foldl (fun n e => if e.sp.from_ ≤ t ∧ t < e.sp.to_ then n + e.sp.width else n) 0
theorem atB_take {B : List BEnt} {t : Int} {k : Nat} {e : BEnt} (he : B[k]? = some e) : atB (B.take (k + 1)) t = if e.sp.from_ ≤ t ∧ t < e.sp.to_ then atB (B.take k) t + e.sp.width else atB (B.take k) t := by
  unfold atB; rw [takeS he, List.foldl_append]; rfl
theorem atB_atS {B : List BEnt} (hB : ∀ e ∈ B, bR e) (t : Int) : atB B t = atS (B.map BEnt.sp) t := by
  unfold atB atS
  rw [List.foldl_map]
  have key : ∀ (l : List BEnt) (n : Int), (∀ e ∈ l, bR e) → l.foldl (fun n e => if e.sp.from_ ≤ t ∧ t < e.sp.to_ then n + e.sp.width else n) n = l.foldl (fun n e => if onS e.sp t = true then n + e.sp.width else n) n := by
    intro l
    induction l with
    | nil => intro n _; rfl
    | cons e l ih =>
      intro n h
      rw [List.foldl_cons, List.foldl_cons]
      have he := (h e List.mem_cons_self).ok
      have e1 : (if e.sp.from_ ≤ t ∧ t < e.sp.to_ then n + e.sp.width else n) = (if onS e.sp t = true then n + e.sp.width else n) := by
        by_cases q : e.sp.from_ ≤ t ∧ t < e.sp.to_
        · rw [if_pos q, if_pos (onS_iff.2 ⟨he, q⟩)]
        · rw [if_neg q, if_neg fun q2 => q (onS_iff.1 q2).2]
      rw [e1]
      exact ih _ fun x hx => h x (List.mem_cons_of_mem _ hx)
  exact key B 0 hB
/-- The last of some numbers that is not above a time. -/
theorem last_le (a t : Int) (h : a ≤ t) : ∀ l : List Int, ∃ c, a ≤ c ∧ c ≤ t ∧ (c = a ∨ (c ∈ l ∧ a < c)) ∧ ∀ p ∈ l, ¬ (c < p ∧ p ≤ t)
  | [] => ⟨a, Int.le_refl _, h, .inl rfl, fun p hp => by cases hp⟩
  | p :: l => by
    obtain ⟨c, h1, h2, h3, h4⟩ := last_le a t h l
    by_cases q : c < p ∧ p ≤ t
    · refine ⟨p, by omega, q.2, .inr ⟨List.mem_cons_self, by omega⟩, fun r hr => ?_⟩
      rw [List.mem_cons] at hr
      rcases hr with rfl | hr
      · omega
      · have := h4 r hr; omega
    · refine ⟨c, h1, h2, h3.imp id fun h => ⟨List.mem_cons_of_mem _ h.1, h.2⟩, fun r hr => ?_⟩
      rw [List.mem_cons] at hr
      rcases hr with rfl | hr
      · exact q
      · exact h4 r hr
theorem atB_mono {B : List BEnt} (hB : ∀ e ∈ B, bR e) {c t : Int} (hct : c ≤ t) (hno : ∀ e ∈ B, ¬ (c < e.sp.from_ ∧ e.sp.from_ ≤ t)) : atB B t ≤ atB B c := by
  have key : ∀ (l : List BEnt) (n m : Int), n ≤ m → (∀ e ∈ l, bR e) → (∀ e ∈ l, ¬ (c < e.sp.from_ ∧ e.sp.from_ ≤ t)) → l.foldl (fun n e => if e.sp.from_ ≤ t ∧ t < e.sp.to_ then n + e.sp.width else n) n ≤ l.foldl (fun n e => if e.sp.from_ ≤ c ∧ c < e.sp.to_ then n + e.sp.width else n) m := by
    intro l
    induction l with
    | nil => intro n m h _ _; exact h
    | cons e l ih =>
      intro n m h h1 h2
      rw [List.foldl_cons, List.foldl_cons]
      have he := h1 e List.mem_cons_self
      unfold bR at he
      have hn := h2 e List.mem_cons_self
      refine ih _ _ ?_ (fun x hx => h1 x (List.mem_cons_of_mem _ hx)) fun x hx => h2 x (List.mem_cons_of_mem _ hx)
      split <;> split <;> omega
  exact key B 0 0 (Int.le_refl _) hB hno
/-- The law's own test for room. -/
def RoomC (B : List BEnt) (nodes : Int) (s : PSpan) : Prop := atB B s.from_ + s.width ≤ nodes ∧ ∀ e ∈ B, s.from_ < e.sp.from_ → e.sp.from_ < s.to_ → atB B e.sp.from_ + s.width ≤ nodes
theorem room_iff {B : List BEnt} (hB : ∀ e ∈ B, bR e) {nodes : Int} {s : PSpan} (hs : s.from_ < s.to_) : RoomC B nodes s ↔ ∀ t, s.from_ ≤ t → t < s.to_ → atB B t + s.width ≤ nodes := by
  constructor
  · rintro ⟨h1, h2⟩ t ht1 ht2
    obtain ⟨c, c1, c2, c3, c4⟩ := last_le s.from_ t ht1 (B.map fun e => e.sp.from_)
    have hm := atB_mono hB c2 fun e he => c4 _ (List.mem_map.2 ⟨e, he, rfl⟩)
    rcases c3 with rfl | ⟨c3, c5⟩
    · omega
    · obtain ⟨e, he, rfl⟩ := List.mem_map.1 c3
      have := h2 e he c5 (by omega)
      omega
  · intro h
    exact ⟨h _ (Int.le_refl _) hs, fun e he q1 q2 => h _ (by omega) q2⟩
theorem pkF_le {f : Int → Int} {a b N : Int} : ∀ {X : List Int} {n : Int}, pkF f a b X n ≤ N ↔ n ≤ N ∧ ∀ t ∈ X, a < t → t < b → f t ≤ N
  | [], n => by unfold pkF; simp
  | x :: X, n => by
    have h : pkF f a b (x :: X) n = pkF f a b X (if a < x ∧ x < b then max n (f x) else n) := rfl
    rw [h, pkF_le]
    constructor
    · rintro ⟨h1, h2⟩
      refine ⟨by split at h1 <;> omega, fun t ht q1 q2 => ?_⟩
      rw [List.mem_cons] at ht
      rcases ht with rfl | ht
      · rw [if_pos ⟨q1, q2⟩] at h1; omega
      · exact h2 t ht q1 q2
    · rintro ⟨h1, h2⟩
      refine ⟨?_, fun t ht => h2 t (List.mem_cons_of_mem _ ht)⟩
      split
      · next q => have := h2 x List.mem_cons_self q.1 q.2; omega
      · exact h1
theorem peak_iff {B : List BEnt} (hB : ∀ e ∈ B, bR e) {X : List Int} (hX : Tms (tmL (B.map BEnt.sp)) X) {a b N : Int} (hab : a < b) : peakS (B.map BEnt.sp) X a b ≤ N ↔ ∀ t, a ≤ t → t < b → atB B t ≤ N := by
  unfold peakS
  rw [if_pos hab, pkF_le]
  constructor
  · rintro ⟨h1, h2⟩ t ht1 ht2
    obtain ⟨c, c1, c2, c3, c4⟩ := last_le a t ht1 (B.map fun e => e.sp.from_)
    have hm := atB_mono hB c2 fun e he => c4 _ (List.mem_map.2 ⟨e, he, rfl⟩)
    rw [← atB_atS hB] at h1
    rcases c3 with rfl | ⟨c3, c5⟩
    · omega
    · obtain ⟨e, he, rfl⟩ := List.mem_map.1 c3
      have hx : e.sp.from_ ∈ X := (hX.2 _).2 (by
        unfold tmL
        rw [List.mem_flatMap]
        refine ⟨e.sp, List.mem_map.2 ⟨e, he, rfl⟩, ?_⟩
        unfold tm1
        rw [if_pos (hB e he).ok]
        simp)
      have := h2 _ hx c5 (by omega)
      rw [← atB_atS hB] at this
      omega
  · intro h
    refine ⟨by rw [← atB_atS hB]; exact h a (Int.le_refl _) hab, fun t _ q1 q2 => ?_⟩
    rw [← atB_atS hB]
    exact h t (by omega) q2
theorem peak_room {B : List BEnt} (hB : ∀ e ∈ B, bR e) {X : List Int} (hX : Tms (tmL (B.map BEnt.sp)) X) {nodes : Int} {s : PSpan} (hs : s.from_ < s.to_) : peakS (B.map BEnt.sp) X s.from_ s.to_ ≤ nodes - s.width ↔ RoomC B nodes s := by
  rw [peak_iff hB hX hs, room_iff hB hs]
  constructor
  · intro h t q1 q2; have := h t q1 q2; omega
  · intro h t q1 q2; have := h t q1 q2; omega
theorem tms_exB (A : List Int) : ∃ X, Tms A X := by
  refine ⟨cpt eqI (A.mergeSort (fun a b => decide (a ≤ b))), srt_tms0 (List.mergeSort_perm _ _) ?_⟩
  have := List.pairwise_mergeSort (le := fun (a b : Int) => decide (a ≤ b)) (fun a b c h1 h2 => by simp at *; omega) (fun a b => by simp; omega) A
  exact this.imp fun h => by simpa using h
theorem peak_ne (L : List PSpan) (a b : Int) : ∃ v : Value, ∃ m : Int, v = .int .i64 m ∧ (¬ a < b → m = 0) ∧ ∀ X, Tms (tmL L) X → m = peakS L X a b := by
  obtain ⟨X, hX⟩ := tms_exB (tmL L)
  exact ⟨_, peakS L X a b, rfl, fun h => by unfold peakS; rw [if_neg h], fun Y hY => by rw [hX.uniq hY]⟩
theorem sub_one {A H : SHeap} : Sub A ((A ++ []) ++ H) := ⟨H, by simp⟩
/-- Entries that are put in one by one. -/
def InsI (e : BEnt) (B : List BEnt) (k : Nat) (put : Bool) (C : List BEnt) : Prop := (put = true → C ++ B.drop k = insB e B) ∧ (put = false → C ++ insB e (B.drop k) = insB e B)
theorem InsI.start {e : BEnt} {B : List BEnt} : InsI e B 0 false [] := ⟨fun h => (by cases h), fun _ => rfl⟩
theorem InsI.keep {e x : BEnt} {B C : List BEnt} {k : Nat} (h : InsI e B k true C) (hx : B[k]? = some x) : InsI e B (k + 1) true (C ++ [x]) := ⟨fun _ => by rw [← h.1 rfl, drop_get hx, List.append_assoc]; rfl, fun h => (by cases h)⟩
theorem InsI.put {e x : BEnt} {B C : List BEnt} {k : Nat} (h : InsI e B k false C) (hx : B[k]? = some x) (hb : bless e.name x.name = true) : InsI e B (k + 1) true (C ++ [e] ++ [x]) := ⟨fun _ => by
  have h2 := h.2 rfl
  rw [drop_get hx] at h2
  have e2 : insB e (x :: B.drop (k + 1)) = e :: x :: B.drop (k + 1) := by
    show (if bless e.name x.name = true then _ else _) = _
    rw [if_pos hb]
  rw [← h2, e2, List.append_assoc, List.append_assoc]; rfl, fun h => (by cases h)⟩
theorem InsI.skip {e x : BEnt} {B C : List BEnt} {k : Nat} (h : InsI e B k false C) (hx : B[k]? = some x) (hb : ¬ bless e.name x.name = true) : InsI e B (k + 1) false (C ++ [x]) := ⟨fun h => (by cases h), fun _ => by
  have h2 := h.2 rfl
  rw [drop_get hx] at h2
  have e2 : insB e (x :: B.drop (k + 1)) = x :: insB e (B.drop (k + 1)) := by
    show (if bless e.name x.name = true then _ else _) = _
    rw [if_neg hb]
  rw [← h2, e2, List.append_assoc]; rfl⟩
theorem InsI.fin {e : BEnt} {B C : List BEnt} {k : Nat} {put : Bool} (h : InsI e B k put C) (hk : B.length ≤ k) : (if put = true then C else C ++ [e]) = insB e B := by
  cases put with
  | true => have h1 := h.1 rfl; rw [List.drop_of_length_le hk, List.append_nil] at h1; exact h1
  | false => have h1 := h.2 rfl; rw [List.drop_of_length_le hk] at h1; exact h1
theorem InsI.len {e : BEnt} {B C : List BEnt} {k : Nat} {put : Bool} (h : InsI e B k put C) (hk : k ≤ B.length) : C.length = if put = true then k + 1 else k := by
  cases put with
  | true =>
    have h1 := congrArg List.length (h.1 rfl)
    rw [List.length_append, List.length_drop, insB_len] at h1
    rw [if_pos rfl]; omega
  | false =>
    have h1 := congrArg List.length (h.2 rfl)
    rw [List.length_append, insB_len, List.length_drop, insB_len] at h1
    rw [if_neg (by decide)]; omega
end Go.Proofs.Ytjkojdjjooangaa.Sym
