/- A gate behind calls, and the document's. -/
import Derived.Test.YteilocpjikmmdaaPdmc
import Derived.Test.YteilocpjikmmdaaSymRng
import Derived.Test.YteilocpjikmmdaaStrAsc
namespace Go.Proofs.Yteilocpjikmmdaa
open Go.Proofs.Yteilocpjikmmdaa.Sym
open Go.RowKit (Below)
set_option linter.unusedVariables false
set_option linter.unusedSimpArgs false
structure QOp where
  kind : Int
  user : Int
  lim : QLimit
@[reducible] def QOp.cells (j : QOp) : List Value := [.int .i64 j.kind, .int .i64 j.user, .int .i64 j.lim.jobs, .int .i64 j.lim.nodes, .int .i64 j.lim.area]
@[reducible] def QOp.v (j : QOp) : Value := .agg (QOp.cells j).toArray
def QOp.Wf (j : QOp) : Prop := (IntKind.min .i64 ≤ j.kind ∧ j.kind ≤ IntKind.max .i64) ∧ (IntKind.min .i64 ≤ j.user ∧ j.user ≤ IntKind.max .i64) ∧ j.lim.Wf
theorem zl : zeroOf Try.prog 24 = some (⟨0, 0, 0⟩ : QLimit).v := by kernel_rfl
def fset {α : Type} (f : Nat → α) (i : Nat) (x : α) : Nat → α := fun k => if k = i then x else f k
theorem fset_eq {α : Type} {f : Nat → α} {i : Nat} {x : α} : fset f i x i = x := if_pos rfl
theorem fset_ne {α : Type} {f : Nat → α} {i k : Nat} {x : α} (h : k ≠ i) : fset f i x k = f k := if_neg h
theorem map_fset {α β : Type} (f : Nat → α) (e : α → β) (i : Nat) (x : α) (n : Nat) : ((List.range n).map fun k => e (f k)).set i (e x) = (List.range n).map fun k => e (fset f i x k) := by
  apply List.ext_getElem?
  intro k
  rw [List.getElem?_set]
  rcases Nat.lt_or_ge k n with hk | hk
  · rw [List.getElem?_map, List.getElem?_map, List.getElem?_range hk]
    by_cases h : i = k
    · subst h; rw [if_pos rfl, if_pos (by simpa using hk)]; simp [fset_eq]
    · rw [if_neg h]; simp [fset_ne (fun q => h q.symm)]
  · rw [List.getElem?_eq_none (by simpa using hk), List.getElem?_eq_none (by simpa using hk)]
    split
    · next h => subst h; rw [if_neg (by simpa using hk)]
    · rfl
@[reducible] def hasC (h : Nat → Bool) : List Value := (List.range 256).map fun k => Value.bool (h k)
@[reducible] def ownC (f : Nat → QLimit) : List Value := ((List.range 256).map f).flatMap QLimit.cells
@[reducible] def plC (all : QLimit) (f : Nat → QLimit) (h : Nat → Bool) : List Value := all.cells ++ (ownC f ++ hasC h)
@[reducible] def pl (p : Nat) (all : QLimit) (f : Nat → QLimit) (h : Nat → Bool) : Nat × Obj := (p, .cells (plC all f h).toArray 155 (0, 0))
theorem ownC_len (f : Nat → QLimit) : (ownC f).length = 768 := by
  unfold ownC; rw [flat_len (n := 3) (fun _ => rfl)]; simp
theorem zr155p : zeroOf Try.prog 155 = some (.agg (plC ⟨0, 0, 0⟩ (fun _ => ⟨0, 0, 0⟩) (fun _ => false)).toArray) := by kernel_rfl
theorem spl_all {z all : QLimit} {f : Nat → QLimit} {h : Nat → Bool} : Spl (plC z f h) 0 all.cells (plC all f h) := by
  have := spl3 (pre := []) (vs := z.cells) (ws := all.cells) (post := ownC f ++ hasC h) (k := 0) rfl rfl
  exact this
theorem spl_has {all : QLimit} {f : Nat → QLimit} {h : Nat → Bool} {i : Nat} {b : Bool} (hi : i < 256) : Spl (plC all f h) (0 + 771 + i * 1) [.bool b] (plC all f (fset h i b)) := by
  have h1 : hasC (fset h i b) = (hasC h).set i (.bool b) := (map_fset h Value.bool i b 256).symm
  have h2 := spl_skip (pre := all.cells) (spl_skip (pre := ownC f) (spl_set (cs := hasC h) (i := i) (v := .bool b) (by show i < (List.map _ (List.range 256)).length; rw [List.length_map, List.length_range]; exact hi)))
  rw [← h1, ownC_len, show all.cells.length + (768 + i) = 0 + 771 + i * 1 by show 3 + (768 + i) = _; omega] at h2
  exact h2
theorem spl_own {all l : QLimit} {f : Nat → QLimit} {h : Nat → Bool} {i : Nat} (hi : i < 256) : Spl (plC all f h) (0 + 3 + i * 3) l.cells (plC all (fset f i l) h) := by
  have h1 := spl_flat0 (enc := QLimit.cells) (n := 3) (fun _ => rfl) (xs := (List.range 256).map f) (post := hasC h) (i := i) (x' := l) (by simpa using hi)
  rw [show ((List.range 256).map f).set i l = (List.range 256).map (fset f i l) from map_fset f (fun x => x) i l 256] at h1
  have h2 := spl_skip (pre := all.cells) h1
  rw [show all.cells.length + (0 + i * 3) = 0 + 3 + i * 3 by show 3 + (0 + i * 3) = _; omega] at h2
  exact h2
theorem cells_has {W0 : World} {H : SHeap} {p : Nat} {all : QLimit} {f : Nat → QLimit} {h : Nat → Bool} {i : Nat} (hm : pl p all f h ∈ H) (hi : i < 256) : Cells W0 H p (0 + 771 + i * 1) [.bool (h i)] := by
  have h1 : Cells W0 H p 771 (hasC h) := cells_own (pre := all.cells ++ ownC f) (vs := hasC h) (post := []) (by rw [List.append_assoc, List.append_nil]; exact hm) (by rw [List.length_append, ownC_len]; rfl)
  rw [Nat.zero_add]
  exact cells_get h1 _ (by rw [Nat.mul_one]; unfold hasC; rw [List.getElem?_map, List.getElem?_range hi]; rfl)
theorem cells_ownL {W0 : World} {H : SHeap} {p : Nat} {all : QLimit} {f : Nat → QLimit} {h : Nat → Bool} {i : Nat} (hm : pl p all f h ∈ H) (hi : i < 256) : Cells W0 H p (0 + 3 + i * 3) (f i).cells := by
  rw [Nat.zero_add]
  exact cells_flatO (enc := QLimit.cells) (fun _ => rfl) (pre := all.cells) (xs := (List.range 256).map f) (post := hasC h) rfl hm (by rw [List.getElem?_map, List.getElem?_range hi]; rfl)
theorem cells_all {W0 : World} {H : SHeap} {p : Nat} {all : QLimit} {f : Nat → QLimit} {h : Nat → Bool} (hm : pl p all f h ∈ H) : Cells W0 H p 0 all.cells := cells_own (pre := []) (vs := all.cells) (post := ownC f ++ hasC h) hm rfl
/-- A gate's limits, and the document's. -/
structure GOk (es : List MapEntry) (clk : Nat) (f : Nat → QLimit) (h : Nat → Bool) : Prop where
  keys : IntKeys .i64 es
  once : Once es
  born : Born es clk
  in_ : ∀ t : Int, (mget t es).isSome = true → 0 ≤ t ∧ t ≤ 255
  get : ∀ k : Nat, k < 256 → mget (k : Int) es = if h k then some (f k).v else none
theorem GOk.nil : GOk [] 0 (fun _ => ⟨0, 0, 0⟩) (fun _ => false) := ⟨IntKeys.nil, Once.nil, Born.nil, fun t h => by simp [mget] at h, fun k _ => rfl⟩
theorem GOk.del {es : List MapEntry} {clk : Nat} {f : Nat → QLimit} {h : Nat → Bool} {u : Int} (g : GOk es clk f h) (h0 : 0 ≤ u) (h1 : u < 256) : GOk (mdel u es) clk f (fset h u.toNat false) := by
  refine ⟨g.keys.del, g.once.del, g.born.del, fun t ht => ?_, fun k hk => ?_⟩
  · rw [mget_del g.once] at ht
    split at ht
    · simp at ht
    · exact g.in_ t ht
  · rw [mget_del g.once, g.get k hk]
    by_cases e : (k : Int) = u
    · rw [if_pos e]; have : k = u.toNat := by omega
      subst this; rw [fset_eq]; rfl
    · rw [if_neg e, fset_ne (by omega)]
theorem GOk.delO {es : List MapEntry} {clk : Nat} {f : Nat → QLimit} {h : Nat → Bool} {u : Int} (g : GOk es clk f h) (h0 : u < 0 ∨ 256 ≤ u) : GOk (mdel u es) clk f h := by
  refine ⟨g.keys.del, g.once.del, g.born.del, fun t ht => ?_, fun k hk => ?_⟩
  · rw [mget_del g.once] at ht
    split at ht
    · simp at ht
    · exact g.in_ t ht
  · rw [mget_del g.once, g.get k hk, if_neg (by omega)]
theorem GOk.set {es : List MapEntry} {clk : Nat} {f : Nat → QLimit} {h : Nat → Bool} {u : Int} {l : QLimit} (g : GOk es clk f h) (h0 : 0 ≤ u) (h1 : u ≤ 255) : GOk (mset .i64 u l.v clk es) (mclk u es clk) (fset f u.toNat l) (fset h u.toNat true) := by
  refine ⟨g.keys.set, g.once.set, g.born.set, fun t ht => ?_, fun k hk => ?_⟩
  · rw [mget_set] at ht
    split at ht
    · omega
    · exact g.in_ t ht
  · rw [mget_set, g.get k hk]
    by_cases e : (k : Int) = u
    · rw [if_pos e]; have : k = u.toNat := by omega
      subst this; rw [fset_eq, fset_eq]; rfl
    · rw [if_neg e, fset_ne (by omega), fset_ne (by omega)]
theorem len_mdel {a : Int} : ∀ {es : List MapEntry}, (mdel a es).length ≤ es.length
  | [] => Nat.le_refl _
  | e :: es => by
    have := len_mdel (a := a) (es := es)
    unfold mdel
    split <;> simp <;> omega
theorem len_mset {k : IntKind} {a : Int} {v : Value} {clk : Nat} : ∀ {es : List MapEntry}, (mset k a v clk es).length ≤ es.length + 1
  | [] => Nat.le_refl _
  | e :: es => by
    have := len_mset (k := k) (a := a) (v := v) (clk := clk) (es := es)
    unfold mset
    split <;> simp <;> omega
def limU (all : QLimit) (f : Nat → QLimit) (h : Nat → Bool) (u : Int) : QLimit := if 0 ≤ u ∧ u < 256 ∧ h u.toNat = true then f u.toNat else all
theorem limU_y {all : QLimit} {f : Nat → QLimit} {h : Nat → Bool} {u : Int} (h0 : 0 ≤ u) (h1 : u < 256) (h2 : h u.toNat = true) : limU all f h u = f u.toNat := if_pos ⟨h0, h1, h2⟩
theorem limU_n {all : QLimit} {f : Nat → QLimit} {h : Nat → Bool} {u : Int} (q : ¬ (0 ≤ u ∧ u < 256 ∧ h u.toNat = true)) : limU all f h u = all := if_neg q
theorem GOk.lk {es : List MapEntry} {clk : Nat} {f : Nat → QLimit} {h : Nat → Bool} (g : GOk es clk f h) (u : Int) : mget u es = if 0 ≤ u ∧ u < 256 ∧ h u.toNat = true then some (f u.toNat).v else none := by
  by_cases h0 : 0 ≤ u ∧ u < 256
  · have := g.get u.toNat (by omega)
    rw [show ((u.toNat : Nat) : Int) = u by omega] at this
    rw [this]
    by_cases h1 : h u.toNat = true
    · rw [if_pos h1, if_pos ⟨h0.1, h0.2, h1⟩]
    · rw [if_neg h1, if_neg (fun q => h1 q.2.2)]
  · rw [if_neg (fun q => h0 ⟨q.1, q.2.1⟩)]
    cases hm : mget u es with
    | none => rfl
    | some v =>
      have := g.in_ u (by rw [hm]; rfl)
      omega
theorem mget_some {t : Int} : ∀ {es : List MapEntry}, (mget t es).isSome = true ↔ ∃ e ∈ es, keyIs t e = true
  | [] => by simp [mget]
  | e :: es => by
    have ih := mget_some (t := t) (es := es)
    unfold mget
    by_cases hk : keyIs t e = true
    · rw [if_pos hk]; simp [hk]
    · rw [if_neg hk, ih]; simp [hk]
/-- What has come of a walk over a map's keys. -/
def Come (es : List MapEntry) (seen : Array Nat) (acc : List Int) : Prop := acc.Nodup ∧ (∀ t, t ∈ acc ↔ ∃ e ∈ es, e.born ∈ seen.toList ∧ keyIs t e = true) ∧ (leftOf es.toArray seen).size + acc.length ≤ es.length
theorem Come.nil {es : List MapEntry} : Come es #[] [] := by
  refine ⟨List.nodup_nil, fun t => by simp, ?_⟩
  unfold leftOf; simp; exact List.length_filter_le _ _
theorem once_eq {es : List MapEntry} (h : Once es) {e e' : MapEntry} {b : Int} (he : e ∈ es) (he' : e' ∈ es) (k : keyIs b e = true) (k' : keyIs b e' = true) : e = e' := by
  induction es with
  | nil => cases he
  | cons x es ih =>
    have h1 := List.pairwise_cons.1 h
    rcases List.mem_cons.1 he with q1 | q1 <;> rcases List.mem_cons.1 he' with q2 | q2
    · rw [q1, q2]
    · have := h1.1 e' q2 b (q1 ▸ k); rw [k'] at this; cases this
    · have := h1.1 e q1 b (q2 ▸ k'); rw [k] at this; cases this
    · exact ih h1.2 q1 q2
theorem born_inj : ∀ {es : List MapEntry} {e e' : MapEntry}, (es.map (·.born)).Nodup → e ∈ es → e' ∈ es → e.born = e'.born → e = e'
  | [], _, _, _, h, _, _ => by cases h
  | x :: es, e, e', hn, h, h', q => by
    rw [List.map_cons, List.nodup_cons] at hn
    rcases List.mem_cons.1 h with q1 | q1 <;> rcases List.mem_cons.1 h' with q2 | q2
    · rw [q1, q2]
    · exact absurd (by rw [← q1, q]; exact List.mem_map_of_mem q2) hn.1
    · exact absurd (by rw [← q2, ← q]; exact List.mem_map_of_mem q1) hn.1
    · exact born_inj hn.2 q1 q2 q
theorem Come.next {es : List MapEntry} {clk : Nat} {seen : Array Nat} {acc : List Int} {e : MapEntry} {b : Int} (h : Come es seen acc) (ho : Once es) (hb : Born es clk) (he : e ∈ (leftOf es.toArray seen).toList) (hk : e.key = .int .i64 b) : Come es (seen.push e.born) (acc ++ [b]) := by
  obtain ⟨h1, h2, h3⟩ := h
  obtain ⟨m1, m2⟩ := mem_leftOf.1 he
  have hke : keyIs b e = true := by unfold keyIs; rw [hk]; simp
  have hlt := left_lt hb he
  refine ⟨?_, fun t => ?_, ?_⟩
  · rw [List.nodup_append]
    refine ⟨h1, by simp, fun x hx y hy q => ?_⟩
    rw [List.mem_singleton] at hy
    subst hy; subst q
    obtain ⟨e', he', hs, hk'⟩ := (h2 x).1 hx
    have := once_eq ho m1 he' hke hk'
    subst this
    exact m2 hs
  · rw [List.mem_append, List.mem_singleton, h2]
    constructor
    · rintro (⟨e', q1, q2, q3⟩ | rfl)
      · exact ⟨e', q1, by rw [Array.toList_push]; exact List.mem_append_left _ q2, q3⟩
      · exact ⟨e, m1, by rw [Array.toList_push]; simp, hke⟩
    · rintro ⟨e', q1, q2, q3⟩
      rw [Array.toList_push, List.mem_append, List.mem_singleton] at q2
      rcases q2 with q2 | q2
      · exact .inl ⟨e', q1, q2, q3⟩
      · right
        have hee : e' = e := by
          have hn := hb.1
          exact born_inj hn q1 m1 q2
        subst hee
        exact keyIs_eq q3 hke
  · rw [List.length_append, List.length_singleton]; omega
theorem Come.done {es : List MapEntry} {seen : Array Nat} {acc : List Int} (h : Come es seen acc) (h0 : (leftOf es.toArray seen).size = 0) (t : Int) : t ∈ acc ↔ (mget t es).isSome = true := by
  rw [h.2.1, mget_some]
  exact ⟨fun ⟨e, a, _, c⟩ => ⟨e, a, c⟩, fun ⟨e, a, c⟩ => ⟨e, a, left_0 h0 e a, c⟩⟩
theorem asc_of {W : List Int} (h : W.Pairwise (· ≤ ·)) (hn : W.Nodup) : W.Pairwise (· < ·) := by
  rw [List.pairwise_iff_getElem] at h ⊢
  intro i j hi hj hij
  have h1 := h i j hi hj hij
  have h2 : W[i] ≠ W[j] := (List.pairwise_iff_getElem.1 hn) i j hi hj hij
  omega
/-- Up to where a rising list has been gone through. -/
def UpTo (Z : List Int) (i k : Nat) : Prop := k ≤ Z.length ∧ (∀ z ∈ Z.take k, z < (i : Int)) ∧ ∀ z ∈ Z.drop k, (i : Int) ≤ z
theorem UpTo.zero {Z : List Int} (h : ∀ z ∈ Z, 0 ≤ z) : UpTo Z 0 0 := ⟨Nat.zero_le _, by simp, fun z hz => h z hz⟩
theorem UpTo.yes {Z : List Int} {i k : Nat} (hZ : Z.Pairwise (· < ·)) (h : UpTo Z i k) (hi : (i : Int) ∈ Z) : Z[k]? = some (i : Int) ∧ UpTo Z (i + 1) (k + 1) := by
  obtain ⟨h1, h2, h3⟩ := h
  have hd : (i : Int) ∈ Z.drop k := by
    have : (i : Int) ∈ Z.take k ++ Z.drop k := by rw [List.take_append_drop]; exact hi
    rcases List.mem_append.1 this with q | q
    · have := h2 _ q; omega
    · exact q
  have hp : (Z.drop k).Pairwise (· < ·) := hZ.sublist (List.drop_sublist _ _)
  cases hdk : Z.drop k with
  | nil => rw [hdk] at hd; cases hd
  | cons z t =>
    rw [hdk] at hd hp h3
    rw [List.pairwise_cons] at hp
    have hz : z = (i : Int) := by
      rcases List.mem_cons.1 hd with q | q
      · exact q.symm
      · have := hp.1 _ q; have := h3 z List.mem_cons_self; omega
    have hk : Z[k]? = some z := by
      have := congrArg (·[0]?) hdk
      simpa using this
    subst hz
    refine ⟨hk, ?_, ?_, ?_⟩
    · exact (List.getElem?_eq_some_iff.1 hk).1
    · intro y hy
      rw [List.take_add_one, hk, List.mem_append] at hy
      rcases hy with hy | hy
      · have := h2 y hy; omega
      · simp at hy; omega
    · intro y hy
      have : Z.drop (k + 1) = t := by
        have := congrArg (List.drop 1) hdk
        simpa [List.drop_drop, Nat.add_comm] using this
      rw [this] at hy
      have := hp.1 y hy; omega
theorem UpTo.no {Z : List Int} {i k : Nat} (h : UpTo Z i k) (hi : ¬ (i : Int) ∈ Z) : UpTo Z (i + 1) k := by
  obtain ⟨h1, h2, h3⟩ := h
  refine ⟨h1, fun z hz => by have := h2 z hz; omega, fun z hz => ?_⟩
  have h4 := h3 z hz
  have : z ≠ (i : Int) := fun q => hi (q ▸ List.mem_of_mem_drop hz)
  omega
theorem UpTo.fin {Z : List Int} {i k : Nat} (h : UpTo Z i k) (hb : ∀ z ∈ Z, z < (i : Int)) : k = Z.length := by
  obtain ⟨h1, h2, h3⟩ := h
  rcases Nat.lt_or_ge k Z.length with q | q
  · have : Z[k] ∈ Z.drop k := List.mem_of_getElem? (i := 0) (by rw [List.getElem?_drop, Nat.add_zero, List.getElem?_eq_getElem q])
    have := h3 _ this
    have := hb _ (List.getElem_mem q)
    omega
  · omega
theorem eqC_lim (l : QLimit) : eqC l.cells l.cells = true := by simp [eqC, sEq]
structure UsG where
  seen : Array Nat
  acc : List Int
  sl : Value
  E : SHeap
structure MdG where
  k : Nat
  es : List MapEntry
  clk : Nat
  f : Nat → QLimit
  h : Nat → Bool
theorem ag194 : aggOf Try.prog 194 = some true := by kernel_rfl
theorem by3 : bytesOf Try.prog 3 = some 8 := by kernel_rfl
theorem cl128 : Callable Try.prog 128 := ⟨Try.f128, Try.func128, by kernel_rfl, by kernel_rfl⟩
theorem cl94 : Callable Try.prog 94 := ⟨Try.f94, Try.func94, by kernel_rfl, by kernel_rfl⟩
theorem cl95 : Callable Try.prog 95 := ⟨Try.f95, Try.func95, by kernel_rfl, by kernel_rfl⟩
theorem fd155_0 : fldOf Try.prog 155 0 = some (0, 24, 3) := by kernel_rfl
theorem fd155_1 : fldOf Try.prog 155 1 = some (3, 152, 768) := by kernel_rfl
theorem fd155_2 : fldOf Try.prog 155 2 = some (771, 153, 256) := by kernel_rfl
theorem fd194_0 : fldOf Try.prog 194 0 = some (0, 3, 1) := by kernel_rfl
theorem fd194_1 : fldOf Try.prog 194 1 = some (1, 3, 1) := by kernel_rfl
theorem fd194_2 : fldOf Try.prog 194 2 = some (2, 24, 3) := by kernel_rfl
theorem fl155 : flds Try.prog 155 = some [(0, 3), (3, 768), (771, 256)] := by kernel_rfl
theorem sz194 : szOf Try.prog 194 = some 5 := by kernel_rfl
theorem sz4 : szOf Try.prog 4 = some 1 := by kernel_rfl
theorem zr194 : zeroOf Try.prog 194 = some (.agg #[.int .i64 0, .int .i64 0, .int .i64 0, .int .i64 0, .int .i64 0]) := by kernel_rfl
section
variable {W0 : World}
set_option maxRecDepth 100000 in
set_option maxHeartbeats 400000 in
theorem gown_s (g m : Nat) (l : QLimit) (es : List MapEntry) (clk : Nat) (G : SHeap) (user : Int) (q : QLimit) (hk : IntKeys .i64 es) : AC Try.prog W0 95 [.pointer (some ⟨g, 0, none⟩), .int .i64 user, q.v] (gate g l m :: gmap m (es) (clk) :: G) (fun v H' => ((0 ≤ user ∧ user ≤ 255 ∧ QRight q) ∧ v = .int .i64 0 ∧ H' = gate g l m :: gmap m (mset .i64 user q.v clk es) (mclk user es clk) :: G) ∨ (¬ (0 ≤ user ∧ user ≤ 255 ∧ QRight q) ∧ v = .int .i64 1 ∧ H' = gate g l m :: gmap m (es) (clk) :: G)) := by
  refine ac_of Try.func95 rfl rfl rfl ?_
  refine aw_seq_region ?_
  refine sr_new rfl (wtd_none rfl) rfl (x_box rfl rfl) ?_
  intro r0_0 hr0_0 gr0_0
  refine sr_as ?_
  refine sr_nil ?_
  refine aw_kp [0, 1, 5, 6] ?_
  refine aw_seq ?_
  refine aw_block ?_
  refine aw_seq_region ?_
  refine sr_mv ?_
  refine sr_d rfl (wtd_none rfl) rfl (opS_call rfl rfl rfl rfl cl127 (gnone_s g m l _ (cells_ext mauto Ext.auto))) ?_
  rintro _ _ ⟨rfl, rfl⟩
  refine sr_as ?_
  refine sr_nil ?_
  refine aw_kp [0, 1, 5, 6, 7] ?_
  refine aw_false rfl ?_
  refine aw_seq_region ?_
  refine sr_mv ?_
  refine sr_c (x_lt rfl rfl) (fun h1 => ?_) (fun h1 => ?_)
  · refine sr_mv ?_
    refine sr_sk ?_
    refine sr_sk ?_
    refine sr_rd (x_pick_t rfl rfl rfl) ?_
    refine sr_mv ?_
    refine sr_sk ?_
    refine sr_sk ?_
    refine sr_sk ?_
    refine sr_rd (x_pick_t rfl rfl rfl) ?_
    refine sr_as ?_
    refine sr_nil ?_
    refine aw_kp [0, 1, 5, 6, 10] ?_
    refine aw_true rfl ?_
    refine aw_seq_region ?_
    refine sr_as ?_
    refine sr_nil ?_
    refine aw_kp [0, 1, 5, 6] ?_
    refine aw_ret ?_
    show ∃ v H2, ResV _ _ _ _ _ _ v ∧ Sub H2 _ ∧ _
    first | exact ⟨_, gate g l m :: gmap m (mset .i64 user q.v clk es) (mclk user es clk) :: G, resV rfl (.cons rfl .nil), Sub.autoD, .inl ⟨⟨by omega, by omega, nd_f (by assumption)⟩, rfl, rfl⟩⟩ | exact ⟨_, gate g l m :: gmap m (es) (clk) :: G, resV rfl (.cons rfl .nil), Sub.autoD, .inr ⟨(by first | exact fun q9 => (nd_t (by assumption)) q9.2.2 | (intro q9; omega)), rfl, rfl⟩⟩
  · refine sr_mv ?_
    refine sr_ry (x_move rfl) ?_
    refine sr_cy (x_gt rfl rfl) (fun h2 => ?_) (fun h2 => ?_)
    · refine sr_rd (x_pick_f rfl rfl rfl) ?_
      refine sr_mv ?_
      refine sr_sk ?_
      refine sr_sk ?_
      refine sr_sk ?_
      refine sr_rd (x_pick_t rfl rfl rfl) ?_
      refine sr_as ?_
      refine sr_nil ?_
      refine aw_kp [0, 1, 5, 6, 10] ?_
      refine aw_true rfl ?_
      refine aw_seq_region ?_
      refine sr_as ?_
      refine sr_nil ?_
      refine aw_kp [0, 1, 5, 6] ?_
      refine aw_ret ?_
      show ∃ v H2, ResV _ _ _ _ _ _ v ∧ Sub H2 _ ∧ _
      first | exact ⟨_, gate g l m :: gmap m (mset .i64 user q.v clk es) (mclk user es clk) :: G, resV rfl (.cons rfl .nil), Sub.autoD, .inl ⟨⟨by omega, by omega, nd_f (by assumption)⟩, rfl, rfl⟩⟩ | exact ⟨_, gate g l m :: gmap m (es) (clk) :: G, resV rfl (.cons rfl .nil), Sub.autoD, .inr ⟨(by first | exact fun q9 => (nd_t (by assumption)) q9.2.2 | (intro q9; omega)), rfl, rfl⟩⟩
    · refine sr_rd (x_pick_f rfl rfl rfl) ?_
      refine sr_mv ?_
      refine sr_ry (x_loadN ag24 sz24 rfl (cells_ext mauto Ext.auto) rfl) ?_
      refine sr_d rfl (wtd_yes rfl rfl rfl) rfl (opS_call rfl rfl rfl rfl cl22 (right22_s q _)) ?_
      rintro _ _ ⟨rfl, rfl⟩
      refine sr_ry (x_not rfl) ?_
      refine sr_rd (x_pick_f rfl rfl rfl) ?_
      refine sr_as ?_
      refine sr_nil ?_
      refine aw_kp [0, 1, 5, 6, 10] ?_
      refine aw_cond rfl (fun hb3 => ?_) (fun hb3 => ?_)
      · refine aw_seq_region ?_
        refine sr_as ?_
        refine sr_nil ?_
        refine aw_kp [0, 1, 5, 6] ?_
        refine aw_ret ?_
        show ∃ v H2, ResV _ _ _ _ _ _ v ∧ Sub H2 _ ∧ _
        first | exact ⟨_, gate g l m :: gmap m (mset .i64 user q.v clk es) (mclk user es clk) :: G, resV rfl (.cons rfl .nil), Sub.autoD, .inl ⟨⟨by omega, by omega, nd_f (by assumption)⟩, rfl, rfl⟩⟩ | exact ⟨_, gate g l m :: gmap m (es) (clk) :: G, resV rfl (.cons rfl .nil), Sub.autoD, .inr ⟨(by first | exact fun q9 => (nd_t (by assumption)) q9.2.2 | (intro q9; omega)), rfl, rfl⟩⟩
      · refine aw_skip ?_
        show AW _ _ _ _ _ _ _
        refine aw_seq_dr ⟨_, 7, 28, [[], [0], [0, 1], [0, 1, 2], [], [], [0, 1, 2, 3, 4, 5]], [.light, .light, .light, .mem, .light, .mem, .eff]⟩ (by kernel_rfl) rfl rfl mix ?_
        refine dr_l (x_move rfl) ?_
        refine dr_l (x_nilCheck rfl) ?_
        refine dr_l (x_fieldAddr fd151_1 rfl) ?_
        refine dr_mem0 rfl rfl (wtd_none rfl) (x_load ag149 rfl (cells_ext mauto Ext.auto)) ?_
        refine dr_l (x_move rfl) ?_
        refine dr_mem0 rfl rfl (wtd_none rfl) (x_loadN ag24 sz24 rfl (cells_ext mauto Ext.auto) rfl) ?_
        refine dr_store0 rfl rfl (wtd_none rfl) (x_mapUpdate Try.underlying149 Try.underlying3 rfl rfl rfl hk Repl.auto) (by first | rfl | simp [keys_append, keys_cons]) ?_
        refine dr_nil0 ?_
        refine aw_kp [6] ?_
        refine aw_seq_region ?_
        refine sr_as ?_
        refine sr_nil ?_
        refine aw_kp [6] ?_
        refine aw_ret ?_
        show ∃ v H2, ResV _ _ _ _ _ _ v ∧ Sub H2 _ ∧ _
        first | exact ⟨_, gate g l m :: gmap m (mset .i64 user q.v clk es) (mclk user es clk) :: G, resV rfl (.cons rfl .nil), Sub.autoD, .inl ⟨⟨by omega, by omega, nd_f (by assumption)⟩, rfl, rfl⟩⟩ | exact ⟨_, gate g l m :: gmap m (es) (clk) :: G, resV rfl (.cons rfl .nil), Sub.autoD, .inr ⟨(by first | exact fun q9 => (nd_t (by assumption)) q9.2.2 | (intro q9; omega)), rfl, rfl⟩⟩
set_option maxRecDepth 100000 in
set_option maxHeartbeats 400000 in
theorem gforget_s (g m : Nat) (l : QLimit) (es : List MapEntry) (clk : Nat) (G : SHeap) (user : Int) (hk : IntKeys .i64 es) : AC Try.prog W0 94 [.pointer (some ⟨g, 0, none⟩), .int .i64 user] (gate g l m :: gmap m (es) (clk) :: G) (fun v H' => v = .tuple #[] ∧ H' = gate g l m :: gmap m (mdel user es) (clk) :: G) := by
  refine ac_of Try.func94 rfl rfl rfl ?_
  refine aw_seq_region ?_
  refine sr_mv ?_
  refine sr_d rfl (wtd_none rfl) rfl (opS_call rfl rfl rfl rfl cl127 (gnone_s g m l _ (cells_ext mauto Ext.auto))) ?_
  rintro _ _ ⟨rfl, rfl⟩
  refine sr_rd (x_not rfl) ?_
  refine sr_nil ?_
  refine aw_kp [0, 1, 6] ?_
  refine aw_true rfl ?_
  refine aw_region ?_
  refine sr_mv ?_
  refine sr_rd (x_nilCheck rfl) ?_
  refine sr_rd (x_fieldAddr fd151_1 rfl) ?_
  refine sr_rd (x_load ag149 rfl (cells_ext mauto Ext.auto)) ?_
  refine sr_mv ?_
  refine sr_x0 rfl (wtd_none rfl) (x_delete Try.underlying149 Try.underlying3 rfl rfl hk Repl.auto) ?_
  refine sr_nil ?_
  show ∃ v H2, ResV _ _ _ _ _ _ v ∧ Sub H2 _ ∧ _
  exact ⟨_, (gate g l m :: gmap m (mdel user es) (clk) :: G), resV rfl .nil, Sub.autoP, ⟨rfl, rfl⟩⟩
set_option maxRecDepth 100000 in
set_option maxHeartbeats 400000 in
theorem gofS_s (g m : Nat) (l : QLimit) (H : SHeap) (hc : Cells W0 H g 0 (gateC l m)) (user : Int) (q : QLimit) (es : List MapEntry) (clk : Nat) (hm : MapAt W0 H m es clk) (hk : IntKeys .i64 es) (hget : mget user es = some q.v) : AC Try.prog W0 89 [.pointer (some ⟨g, 0, none⟩), .int .i64 user] H (fun v H' => v = q.v ∧ H' = H) := by
  refine ac_of Try.func89 rfl rfl rfl ?_
  refine aw_seq_region ?_
  refine sr_new rfl (wtd_none rfl) rfl (x_alloc zr24 rfl) ?_
  intro r0_0 hr0_0 gr0_0
  refine sr_nil ?_
  refine aw_kp [0, 1, 4] ?_
  refine aw_seq ?_
  refine aw_seq_region ?_
  refine sr_mv ?_
  refine sr_d rfl (wtd_none rfl) rfl (opS_call rfl rfl rfl rfl cl127 (gnone_s g m l _ (Cells.mono hc (by repeat (first | exact Sub.refl _ | apply Sub.drop))))) ?_
  rintro _ H9 ⟨rfl, rfl⟩
  refine sr_nil ?_
  refine aw_kp [0, 1, 4, 8] ?_
  refine aw_false rfl ?_
  refine aw_skip ?_
  show AW _ _ _ _ _ _ _
  refine aw_seq ?_
  refine aw_seq_region ?_
  refine sr_mv ?_
  refine sr_rd (x_nilCheck rfl) ?_
  refine sr_rd (x_fieldAddr fd151_1 rfl) ?_
  refine sr_rd (x_load ag149 rfl (cells_get (Cells.mono hc (by repeat (first | exact Sub.refl _ | apply Sub.drop))) 3 rfl)) ?_
  refine sr_mv ?_
  refine sr_rd (x_cast (u := .tuple #[q.v, .bool true]) (x_lookup Try.underlying149 Try.underlying3 zr24 rfl rfl (hm.mono (by repeat (first | exact Sub.refl _ | apply Sub.drop))) hk) (by rw [hget]; rfl)) ?_
  refine sr_mv ?_
  refine sr_rd (x_extract rfl rfl) ?_
  refine sr_rd (x_extract rfl rfl) ?_
  refine sr_new rfl (wtd_none rfl) rfl (x_alloc zr24 rfl) ?_
  intro r3_9 hr3_9 gr3_9
  refine sr_x0 rfl (wtd_none rfl) (x_store sz24 rfl rfl rfl rfl rfl Repl.auto Spl.auto) ?_
  refine sr_as ?_
  refine sr_nil ?_
  refine aw_kp [0, 4, 5, 6] ?_
  refine aw_seq_region ?_
  refine sr_mv ?_
  refine sr_nil ?_
  refine aw_kp [0, 4, 5, 19] ?_
  refine aw_true rfl ?_
  refine aw_seq_region ?_
  refine sr_rd (x_loadN ag24 sz24 rfl (cells_ext mauto Ext.auto) rfl) ?_
  refine sr_x0 rfl (wtd_none rfl) (x_store sz24 rfl rfl rfl rfl rfl Repl.auto Spl.auto) ?_
  refine sr_nil ?_
  refine aw_kp [0, 4] ?_
  refine aw_ret ?_
  show ∃ v H2, ResV _ _ _ _ _ _ v ∧ Sub H2 _ ∧ _
  exact ⟨_, H, resV rfl (.cons (⟨_, rfl, fun hw => rd_loadVarN ag24 sz24 hw (cells_ext mauto Ext.auto) rfl⟩) .nil), (by repeat (first | exact Sub.refl _ | apply Sub.drop)), ⟨rfl, rfl⟩⟩
theorem gofU_s (g m : Nat) (l : QLimit) (H : SHeap) (hc : Cells W0 H g 0 (gateC l m)) (user : Int) (es : List MapEntry) (clk : Nat) (f : Nat → QLimit) (h : Nat → Bool) (hm : MapAt W0 H m es clk) (hG : GOk es clk f h) : AC Try.prog W0 89 [.pointer (some ⟨g, 0, none⟩), .int .i64 user] H (fun v H' => v = (limU l f h user).v ∧ H' = H) := by
  by_cases q : 0 ≤ user ∧ user < 256 ∧ h user.toNat = true
  · rw [limU_y q.1 q.2.1 q.2.2]
    exact gofS_s g m l H hc user _ es clk hm hG.keys (by rw [hG.lk, if_pos q])
  · rw [limU_n q]
    exact gof_s g m l H hc user es clk hm hG.keys (by rw [hG.lk, if_neg q])
set_option maxRecDepth 100000 in
set_option maxHeartbeats 1000000 in
theorem gusers_s (g m : Nat) (l : QLimit) (es : List MapEntry) (clk : Nat) (f : Nat → QLimit) (h : Nat → Bool) (G : SHeap) (hG : GOk es clk f h) (hel : es.length ≤ 100) : AC Try.prog W0 91 [.pointer (some ⟨g, 0, none⟩)] (gate g l m :: gmap m (es) (clk) :: G) (fun v H' => ∃ (Z : List Int) (a : Option Addr) (cap : Nat) (E : SHeap), v = .slice a Z.length cap ∧ Z.Pairwise (· < ·) ∧ (∀ t, t ∈ Z ↔ (mget t es).isSome = true) ∧ OwnVec 1 3 (.slice a Z.length cap) Z.length ((Z).flatMap intC) E ∧ H' = E ++ (gate g l m :: gmap m (es) (clk) :: G)) := by
  refine ac_of Try.func91 rfl rfl rfl ?_
  refine aw_seq_region ?_
  refine sr_as ?_
  refine sr_nil ?_
  refine aw_kp [0, 2] ?_
  refine aw_seq ?_
  refine aw_seq_region ?_
  refine sr_mv ?_
  refine sr_d rfl (wtd_none rfl) rfl (opS_call rfl rfl rfl rfl cl127 (gnone_s g m l _ (cells_ext mauto Ext.auto))) ?_
  rintro _ _ ⟨rfl, rfl⟩
  refine sr_nil ?_
  refine aw_kp [0, 2, 6] ?_
  refine aw_false rfl ?_
  refine aw_skip ?_
  show AW _ _ _ _ _ _ _
  refine aw_seq_region ?_
  refine sr_as ?_
  refine sr_nil ?_
  refine aw_kp [0, 2, 3] ?_
  refine aw_seq ?_
  refine aw_seq_region ?_
  refine sr_mv ?_
  refine sr_rd (x_nilCheck rfl) ?_
  refine sr_rd (x_fieldAddr fd151_1 rfl) ?_
  refine sr_rd (x_load ag149 rfl (cells_ext mauto Ext.auto)) ?_
  refine sr_new rfl (wtd_none rfl) rfl (x_rangeMap Try.underlying149 rfl (map_at mauto)) ?_
  intro r4_4 hr4_4 gr4_4
  refine sr_nil ?_
  refine aw_kp [2, 3, 11] ?_
  refine aw_block ?_
  refine aw_loop (ι := UsG) (fun s => Come es s.seen s.acc ∧ OwnVec 1 3 s.sl s.acc.length ((s.acc).flatMap intC) s.E) (fun s => [(2, .slice none 0 0), (3, s.sl), (11, .pointer (some ⟨r4_4, 0, none⟩))]) (fun s => s.E ++ ((r4_4, Obj.mapIter (some m) clk s.seen clk) :: gate g l m :: gmap m (es) (clk) :: G)) (fun s => (leftOf es.toArray s.seen).size) ⟨#[], [], .slice none 0 0, []⟩ (⟨Come.nil, .nil⟩) KeepF.auto Sub.autoP ?_
  intro s hs9
  obtain ⟨seen, acc, sl, E⟩ := s
  dsimp only at hs9 ⊢
  obtain ⟨hcm, V⟩ := hs9
  obtain ⟨a1, c1, rfl⟩ := V.isSl
  have hcl := hcm.2.2
  refine aw_seq_region ?_
  refine sr_d rfl (wtd_none rfl) rfl (opS_next rfl (map_at mauto) hG.born (Nat.le_refl _) (fun s => Repl.auto)) ?_
  rintro _ _ hnx
  obtain ⟨h0, rfl, rfl⟩ | ⟨e, he, rfl, rfl⟩ := hnx
  · refine sr_rd (x_extract rfl rfl) ?_
    refine sr_nil ?_
    refine aw_kp [2, 3, 11, 12, 13] ?_
    refine aw_seq ?_
    refine aw_false rfl ?_
    refine aw_exit ?_
    show AW _ _ _ _ _ _ _
    refine aw_seq_region ?_
    refine sr_mv ?_
    refine sr_d rfl (wtd_none rfl) rfl (opS_call rfl rfl rfl rfl cl128 (mV_s a1 c1 acc.length acc E ((r4_4, Obj.mapIter (some m) clk seen clk) :: gate g l m :: gmap m (es) (clk) :: G) V rfl (by omega))) ?_
    rintro _ _ ⟨W9, E9, ⟨hp9, hs9⟩, rfl, V9, rfl⟩
    refine sr_nil ?_
    refine aw_kp [2, 3] ?_
    refine aw_seq_region ?_
    refine sr_mv ?_
    refine sr_as ?_
    refine sr_nil ?_
    refine aw_kp [2] ?_
    refine aw_ret ?_
    show ∃ v H2, ResV _ _ _ _ _ _ v ∧ Sub H2 _ ∧ _
    (have hl9 := hp9.length_eq; rw [← hl9] at V9 ⊢; exact ⟨_, E9 ++ (gate g l m :: gmap m (es) (clk) :: G), resV rfl (.cons rfl .nil), Sub.autoP, W9, a1, c1, E9, rfl, asc_of (sri_pw hs9 hl9) (hp9.nodup_iff.2 hcm.1), fun t => (hp9.mem_iff).trans (hcm.done h0 t), V9, rfl⟩)
  · obtain ⟨b, hbk⟩ := hG.keys e (mem_leftOf.1 he).1
    refine sr_rd (x_extract rfl rfl) ?_
    refine sr_nil ?_
    refine aw_kp [2, 3, 11, 12, 13] ?_
    refine aw_seq ?_
    refine aw_true rfl ?_
    refine aw_skip ?_
    show AW _ _ _ _ _ _ _
    refine aw_block ?_
    refine aw_seq_region ?_
    refine sr_rd (x_entry rfl (map_at mauto) hG.born (mem_leftOf.1 he).1 mauto) ?_
    refine sr_rd (x_cast (u := .int .i64 b) (x_extract rfl rfl) hbk) ?_
    refine sr_as ?_
    refine sr_nil ?_
    refine aw_kp [2, 3, 4, 11, 12, 13, 14, 15] ?_
    refine aw_region ?_
    refine sr_mv ?_
    refine sr_mv ?_
    refine sr_new rfl (wtd_none rfl) rfl (x_buildSlice Try.underlying134 sz3 zr3 rfl rfl rfl rfl Parts.auto Fill.auto) ?_
    intro r7_2 hr7_2 gr7_2
    refine sr_d rfl (wtd_none rfl) rfl (opS_append (G := (r4_4, Obj.mapIter (some m) clk (seen.push e.born) clk) :: gate g l m :: gmap m (es) (clk) :: G) (N := (intC b)) (m := 1) Try.underlying134 sz3 zr3 rfl by3 rfl rfl V Sub.autoP (.inr ⟨_, _, rfl, (cells_ext mauto Ext.auto)⟩) (rfl) rfl (by omega) (by omega)) ?_
    rintro v19 _ ⟨E19, hV19, rfl⟩
    obtain ⟨a19, cap19, rfl⟩ := hV19.isSl
    refine sr_as ?_
    refine sr_nil ?_
    show ∃ s', _ ∧ _ ∧ _ ∧ _
    exact ⟨⟨seen.push e.born, acc ++ [b], .slice a19 (acc.length + 1) cap19, E19⟩, ⟨hcm.next hG.once hG.born he hbk, (by dsimp only; have h9 := hV19.snocS; rw [List.length_append] at h9 ⊢; exact h9)⟩, left_lt hG.born he, KeepF.auto, Sub.autoP⟩
set_option maxRecDepth 100000 in
set_option maxHeartbeats 400000 in
theorem pof_s (p : Nat) (all : QLimit) (f : Nat → QLimit) (h : Nat → Bool) (user : Int) (H : SHeap) (hp : pl p all f h ∈ H) : AC Try.prog W0 90 [.pointer (some ⟨p, 0, none⟩), .int .i64 user] H (fun v H' => v = (limU all f h user).v ∧ H' = H) := by
  refine ac_of Try.func90 rfl rfl rfl ?_
  refine aw_seq_region ?_
  refine sr_new rfl (wtd_none rfl) rfl (x_alloc zr24 rfl) ?_
  intro r0_0 hr0_0 gr0_0
  refine sr_nil ?_
  refine aw_kp [0, 1, 4] ?_
  refine aw_seq ?_
  refine aw_seq_region ?_
  refine sr_mv ?_
  refine sr_c (x_ge rfl rfl) (fun h1 => ?_) (fun h1 => ?_)
  · refine sr_mv ?_
    refine sr_ry (x_move rfl) ?_
    refine sr_cy (x_lt rfl rfl) (fun h2 => ?_) (fun h2 => ?_)
    · refine sr_rd (x_pick_t rfl rfl rfl) ?_
      refine sr_mv ?_
      refine sr_ry (x_move rfl) ?_
      refine sr_ry (x_move rfl) ?_
      refine sr_ry (x_nilCheck rfl) ?_
      refine sr_ry (x_fieldAddr fd155_2 rfl) ?_
      refine sr_ry (x_indexAddrA Try.underlying153 sz4 rfl rfl (by omega) (by omega)) ?_
      refine sr_ry (x_load ag4 rfl (cells_has (List.mem_cons_of_mem _ hp) (by omega))) ?_
      refine sr_rd (x_pick_t rfl rfl rfl) ?_
      refine sr_nil ?_
      refine aw_kp [0, 1, 4, 18] ?_
      refine aw_cond rfl (fun hb3 => ?_) (fun hb3 => ?_)
      · refine aw_seq_region ?_
        refine sr_mv ?_
        refine sr_mv ?_
        refine sr_rd (x_nilCheck rfl) ?_
        refine sr_rd (x_fieldAddr fd155_1 rfl) ?_
        refine sr_rd (x_indexAddrA Try.underlying152 sz24 rfl rfl (by omega) (by omega)) ?_
        refine sr_rd (x_loadN ag24 sz24 rfl (cells_ownL (List.mem_cons_of_mem _ hp) (by omega)) rfl) ?_
        refine sr_x0 rfl (wtd_none rfl) (x_store sz24 rfl rfl rfl rfl rfl Repl.auto Spl.auto) ?_
        refine sr_nil ?_
        refine aw_kp [0, 4] ?_
        refine aw_ret ?_
        show ∃ v H2, ResV _ _ _ _ _ _ v ∧ Sub H2 _ ∧ _
        first | (rw [limU_y (by omega) (by omega) (by assumption)]; exact ⟨_, H, resV rfl (.cons (⟨_, rfl, fun hw => rd_loadVarN ag24 sz24 hw (cells_ext mauto Ext.auto) rfl⟩) .nil), (by repeat (first | exact Sub.refl _ | apply Sub.drop)), rfl, rfl⟩) | (rw [limU_n (fun q9 => by first | omega | (have q10 := q9.2.2; simp_all))]; exact ⟨_, H, resV rfl (.cons (⟨_, rfl, fun hw => rd_loadVarN ag24 sz24 hw (cells_ext mauto Ext.auto) rfl⟩) .nil), (by repeat (first | exact Sub.refl _ | apply Sub.drop)), rfl, rfl⟩)
      · refine aw_skip ?_
        show AW _ _ _ _ _ _ _
        refine aw_seq_region ?_
        refine sr_mv ?_
        refine sr_rd (x_nilCheck rfl) ?_
        refine sr_rd (x_fieldAddr fd155_0 rfl) ?_
        refine sr_rd (x_loadN ag24 sz24 rfl (cells_all (List.mem_cons_of_mem _ hp)) rfl) ?_
        refine sr_x0 rfl (wtd_none rfl) (x_store sz24 rfl rfl rfl rfl rfl Repl.auto Spl.auto) ?_
        refine sr_nil ?_
        refine aw_kp [4] ?_
        refine aw_ret ?_
        show ∃ v H2, ResV _ _ _ _ _ _ v ∧ Sub H2 _ ∧ _
        first | (rw [limU_y (by omega) (by omega) (by assumption)]; exact ⟨_, H, resV rfl (.cons (⟨_, rfl, fun hw => rd_loadVarN ag24 sz24 hw (cells_ext mauto Ext.auto) rfl⟩) .nil), (by repeat (first | exact Sub.refl _ | apply Sub.drop)), rfl, rfl⟩) | (rw [limU_n (fun q9 => by first | omega | (have q10 := q9.2.2; simp_all))]; exact ⟨_, H, resV rfl (.cons (⟨_, rfl, fun hw => rd_loadVarN ag24 sz24 hw (cells_ext mauto Ext.auto) rfl⟩) .nil), (by repeat (first | exact Sub.refl _ | apply Sub.drop)), rfl, rfl⟩)
    · refine sr_rd (x_pick_t rfl rfl rfl) ?_
      refine sr_mv ?_
      refine sr_sk ?_
      refine sr_sk ?_
      refine sr_sk ?_
      refine sr_sk ?_
      refine sr_sk ?_
      refine sr_sk ?_
      refine sr_rd (x_pick_f rfl rfl rfl) ?_
      refine sr_nil ?_
      refine aw_kp [0, 1, 4, 18] ?_
      refine aw_false rfl ?_
      refine aw_skip ?_
      show AW _ _ _ _ _ _ _
      refine aw_seq_region ?_
      refine sr_mv ?_
      refine sr_rd (x_nilCheck rfl) ?_
      refine sr_rd (x_fieldAddr fd155_0 rfl) ?_
      refine sr_rd (x_loadN ag24 sz24 rfl (cells_all (List.mem_cons_of_mem _ hp)) rfl) ?_
      refine sr_x0 rfl (wtd_none rfl) (x_store sz24 rfl rfl rfl rfl rfl Repl.auto Spl.auto) ?_
      refine sr_nil ?_
      refine aw_kp [4] ?_
      refine aw_ret ?_
      show ∃ v H2, ResV _ _ _ _ _ _ v ∧ Sub H2 _ ∧ _
      first | (rw [limU_y (by omega) (by omega) (by assumption)]; exact ⟨_, H, resV rfl (.cons (⟨_, rfl, fun hw => rd_loadVarN ag24 sz24 hw (cells_ext mauto Ext.auto) rfl⟩) .nil), (by repeat (first | exact Sub.refl _ | apply Sub.drop)), rfl, rfl⟩) | (rw [limU_n (fun q9 => by first | omega | (have q10 := q9.2.2; simp_all))]; exact ⟨_, H, resV rfl (.cons (⟨_, rfl, fun hw => rd_loadVarN ag24 sz24 hw (cells_ext mauto Ext.auto) rfl⟩) .nil), (by repeat (first | exact Sub.refl _ | apply Sub.drop)), rfl, rfl⟩)
  · refine sr_mv ?_
    refine sr_sk ?_
    refine sr_sk ?_
    refine sr_rd (x_pick_f rfl rfl rfl) ?_
    refine sr_mv ?_
    refine sr_sk ?_
    refine sr_sk ?_
    refine sr_sk ?_
    refine sr_sk ?_
    refine sr_sk ?_
    refine sr_sk ?_
    refine sr_rd (x_pick_f rfl rfl rfl) ?_
    refine sr_nil ?_
    refine aw_kp [0, 1, 4, 18] ?_
    refine aw_false rfl ?_
    refine aw_skip ?_
    show AW _ _ _ _ _ _ _
    refine aw_seq_region ?_
    refine sr_mv ?_
    refine sr_rd (x_nilCheck rfl) ?_
    refine sr_rd (x_fieldAddr fd155_0 rfl) ?_
    refine sr_rd (x_loadN ag24 sz24 rfl (cells_all (List.mem_cons_of_mem _ hp)) rfl) ?_
    refine sr_x0 rfl (wtd_none rfl) (x_store sz24 rfl rfl rfl rfl rfl Repl.auto Spl.auto) ?_
    refine sr_nil ?_
    refine aw_kp [4] ?_
    refine aw_ret ?_
    show ∃ v H2, ResV _ _ _ _ _ _ v ∧ Sub H2 _ ∧ _
    first | (rw [limU_y (by omega) (by omega) (by assumption)]; exact ⟨_, H, resV rfl (.cons (⟨_, rfl, fun hw => rd_loadVarN ag24 sz24 hw (cells_ext mauto Ext.auto) rfl⟩) .nil), (by repeat (first | exact Sub.refl _ | apply Sub.drop)), rfl, rfl⟩) | (rw [limU_n (fun q9 => by first | omega | (have q10 := q9.2.2; simp_all))]; exact ⟨_, H, resV rfl (.cons (⟨_, rfl, fun hw => rd_loadVarN ag24 sz24 hw (cells_ext mauto Ext.auto) rfl⟩) .nil), (by repeat (first | exact Sub.refl _ | apply Sub.drop)), rfl, rfl⟩)
set_option maxRecDepth 100000 in
set_option maxHeartbeats 4000000 in
theorem qmade_s (all : QLimit) (sa : Option Addr) (scap : Nat) (ops : List QOp) (H : SHeap) (hs : ∀ G, SlV W0 G 5 QOp.cells sa scap ops) : AC Try.prog W0 88 [all.v, .slice sa ops.length scap] H (fun v H' => (¬ QRight all ∧ v = .tuple #[.pointer none, .pointer none, .bool false] ∧ H' = H) ∨ (QRight all ∧ ∃ g m p es clk f h, v = .tuple #[.pointer (some ⟨g, 0, none⟩), .pointer (some ⟨p, 0, none⟩), .bool true] ∧ GOk es clk f h ∧ es.length ≤ 40 ∧ H' = gate g all m :: gmap m es clk :: pl p all f h :: H)) := by
  have hle := (hs []).le
  have hcb := (hs []).capb
  refine ac_of Try.func88 rfl rfl rfl ?_
  refine aw_seq_region ?_
  refine sr_new rfl (wtd_none rfl) rfl (x_box rfl rfl) ?_
  intro r0_0 hr0_0 gr0_0
  refine sr_as ?_
  refine sr_as ?_
  refine sr_as ?_
  refine sr_nil ?_
  refine aw_kp [1, 2, 4, 5, 6] ?_
  refine aw_seq_region ?_
  refine sr_rd (x_loadN ag24 sz24 rfl (cells_ext mauto Ext.auto) rfl) ?_
  refine sr_d rfl (wtd_none rfl) rfl (opS_call rfl rfl rfl rfl cl97 (gnew_s all _)) ?_
  rintro _ _ hnew
  obtain ⟨hn, rfl, rfl⟩ | ⟨hy, g9, m9, rfl, rfl⟩ := hnew
  · refine sr_mv ?_
    refine sr_rd (x_extract rfl rfl) ?_
    refine sr_rd (x_extract rfl rfl) ?_
    refine sr_as ?_
    refine sr_as ?_
    refine sr_nil ?_
    refine aw_kp [1, 2, 4, 5, 6, 7, 8] ?_
    refine aw_seq ?_
    refine aw_seq_region ?_
    refine sr_mv ?_
    refine sr_c (x_ne rfl rfl) (fun h1 => ?_) (fun h1 => absurd (by first | decide | exact fun h => h rfl) h1)
    refine sr_mv ?_
    refine sr_sk ?_
    refine sr_sk ?_
    refine sr_rd (x_pick_t rfl rfl rfl) ?_
    refine sr_nil ?_
    refine aw_kp [1, 2, 4, 5, 6, 7, 23] ?_
    refine aw_true rfl ?_
    refine aw_seq_region ?_
    refine sr_as ?_
    refine sr_as ?_
    refine sr_as ?_
    refine sr_nil ?_
    refine aw_kp [1, 2, 4, 5, 6, 7] ?_
    refine aw_ret ?_
    show ∃ v H2, ResV _ _ _ _ _ _ v ∧ Sub H2 _ ∧ _
    exact ⟨_, H, resV rfl (.cons rfl (.cons rfl (.cons rfl .nil))), Sub.autoP, .inl ⟨hn, rfl, rfl⟩⟩
  · refine sr_mv ?_
    refine sr_rd (x_extract rfl rfl) ?_
    refine sr_rd (x_extract rfl rfl) ?_
    refine sr_as ?_
    refine sr_as ?_
    refine sr_nil ?_
    refine aw_kp [1, 2, 4, 5, 6, 7, 8] ?_
    refine aw_seq ?_
    refine aw_seq_region ?_
    refine sr_mv ?_
    refine sr_c (x_ne rfl rfl) (fun h2 => absurd h2 (by first | decide | exact fun h => h rfl)) (fun h2 => ?_)
    refine sr_mv ?_
    refine sr_ry (x_move rfl) ?_
    refine sr_ry (x_eqnil Try.underlying144 rfl rfl) ?_
    refine sr_rd (x_pick_f rfl rfl rfl) ?_
    refine sr_nil ?_
    refine aw_kp [1, 2, 4, 5, 6, 7, 23] ?_
    refine aw_false rfl ?_
    refine aw_skip ?_
    show AW _ _ _ _ _ _ _
    refine aw_seq_region ?_
    refine sr_rd (x_loadN ag24 sz24 rfl (cells_ext mauto Ext.auto) rfl) ?_
    refine sr_rd (x_build zr155p rfl fl155 Parts.auto (Fill.part rfl rfl rfl spl_all .done)) ?_
    refine sr_new rfl (wtd_none rfl) rfl (x_box rfl rfl) ?_
    intro r4_2 hr4_2 gr4_2
    refine sr_as ?_
    refine sr_nil ?_
    refine aw_kp [1, 4, 5, 6, 7, 9] ?_
    refine aw_seq ?_
    refine aw_seq_region ?_
    refine sr_as ?_
    refine sr_nil ?_
    refine aw_kp [1, 4, 5, 6, 7, 9, 10] ?_
    refine aw_block ?_
    refine aw_loop (ι := MdG) (fun s => s.k ≤ ops.length ∧ s.k ≤ 40 ∧ GOk s.es s.clk s.f s.h ∧ s.es.length ≤ s.k) (fun s => [(1, .slice sa ops.length scap), (4, .pointer none), (5, .pointer none), (6, .bool false), (7, .pointer (some ⟨g9, 0, none⟩)), (9, .pointer (some ⟨r4_2, 0, none⟩)), (10, .int .i64 (s.k : Nat))]) (fun s => gate g9 all m9 :: gmap m9 (s.es) (s.clk) :: pl r4_2 all (s.f) (s.h) :: (r0_0, .cells all.cells.toArray 24 (0, 0)) :: H) (fun s => ops.length - s.k) ⟨0, [], 0, fun _ => ⟨0, 0, 0⟩, fun _ => false⟩ (⟨Nat.zero_le _, Nat.zero_le _, GOk.nil, Nat.le_refl _⟩) KeepF.auto Sub.autoP ?_
    intro s hs9
    obtain ⟨k, es, clk, f, h⟩ := s
    dsimp only at hs9 ⊢
    obtain ⟨hk, hk40, hG, hel⟩ := hs9
    refine aw_seq ?_
    refine aw_seq_region ?_
    refine sr_mv ?_
    refine sr_mv ?_
    refine sr_rd (x_lenSlice Try.underlying143 rfl) ?_
    refine sr_c (x_lt rfl rfl) (fun h3 => ?_) (fun h3 => ?_)
    · refine sr_mv ?_
      refine sr_ry (x_move rfl) ?_
      refine sr_cy (x_lt rfl rfl) (fun h4 => ?_) (fun h4 => ?_)
      · refine sr_rd (x_pick_t rfl rfl rfl) ?_
        refine sr_nil ?_
        refine aw_kp [1, 4, 5, 6, 7, 9, 10, 27, 28, 29, 30, 31, 32, 33, 34] ?_
        refine aw_true rfl ?_
        refine aw_skip ?_
        show AW _ _ _ _ _ _ _
        refine aw_seq ?_
        refine aw_block ?_
        refine aw_seq_region ?_
        obtain ⟨o, ho⟩ := get_ex (show k < ops.length by omega)
        obtain ⟨bx, ox, hax, hcx⟩ := (hs []).at_ k _ ho
        refine sr_mv ?_
        refine sr_mv ?_
        refine sr_rd (x_indexAddrN k Try.underlying143 sz194 rfl hax rfl (by omega) (by omega)) ?_
        refine sr_rd (x_loadN ag194 sz194 rfl (Cells.mono hcx (Sub.nil _)) rfl) ?_
        refine sr_new rfl (wtd_none rfl) rfl (x_alloc zr194 rfl) ?_
        intro r8_4 hr8_4 gr8_4
        refine sr_x0 rfl (wtd_none rfl) (x_store sz194 rfl rfl rfl rfl rfl Repl.auto Spl.auto) ?_
        refine sr_nil ?_
        refine aw_kp [1, 4, 5, 6, 7, 9, 10, 11, 27, 28, 29, 30, 31, 32, 33, 34, 37, 38, 39, 40] ?_
        refine aw_seq ?_
        refine aw_seq_region ?_
        refine sr_rd (x_fieldAddr fd194_0 rfl) ?_
        refine sr_rd (x_load ag3 rfl (cells_ext mauto Ext.auto)) ?_
        refine sr_c (x_eq rfl rfl) (fun h5 => ?_) (fun h5 => ?_)
        · refine sr_nil ?_
          refine aw_kp [1, 4, 5, 6, 7, 9, 10, 11, 27, 28, 29, 30, 31, 32, 33, 34, 37, 38, 39, 40, 41, 42, 43] ?_
          refine aw_true rfl ?_
          refine aw_seq_region ?_
          refine sr_mv ?_
          refine sr_rd (x_fieldAddr fd194_1 rfl) ?_
          refine sr_rd (x_load ag3 rfl (cells_ext mauto Ext.auto)) ?_
          refine sr_d rfl (wtd_none rfl) rfl (opS_call rfl rfl rfl rfl cl94 (AC.sub Sub.autoP (gforget_s g9 m9 all es clk ((r8_4, .cells o.cells.toArray 194 (0, 0)) :: pl r4_2 all (f) (h) :: (r0_0, .cells all.cells.toArray 24 (0, 0)) :: H) o.user hG.keys))) ?_
          rintro _ _ ⟨rfl, rfl⟩
          refine sr_nil ?_
          refine aw_kp [1, 4, 5, 6, 7, 9, 10, 11, 27, 28, 29, 30, 31, 32, 33, 34, 37, 38, 39, 40, 41, 42, 43, 44, 45, 46] ?_
          refine aw_seq ?_
          refine aw_seq_region ?_
          refine sr_rd (x_fieldAddr fd194_1 rfl) ?_
          refine sr_rd (x_load ag3 rfl (cells_ext mauto Ext.auto)) ?_
          refine sr_c (x_ge rfl rfl) (fun h6 => ?_) (fun h6 => ?_)
          · refine sr_mv ?_
            refine sr_ry (x_fieldAddr fd194_1 rfl) ?_
            refine sr_ry (x_load ag3 rfl (cells_ext mauto Ext.auto)) ?_
            refine sr_cy (x_lt rfl rfl) (fun h7 => ?_) (fun h7 => ?_)
            · refine sr_rd (x_pick_t rfl rfl rfl) ?_
              refine sr_nil ?_
              refine aw_kp [1, 4, 5, 6, 7, 9, 10, 11, 27, 28, 29, 30, 31, 32, 33, 34, 37, 38, 39, 40, 41, 42, 43, 44, 45, 46, 48, 49, 50, 51, 52, 53, 54, 55] ?_
              refine aw_true rfl ?_
              refine aw_dr ⟨_, 7, 102, [[], [], [1], [0], [0, 3], [0, 1, 2, 3, 4], [0, 1, 2, 3, 4, 5]], [.light, .light, .mem, .light, .light, .light, .eff]⟩ (by kernel_rfl) rfl rfl mix ?_
              refine dr_l (x_move rfl) ?_
              refine dr_l (x_fieldAddr fd194_1 rfl) ?_
              refine dr_mem0 rfl rfl (wtd_none rfl) (x_load ag3 rfl (cells_ext mauto Ext.auto)) ?_
              refine dr_l (x_nilCheck rfl) ?_
              refine dr_l (x_fieldAddr fd155_2 rfl) ?_
              refine dr_l (x_indexAddrA Try.underlying153 sz4 rfl rfl (by omega) (by omega)) ?_
              refine dr_store0 rfl rfl (wtd_none rfl) (x_store sz4 rfl rfl rfl rfl rfl Repl.auto (spl_has (by omega))) (by first | rfl | simp [keys_append, keys_cons]) ?_
              refine dr_nil0 ?_
              show AW _ _ _ _ _ _ _
              refine aw_exit ?_
              show AW _ _ _ _ _ _ _
              refine aw_region ?_
              refine sr_mv ?_
              refine sr_rd (x_add' rfl rfl (i64w (by omega) (by omega))) ?_
              refine sr_as ?_
              refine sr_nil ?_
              show ∃ s', _ ∧ _ ∧ _ ∧ _
              first | exact ⟨⟨k + 1, mdel o.user es, clk, f, fset h o.user.toNat false⟩, ⟨by dsimp only; omega, by dsimp only; omega, hG.del (by omega) (by omega), by have := len_mdel (a := o.user) (es := es); dsimp only; omega⟩, by dsimp only; omega, KeepF.auto, Sub.autoD⟩ | exact ⟨⟨k + 1, mdel o.user es, clk, f, h⟩, ⟨by dsimp only; omega, by dsimp only; omega, hG.delO (by omega), by have := len_mdel (a := o.user) (es := es); dsimp only; omega⟩, by dsimp only; omega, KeepF.auto, Sub.autoD⟩ | exact ⟨⟨k + 1, mset .i64 o.user o.lim.v clk es, mclk o.user es clk, fset f o.user.toNat o.lim, fset h o.user.toNat true⟩, ⟨by dsimp only; omega, by dsimp only; omega, hG.set (by omega) (by omega), by have := len_mset (k := .i64) (a := o.user) (v := o.lim.v) (clk := clk) (es := es); dsimp only; omega⟩, by dsimp only; omega, KeepF.auto, Sub.autoD⟩ | exact ⟨⟨k + 1, es, clk, f, h⟩, ⟨by dsimp only; omega, by dsimp only; omega, hG, by dsimp only; omega⟩, by dsimp only; omega, KeepF.auto, Sub.autoD⟩
            · refine sr_rd (x_pick_t rfl rfl rfl) ?_
              refine sr_nil ?_
              refine aw_kp [1, 4, 5, 6, 7, 9, 10, 11, 27, 28, 29, 30, 31, 32, 33, 34, 37, 38, 39, 40, 41, 42, 43, 44, 45, 46, 48, 49, 50, 51, 52, 53, 54, 55] ?_
              refine aw_false rfl ?_
              refine aw_skip ?_
              show AW _ _ _ _ _ _ _
              refine aw_exit ?_
              show AW _ _ _ _ _ _ _
              refine aw_region ?_
              refine sr_mv ?_
              refine sr_rd (x_add' rfl rfl (i64w (by omega) (by omega))) ?_
              refine sr_as ?_
              refine sr_nil ?_
              show ∃ s', _ ∧ _ ∧ _ ∧ _
              first | exact ⟨⟨k + 1, mdel o.user es, clk, f, fset h o.user.toNat false⟩, ⟨by dsimp only; omega, by dsimp only; omega, hG.del (by omega) (by omega), by have := len_mdel (a := o.user) (es := es); dsimp only; omega⟩, by dsimp only; omega, KeepF.auto, Sub.autoD⟩ | exact ⟨⟨k + 1, mdel o.user es, clk, f, h⟩, ⟨by dsimp only; omega, by dsimp only; omega, hG.delO (by omega), by have := len_mdel (a := o.user) (es := es); dsimp only; omega⟩, by dsimp only; omega, KeepF.auto, Sub.autoD⟩ | exact ⟨⟨k + 1, mset .i64 o.user o.lim.v clk es, mclk o.user es clk, fset f o.user.toNat o.lim, fset h o.user.toNat true⟩, ⟨by dsimp only; omega, by dsimp only; omega, hG.set (by omega) (by omega), by have := len_mset (k := .i64) (a := o.user) (v := o.lim.v) (clk := clk) (es := es); dsimp only; omega⟩, by dsimp only; omega, KeepF.auto, Sub.autoD⟩ | exact ⟨⟨k + 1, es, clk, f, h⟩, ⟨by dsimp only; omega, by dsimp only; omega, hG, by dsimp only; omega⟩, by dsimp only; omega, KeepF.auto, Sub.autoD⟩
          · refine sr_mv ?_
            refine sr_sk ?_
            refine sr_sk ?_
            refine sr_sk ?_
            refine sr_rd (x_pick_f rfl rfl rfl) ?_
            refine sr_nil ?_
            refine aw_kp [1, 4, 5, 6, 7, 9, 10, 11, 27, 28, 29, 30, 31, 32, 33, 34, 37, 38, 39, 40, 41, 42, 43, 44, 45, 46, 48, 49, 50, 51, 52, 53, 54, 55] ?_
            refine aw_false rfl ?_
            refine aw_skip ?_
            show AW _ _ _ _ _ _ _
            refine aw_exit ?_
            show AW _ _ _ _ _ _ _
            refine aw_region ?_
            refine sr_mv ?_
            refine sr_rd (x_add' rfl rfl (i64w (by omega) (by omega))) ?_
            refine sr_as ?_
            refine sr_nil ?_
            show ∃ s', _ ∧ _ ∧ _ ∧ _
            first | exact ⟨⟨k + 1, mdel o.user es, clk, f, fset h o.user.toNat false⟩, ⟨by dsimp only; omega, by dsimp only; omega, hG.del (by omega) (by omega), by have := len_mdel (a := o.user) (es := es); dsimp only; omega⟩, by dsimp only; omega, KeepF.auto, Sub.autoD⟩ | exact ⟨⟨k + 1, mdel o.user es, clk, f, h⟩, ⟨by dsimp only; omega, by dsimp only; omega, hG.delO (by omega), by have := len_mdel (a := o.user) (es := es); dsimp only; omega⟩, by dsimp only; omega, KeepF.auto, Sub.autoD⟩ | exact ⟨⟨k + 1, mset .i64 o.user o.lim.v clk es, mclk o.user es clk, fset f o.user.toNat o.lim, fset h o.user.toNat true⟩, ⟨by dsimp only; omega, by dsimp only; omega, hG.set (by omega) (by omega), by have := len_mset (k := .i64) (a := o.user) (v := o.lim.v) (clk := clk) (es := es); dsimp only; omega⟩, by dsimp only; omega, KeepF.auto, Sub.autoD⟩ | exact ⟨⟨k + 1, es, clk, f, h⟩, ⟨by dsimp only; omega, by dsimp only; omega, hG, by dsimp only; omega⟩, by dsimp only; omega, KeepF.auto, Sub.autoD⟩
        · refine sr_nil ?_
          refine aw_kp [1, 4, 5, 6, 7, 9, 10, 11, 27, 28, 29, 30, 31, 32, 33, 34, 37, 38, 39, 40, 41, 42, 43] ?_
          refine aw_false rfl ?_
          refine aw_skip ?_
          show AW _ _ _ _ _ _ _
          refine aw_seq_region ?_
          refine sr_as ?_
          refine sr_nil ?_
          refine aw_kp [1, 4, 5, 6, 7, 9, 10, 11, 12, 27, 28, 29, 30, 31, 32, 33, 34, 37, 38, 39, 40, 41, 42, 43] ?_
          refine aw_seq ?_
          refine aw_seq_region ?_
          refine sr_rd (x_fieldAddr fd194_1 rfl) ?_
          refine sr_rd (x_load ag3 rfl (cells_ext mauto Ext.auto)) ?_
          refine sr_c (x_lt rfl rfl) (fun h8 => ?_) (fun h8 => ?_)
          · refine sr_mv ?_
            refine sr_sk ?_
            refine sr_sk ?_
            refine sr_sk ?_
            refine sr_rd (x_pick_t rfl rfl rfl) ?_
            refine sr_mv ?_
            refine sr_sk ?_
            refine sr_sk ?_
            refine sr_sk ?_
            refine sr_sk ?_
            refine sr_rd (x_pick_t rfl rfl rfl) ?_
            refine sr_nil ?_
            refine aw_kp [1, 4, 5, 6, 7, 9, 10, 11, 12, 27, 28, 29, 30, 31, 32, 33, 34, 37, 38, 39, 40, 41, 42, 43, 62, 63, 64, 65, 66, 67, 68, 69, 70, 71, 72, 73, 74, 75] ?_
            refine aw_true rfl ?_
            refine aw_region ?_
            refine sr_as ?_
            refine sr_nil ?_
            show AW _ _ _ _ _ _ _
            refine aw_seq_region ?_
            refine sr_mv ?_
            refine sr_rd (x_fieldAddr fd194_1 rfl) ?_
            refine sr_rd (x_load ag3 rfl (cells_ext mauto Ext.auto)) ?_
            refine sr_rd (x_fieldAddr fd194_2 rfl) ?_
            refine sr_rd (x_loadN ag24 sz24 rfl (cells_ext mauto Ext.auto) rfl) ?_
            refine sr_d rfl (wtd_none rfl) rfl (opS_call rfl rfl rfl rfl cl95 (AC.sub Sub.autoP (gown_s g9 m9 all es clk ((r8_4, .cells o.cells.toArray 194 (0, 0)) :: pl r4_2 all (f) (h) :: (r0_0, .cells all.cells.toArray 24 (0, 0)) :: H) o.user o.lim hG.keys))) ?_
            rintro _ _ hown
            obtain ⟨hin, rfl, rfl⟩ := hown.resolve_left (fun q9 => by have q8 := q9.1.1; have q7 := q9.1.2.1; first | omega | exact absurd q9.1.2.2 (nd_t (by assumption)))
            refine sr_mv ?_
            refine sr_c (x_ne rfl rfl) (fun h9 => absurd h9 (by exact fun h => h rfl)) (fun h9 => ?_)
            refine sr_nil ?_
            refine aw_kp [1, 4, 5, 6, 7, 9, 10, 11, 12, 27, 28, 29, 30, 31, 32, 33, 34, 37, 38, 39, 40, 41, 42, 43, 62, 63, 64, 65, 66, 67, 68, 69, 70, 71, 72, 73, 74, 75, 90, 91, 92, 93, 94, 95, 96, 97] ?_
            refine aw_false rfl ?_
            refine aw_skip ?_
            show AW _ _ _ _ _ _ _
            refine aw_region ?_
            refine sr_mv ?_
            refine sr_rd (x_add' rfl rfl (i64w (by omega) (by omega))) ?_
            refine sr_as ?_
            refine sr_nil ?_
            show ∃ s', _ ∧ _ ∧ _ ∧ _
            first | exact ⟨⟨k + 1, mdel o.user es, clk, f, fset h o.user.toNat false⟩, ⟨by dsimp only; omega, by dsimp only; omega, hG.del (by omega) (by omega), by have := len_mdel (a := o.user) (es := es); dsimp only; omega⟩, by dsimp only; omega, KeepF.auto, Sub.autoD⟩ | exact ⟨⟨k + 1, mdel o.user es, clk, f, h⟩, ⟨by dsimp only; omega, by dsimp only; omega, hG.delO (by omega), by have := len_mdel (a := o.user) (es := es); dsimp only; omega⟩, by dsimp only; omega, KeepF.auto, Sub.autoD⟩ | exact ⟨⟨k + 1, mset .i64 o.user o.lim.v clk es, mclk o.user es clk, fset f o.user.toNat o.lim, fset h o.user.toNat true⟩, ⟨by dsimp only; omega, by dsimp only; omega, hG.set (by omega) (by omega), by have := len_mset (k := .i64) (a := o.user) (v := o.lim.v) (clk := clk) (es := es); dsimp only; omega⟩, by dsimp only; omega, KeepF.auto, Sub.autoD⟩ | exact ⟨⟨k + 1, es, clk, f, h⟩, ⟨by dsimp only; omega, by dsimp only; omega, hG, by dsimp only; omega⟩, by dsimp only; omega, KeepF.auto, Sub.autoD⟩
          · refine sr_mv ?_
            refine sr_ry (x_fieldAddr fd194_1 rfl) ?_
            refine sr_ry (x_load ag3 rfl (cells_ext mauto Ext.auto)) ?_
            refine sr_cy (x_gt rfl rfl) (fun h10 => ?_) (fun h10 => ?_)
            · refine sr_rd (x_pick_f rfl rfl rfl) ?_
              refine sr_mv ?_
              refine sr_sk ?_
              refine sr_sk ?_
              refine sr_sk ?_
              refine sr_sk ?_
              refine sr_rd (x_pick_t rfl rfl rfl) ?_
              refine sr_nil ?_
              refine aw_kp [1, 4, 5, 6, 7, 9, 10, 11, 12, 27, 28, 29, 30, 31, 32, 33, 34, 37, 38, 39, 40, 41, 42, 43, 62, 63, 64, 65, 66, 67, 68, 69, 70, 71, 72, 73, 74, 75] ?_
              refine aw_true rfl ?_
              refine aw_region ?_
              refine sr_as ?_
              refine sr_nil ?_
              show AW _ _ _ _ _ _ _
              refine aw_seq_region ?_
              refine sr_mv ?_
              refine sr_rd (x_fieldAddr fd194_1 rfl) ?_
              refine sr_rd (x_load ag3 rfl (cells_ext mauto Ext.auto)) ?_
              refine sr_rd (x_fieldAddr fd194_2 rfl) ?_
              refine sr_rd (x_loadN ag24 sz24 rfl (cells_ext mauto Ext.auto) rfl) ?_
              refine sr_d rfl (wtd_none rfl) rfl (opS_call rfl rfl rfl rfl cl95 (AC.sub Sub.autoP (gown_s g9 m9 all es clk ((r8_4, .cells o.cells.toArray 194 (0, 0)) :: pl r4_2 all (f) (h) :: (r0_0, .cells all.cells.toArray 24 (0, 0)) :: H) o.user o.lim hG.keys))) ?_
              rintro _ _ hown
              obtain ⟨hin, rfl, rfl⟩ := hown.resolve_left (fun q9 => by have q8 := q9.1.1; have q7 := q9.1.2.1; first | omega | exact absurd q9.1.2.2 (nd_t (by assumption)))
              refine sr_mv ?_
              refine sr_c (x_ne rfl rfl) (fun h11 => absurd h11 (by exact fun h => h rfl)) (fun h11 => ?_)
              refine sr_nil ?_
              refine aw_kp [1, 4, 5, 6, 7, 9, 10, 11, 12, 27, 28, 29, 30, 31, 32, 33, 34, 37, 38, 39, 40, 41, 42, 43, 62, 63, 64, 65, 66, 67, 68, 69, 70, 71, 72, 73, 74, 75, 90, 91, 92, 93, 94, 95, 96, 97] ?_
              refine aw_false rfl ?_
              refine aw_skip ?_
              show AW _ _ _ _ _ _ _
              refine aw_region ?_
              refine sr_mv ?_
              refine sr_rd (x_add' rfl rfl (i64w (by omega) (by omega))) ?_
              refine sr_as ?_
              refine sr_nil ?_
              show ∃ s', _ ∧ _ ∧ _ ∧ _
              first | exact ⟨⟨k + 1, mdel o.user es, clk, f, fset h o.user.toNat false⟩, ⟨by dsimp only; omega, by dsimp only; omega, hG.del (by omega) (by omega), by have := len_mdel (a := o.user) (es := es); dsimp only; omega⟩, by dsimp only; omega, KeepF.auto, Sub.autoD⟩ | exact ⟨⟨k + 1, mdel o.user es, clk, f, h⟩, ⟨by dsimp only; omega, by dsimp only; omega, hG.delO (by omega), by have := len_mdel (a := o.user) (es := es); dsimp only; omega⟩, by dsimp only; omega, KeepF.auto, Sub.autoD⟩ | exact ⟨⟨k + 1, mset .i64 o.user o.lim.v clk es, mclk o.user es clk, fset f o.user.toNat o.lim, fset h o.user.toNat true⟩, ⟨by dsimp only; omega, by dsimp only; omega, hG.set (by omega) (by omega), by have := len_mset (k := .i64) (a := o.user) (v := o.lim.v) (clk := clk) (es := es); dsimp only; omega⟩, by dsimp only; omega, KeepF.auto, Sub.autoD⟩ | exact ⟨⟨k + 1, es, clk, f, h⟩, ⟨by dsimp only; omega, by dsimp only; omega, hG, by dsimp only; omega⟩, by dsimp only; omega, KeepF.auto, Sub.autoD⟩
            · refine sr_rd (x_pick_f rfl rfl rfl) ?_
              refine sr_mv ?_
              refine sr_ry (x_fieldAddr fd194_2 rfl) ?_
              refine sr_ry (x_loadN ag24 sz24 rfl (cells_ext mauto Ext.auto) rfl) ?_
              refine sr_d rfl (wtd_yes rfl rfl rfl) rfl (opS_call rfl rfl rfl rfl cl23 (right23_s o.lim _)) ?_
              rintro _ _ ⟨rfl, rfl⟩
              refine sr_ry (x_not rfl) ?_
              refine sr_rd (x_pick_f rfl rfl rfl) ?_
              refine sr_nil ?_
              refine aw_kp [1, 4, 5, 6, 7, 9, 10, 11, 12, 27, 28, 29, 30, 31, 32, 33, 34, 37, 38, 39, 40, 41, 42, 43, 62, 63, 64, 65, 66, 67, 68, 69, 70, 71, 72, 73, 74, 75] ?_
              refine aw_cond rfl (fun hb12 => ?_) (fun hb12 => ?_)
              · refine aw_region ?_
                refine sr_as ?_
                refine sr_nil ?_
                show AW _ _ _ _ _ _ _
                refine aw_seq_region ?_
                refine sr_mv ?_
                refine sr_rd (x_fieldAddr fd194_1 rfl) ?_
                refine sr_rd (x_load ag3 rfl (cells_ext mauto Ext.auto)) ?_
                refine sr_rd (x_fieldAddr fd194_2 rfl) ?_
                refine sr_rd (x_loadN ag24 sz24 rfl (cells_ext mauto Ext.auto) rfl) ?_
                refine sr_d rfl (wtd_none rfl) rfl (opS_call rfl rfl rfl rfl cl95 (AC.sub Sub.autoP (gown_s g9 m9 all es clk ((r8_4, .cells o.cells.toArray 194 (0, 0)) :: pl r4_2 all (f) (h) :: (r0_0, .cells all.cells.toArray 24 (0, 0)) :: H) o.user o.lim hG.keys))) ?_
                rintro _ _ hown
                obtain ⟨hin, rfl, rfl⟩ := hown.resolve_left (fun q9 => by have q8 := q9.1.1; have q7 := q9.1.2.1; first | omega | exact absurd q9.1.2.2 (nd_t (by assumption)))
                refine sr_mv ?_
                refine sr_c (x_ne rfl rfl) (fun h13 => absurd h13 (by exact fun h => h rfl)) (fun h13 => ?_)
                refine sr_nil ?_
                refine aw_kp [1, 4, 5, 6, 7, 9, 10, 11, 12, 27, 28, 29, 30, 31, 32, 33, 34, 37, 38, 39, 40, 41, 42, 43, 62, 63, 64, 65, 66, 67, 68, 69, 70, 71, 72, 73, 74, 75, 90, 91, 92, 93, 94, 95, 96, 97] ?_
                refine aw_false rfl ?_
                refine aw_skip ?_
                show AW _ _ _ _ _ _ _
                refine aw_region ?_
                refine sr_mv ?_
                refine sr_rd (x_add' rfl rfl (i64w (by omega) (by omega))) ?_
                refine sr_as ?_
                refine sr_nil ?_
                show ∃ s', _ ∧ _ ∧ _ ∧ _
                first | exact ⟨⟨k + 1, mdel o.user es, clk, f, fset h o.user.toNat false⟩, ⟨by dsimp only; omega, by dsimp only; omega, hG.del (by omega) (by omega), by have := len_mdel (a := o.user) (es := es); dsimp only; omega⟩, by dsimp only; omega, KeepF.auto, Sub.autoD⟩ | exact ⟨⟨k + 1, mdel o.user es, clk, f, h⟩, ⟨by dsimp only; omega, by dsimp only; omega, hG.delO (by omega), by have := len_mdel (a := o.user) (es := es); dsimp only; omega⟩, by dsimp only; omega, KeepF.auto, Sub.autoD⟩ | exact ⟨⟨k + 1, mset .i64 o.user o.lim.v clk es, mclk o.user es clk, fset f o.user.toNat o.lim, fset h o.user.toNat true⟩, ⟨by dsimp only; omega, by dsimp only; omega, hG.set (by omega) (by omega), by have := len_mset (k := .i64) (a := o.user) (v := o.lim.v) (clk := clk) (es := es); dsimp only; omega⟩, by dsimp only; omega, KeepF.auto, Sub.autoD⟩ | exact ⟨⟨k + 1, es, clk, f, h⟩, ⟨by dsimp only; omega, by dsimp only; omega, hG, by dsimp only; omega⟩, by dsimp only; omega, KeepF.auto, Sub.autoD⟩
              · refine aw_seq_dr ⟨_, 7, 102, [[], [], [1], [0], [0, 3], [0, 1, 2, 3, 4], [0, 1, 2, 3, 4, 5]], [.light, .light, .mem, .light, .light, .light, .eff]⟩ (by kernel_rfl) rfl rfl mix ?_
                refine dr_l (x_move rfl) ?_
                refine dr_l (x_fieldAddr fd194_1 rfl) ?_
                refine dr_mem0 rfl rfl (wtd_none rfl) (x_load ag3 rfl (cells_ext mauto Ext.auto)) ?_
                refine dr_l (x_nilCheck rfl) ?_
                refine dr_l (x_fieldAddr fd155_2 rfl) ?_
                refine dr_l (x_indexAddrA Try.underlying153 sz4 rfl rfl (by omega) (by omega)) ?_
                refine dr_store0 rfl rfl (wtd_none rfl) (x_store sz4 rfl rfl rfl rfl rfl Repl.auto (spl_has (by omega))) (by first | rfl | simp [keys_append, keys_cons]) ?_
                refine dr_nil0 ?_
                refine aw_kp [1, 4, 5, 6, 7, 9, 10, 11, 12, 27, 28, 29, 30, 31, 32, 33, 34, 37, 38, 39, 40, 41, 42, 43, 62, 63, 64, 65, 66, 67, 68, 69, 70, 71, 72, 73, 74, 75, 76, 77, 78, 79, 80, 81] ?_
                refine aw_dr ⟨_, 9, 102, [[], [], [1], [], [3], [0], [0, 5], [0, 1, 2, 3, 4, 5, 6], [0, 1, 2, 3, 4, 5, 6, 7]], [.light, .light, .mem, .light, .mem, .light, .light, .light, .eff]⟩ (by kernel_rfl) rfl rfl mix ?_
                refine dr_l (x_move rfl) ?_
                refine dr_l (x_fieldAddr fd194_1 rfl) ?_
                refine dr_mem0 rfl rfl (wtd_none rfl) (x_load ag3 rfl (cells_ext mauto Ext.auto)) ?_
                refine dr_l (x_fieldAddr fd194_2 rfl) ?_
                refine dr_mem0 rfl rfl (wtd_none rfl) (x_loadN ag24 sz24 rfl (cells_ext mauto Ext.auto) rfl) ?_
                refine dr_l (x_nilCheck rfl) ?_
                refine dr_l (x_fieldAddr fd155_1 rfl) ?_
                refine dr_l (x_indexAddrA Try.underlying152 sz24 rfl rfl (by omega) (by omega)) ?_
                refine dr_store0 rfl rfl (wtd_none rfl) (x_store sz24 rfl rfl rfl rfl rfl Repl.auto (spl_own (by omega))) (by first | rfl | simp [keys_append, keys_cons]) ?_
                refine dr_nil0 ?_
                show AW _ _ _ _ _ _ _
                refine aw_seq_region ?_
                refine sr_mv ?_
                refine sr_rd (x_fieldAddr fd194_1 rfl) ?_
                refine sr_rd (x_load ag3 rfl (cells_ext mauto Ext.auto)) ?_
                refine sr_rd (x_fieldAddr fd194_2 rfl) ?_
                refine sr_rd (x_loadN ag24 sz24 rfl (cells_ext mauto Ext.auto) rfl) ?_
                refine sr_d rfl (wtd_none rfl) rfl (opS_call rfl rfl rfl rfl cl95 (AC.sub Sub.autoP (gown_s g9 m9 all es clk ((r8_4, .cells o.cells.toArray 194 (0, 0)) :: pl r4_2 all (fset f o.user.toNat o.lim) (fset h o.user.toNat true) :: (r0_0, .cells all.cells.toArray 24 (0, 0)) :: H) o.user o.lim hG.keys))) ?_
                rintro _ _ hown
                obtain ⟨hin, rfl, rfl⟩ := hown.resolve_right (fun q9 => q9.1 ⟨by omega, by omega, nd_f (by assumption)⟩)
                refine sr_mv ?_
                refine sr_c (x_ne rfl rfl) (fun h14 => absurd h14 (by exact fun h => h rfl)) (fun h14 => ?_)
                refine sr_nil ?_
                refine aw_kp [1, 4, 5, 6, 7, 9, 10, 11, 12, 27, 28, 29, 30, 31, 32, 33, 34, 37, 38, 39, 40, 41, 42, 43, 62, 63, 64, 65, 66, 67, 68, 69, 70, 71, 72, 73, 74, 75, 76, 77, 78, 79, 80, 81, 82, 83, 84, 85, 86, 87, 88, 89, 90, 91, 92, 93, 94, 95, 96, 97] ?_
                refine aw_false rfl ?_
                refine aw_skip ?_
                show AW _ _ _ _ _ _ _
                refine aw_region ?_
                refine sr_mv ?_
                refine sr_rd (x_add' rfl rfl (i64w (by omega) (by omega))) ?_
                refine sr_as ?_
                refine sr_nil ?_
                show ∃ s', _ ∧ _ ∧ _ ∧ _
                first | exact ⟨⟨k + 1, mdel o.user es, clk, f, fset h o.user.toNat false⟩, ⟨by dsimp only; omega, by dsimp only; omega, hG.del (by omega) (by omega), by have := len_mdel (a := o.user) (es := es); dsimp only; omega⟩, by dsimp only; omega, KeepF.auto, Sub.autoD⟩ | exact ⟨⟨k + 1, mdel o.user es, clk, f, h⟩, ⟨by dsimp only; omega, by dsimp only; omega, hG.delO (by omega), by have := len_mdel (a := o.user) (es := es); dsimp only; omega⟩, by dsimp only; omega, KeepF.auto, Sub.autoD⟩ | exact ⟨⟨k + 1, mset .i64 o.user o.lim.v clk es, mclk o.user es clk, fset f o.user.toNat o.lim, fset h o.user.toNat true⟩, ⟨by dsimp only; omega, by dsimp only; omega, hG.set (by omega) (by omega), by have := len_mset (k := .i64) (a := o.user) (v := o.lim.v) (clk := clk) (es := es); dsimp only; omega⟩, by dsimp only; omega, KeepF.auto, Sub.autoD⟩ | exact ⟨⟨k + 1, es, clk, f, h⟩, ⟨by dsimp only; omega, by dsimp only; omega, hG, by dsimp only; omega⟩, by dsimp only; omega, KeepF.auto, Sub.autoD⟩
      · refine sr_rd (x_pick_t rfl rfl rfl) ?_
        refine sr_nil ?_
        refine aw_kp [1, 4, 5, 6, 7, 9, 10, 27, 28, 29, 30, 31, 32, 33, 34] ?_
        refine aw_false rfl ?_
        refine aw_exit ?_
        show AW _ _ _ _ _ _ _
        refine aw_seq_region ?_
        refine sr_mv ?_
        refine sr_mv ?_
        refine sr_as ?_
        refine sr_as ?_
        refine sr_as ?_
        refine sr_nil ?_
        refine aw_kp [4, 5, 6] ?_
        refine aw_ret ?_
        show ∃ v H2, ResV _ _ _ _ _ _ v ∧ Sub H2 _ ∧ _
        exact ⟨_, gate g9 all m9 :: gmap m9 es clk :: pl r4_2 all f h :: H, resV rfl (.cons rfl (.cons rfl (.cons rfl .nil))), Sub.autoP, .inr ⟨hy, g9, m9, r4_2, es, clk, f, h, rfl, hG, by omega, rfl⟩⟩
    · refine sr_mv ?_
      refine sr_sk ?_
      refine sr_sk ?_
      refine sr_rd (x_pick_f rfl rfl rfl) ?_
      refine sr_nil ?_
      refine aw_kp [1, 4, 5, 6, 7, 9, 10, 27, 28, 29, 30, 31, 32, 33, 34] ?_
      refine aw_false rfl ?_
      refine aw_exit ?_
      show AW _ _ _ _ _ _ _
      refine aw_seq_region ?_
      refine sr_mv ?_
      refine sr_mv ?_
      refine sr_as ?_
      refine sr_as ?_
      refine sr_as ?_
      refine sr_nil ?_
      refine aw_kp [4, 5, 6] ?_
      refine aw_ret ?_
      show ∃ v H2, ResV _ _ _ _ _ _ v ∧ Sub H2 _ ∧ _
      exact ⟨_, gate g9 all m9 :: gmap m9 es clk :: pl r4_2 all f h :: H, resV rfl (.cons rfl (.cons rfl (.cons rfl .nil))), Sub.autoP, .inr ⟨hy, g9, m9, r4_2, es, clk, f, h, rfl, hG, by omega, rfl⟩⟩
end
end Go.Proofs.Yteilocpjikmmdaa
