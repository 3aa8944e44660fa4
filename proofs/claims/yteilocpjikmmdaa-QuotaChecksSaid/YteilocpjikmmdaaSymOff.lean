/- Slices of one's own that begin anywhere in their block: append. -/
import Derived.Test.YteilocpjikmmdaaSymMake
import Derived.Laws.CopyRow
namespace Go.Proofs.Yteilocpjikmmdaa.Sym
open Go.RowKit (Below)
set_option linter.unusedVariables false
set_option linter.unusedSimpArgs false
inductive OffVec (size : Nat) (e : TypeId) : Value → Nat → List Value → SHeap → Prop
  | nil : OffVec size e (.slice none 0 0) 0 [] []
  | mk {r off n cap : Nat} {pre L post : List Value} (ho : pre.length = off) (hl : L.length = n * size) (hp : (cap - n) * size ≤ post.length) (hn : n ≤ cap) (hc : cap ≤ 9223372036854775807) :
      OffVec size e (.slice (some ⟨r, off, none⟩) n cap) n L [(r, .cells (pre ++ (L ++ post)).toArray e (0, 0))]
theorem OwnVec.off {size : Nat} {e : TypeId} {v : Value} {n : Nat} {L : List Value} {E : SHeap} (h : OwnVec size e v n L E) : OffVec size e v n L E := by
  cases h with
  | nil => exact .nil
  | mk hl hp hn hc => exact .mk (pre := []) rfl hl (Nat.le_of_eq hp.symm) hn hc
theorem OffVec.len {size : Nat} {e : TypeId} {v : Value} {n : Nat} {L : List Value} {E : SHeap} (h : OffVec size e v n L E) : L.length = n * size := by
  cases h with
  | nil => simp
  | mk ho hl hp hn hc => exact hl
theorem OffVec.isSl {size : Nat} {e : TypeId} {v : Value} {n : Nat} {L : List Value} {E : SHeap} (h : OffVec size e v n L E) : ∃ a cap, v = .slice a n cap := by
  cases h with
  | nil => exact ⟨_, _, rfl⟩
  | mk ho hl hp hn hc => exact ⟨_, _, rfl⟩
theorem cells_flatO {α : Type} {n : Nat} {enc : α → List Value} (hn : ∀ x, (enc x).length = n) {W0 : World} {H : SHeap} {b off : Nat} {e : TypeId} {fz : Nat × Nat} {xs : List α} {pre post : List Value} (hpre : pre.length = off) (hm : (b, Obj.cells (pre ++ (xs.flatMap enc ++ post)).toArray e fz) ∈ H) {i : Nat} {x : α} (hx : xs[i]? = some x) : Cells W0 H b (off + i * n) (enc x) := by
  have hi : i < xs.length := get_lt hx
  have hsp : pre ++ (xs.flatMap enc ++ post) = (pre ++ (xs.take i).flatMap enc) ++ (enc x ++ ((xs.drop (i + 1)).flatMap enc ++ post)) := by
    have h1 : xs = xs.take i ++ x :: xs.drop (i + 1) := by
      have h2 : xs[i] = x := by rw [List.getElem?_eq_getElem hi] at hx; simpa using hx
      rw [← h2, ← List.drop_eq_getElem_cons hi, List.take_append_drop]
    conv => lhs; rw [h1]
    rw [List.flatMap_append, List.flatMap_cons]; simp
  rw [hsp] at hm
  exact cells_own hm (by rw [List.length_append, hpre, flat_len hn, List.length_take, Nat.min_eq_left (by omega)])
/-- Read as a slice of elements. -/
theorem OffVec.slv' {α : Type} {size : Nat} {e : TypeId} {a : Option Addr} {n cap : Nat} {enc : α → List Value} {xs : List α} {E : SHeap} (h : OffVec size e (.slice a n cap) n (xs.flatMap enc) E) (hn : ∀ x, (enc x).length = size) (hxs : n = xs.length) {W0 : World} {H : SHeap} (hs : Sub E H) : SlV W0 H size enc a cap xs := by
  obtain ⟨L, hL⟩ : ∃ L, L = xs.flatMap enc := ⟨_, rfl⟩
  rw [← hL] at h
  subst hxs
  obtain ⟨m, hm⟩ : ∃ m, m = xs.length := ⟨_, rfl⟩
  rw [← hm] at h
  cases h with
  | nil =>
    have : xs = [] := List.length_eq_zero_iff.1 hm.symm
    subst this
    exact slv_nil
  | @mk r off _ _ pre _ post ho hl hp hn2 hc =>
    subst hL
    exact ⟨by omega, hc, fun i x hx => ⟨r, off, rfl, (cells_flatO hn ho (H := [(r, .cells (pre ++ (xs.flatMap enc ++ post)).toArray e (0, 0))]) List.mem_cons_self hx).mono hs⟩⟩
theorem OffVec.pos {size : Nat} {e : TypeId} {a : Option Addr} {n cap m : Nat} {L : List Value} {E : SHeap} (h : OffVec size e (.slice a n cap) m L E) (hm : 0 < m) : ∃ b o, a = some ⟨b, o, none⟩ := by
  cases h with
  | nil => omega
  | mk ho hl hp hn hc => exact ⟨_, _, rfl⟩
/-- Cut: what is left behind its first elements. -/
theorem OffVec.cut {size : Nat} {e : TypeId} {b o n cap k : Nat} {L : List Value} {E : SHeap} (h : OffVec size e (.slice (some ⟨b, o, none⟩) n cap) n L E) (hk : k ≤ n) : OffVec size e (.slice (some ⟨b, if cap = k then o else o + k * size, none⟩) (n - k) (cap - k)) (n - k) (L.drop (k * size)) E := by
  obtain ⟨m, hm⟩ : ∃ m, m = n := ⟨_, rfl⟩
  rw [← hm] at h
  cases h with
  | @mk r off _ _ pre _ post ho hl hp hn2 hc =>
    subst hm
    have h1 : k * size ≤ m * size := Nat.mul_le_mul_right _ hk
    split
    · next hck =>
      have hmk : m = k := by omega
      subst hmk
      have e1 : pre ++ (L ++ post) = pre ++ (L.drop (m * size) ++ (L ++ post)) := by rw [List.drop_eq_nil_of_le (by omega)]; rfl
      rw [e1]
      exact .mk ho (by rw [List.length_drop, hl, Nat.sub_mul]) (by rw [hck]; simp) (by omega) (by omega)
    · have e1 : pre ++ (L ++ post) = (pre ++ L.take (k * size)) ++ (L.drop (k * size) ++ post) := by
        rw [List.append_assoc, ← List.append_assoc (L.take _), List.take_append_drop]
      rw [e1]
      exact .mk (by rw [List.length_append, List.length_take, ho]; omega) (by rw [List.length_drop, hl, Nat.sub_mul]) (by rw [show cap - k - (m - k) = cap - m from by omega]; exact hp) (by omega) (by omega)
section
variable {P : Program} {W0 : World} {F : Fm} {G H E : SHeap} {d : Option Tmp} {ty : TypeId} {pos : String} {af : Array Edge} {g : Option (Nat × Bool)} {t e : TypeId} {x y : Operand} {size bytes n m c : Nat} {v zv : Value} {L N : List Value} {a : Option Addr}
theorem run_append_roomO {w : World} (i : TypeInfo) (ht : P.underlying t = some (.slice e)) (hi : P.info? e = some i) (g o sLen sCap : Nat) (cur : Array Value) (hg : w.heap[g]? = some (.cells cur e (0, 0)))
    (a : Addr) (m c : Nat) (news : List Value) (hl : news.length = m * i.size) (hnews : ∀ j u, news[j]? = some u → w.cell? (a.add j) = some u) (h1 : ∀ u ∈ news, u.oneCell' = true)
    (hroom : sLen + m ≤ sCap) (hfit : o + sLen * i.size + news.length ≤ cur.size) :
    (Builtin.append_ #[t, t] ty #[.slice (some ⟨g, o, none⟩) sLen sCap, .slice (some a) m c]).run P w =
      .ok (.slice (some ⟨g, o, none⟩) (sLen + m) sCap) (w.setRow g (cur.toList.take (o + sLen * i.size) ++ news ++ cur.toList.drop (o + sLen * i.size + news.length)).toArray) := by
  have hf := run_firstCells_some (P := P) w i.size m a m c news hl hnews
  have hst := run_storeCells_at P g (o + sLen * i.size) e news 0 cur w hg (by simpa using hfit) h1
  simp only [Nat.add_zero] at hst
  simp [Builtin.append_, run_underlying ht, sizeOf, typeInfo, hi, Builtin.lenOf, hroom, hf, add_at, hst]
theorem append_worldO {w : World} (ht : P.underlying t = some (.slice e)) (hs : szOf P e = some size) (hz : zeroOf P e = some zv) (hzc : zv.cells.size = size) (hby : bytesOf P e = some bytes)
    (hV : OffVec size e v n L E) (ho : Own W0 (E ++ G) w) (hm0 : 0 < m) (hN : ∃ b off, a = some ⟨b, off, none⟩ ∧ ∀ j u, N[j]? = some u → w.cell? ((⟨b, off, none⟩ : Addr).add j) = some u) (hl : N.length = m * size) (h1 : N.all oneCell = true) (hb : (n + m) * bytes ≤ 140737488355328) (hm : n + m ≤ 9223372036854775807) :
    ∃ u E' w', (Builtin.append_ #[t, t] ty #[v, .slice a m c]).run P w = .ok u w' ∧ OffVec size e u (n + m) (L ++ N) E' ∧ Own W0 (E' ++ G) w' ∧ Fr (E ++ G) (E' ++ G) w w' := by
  cases hV with
  | nil =>
    obtain ⟨u, E', w', h1, h2, h3, h4⟩ := append_world (ty := ty) (c := c) (a := a) (m := m) (N := N) ht hs hz hzc hby (OwnVec.nil (size := size) (e := e)) ho (.inr hN) hl h1 hb hm
    exact ⟨u, E', w', h1, h2.off, h3, h4⟩
  | @mk r off _ cap pre _ post hpre g1 g2 g3 g4 =>
    unfold szOf at hs; unfold zeroOf at hz; unfold bytesOf at hby
    obtain ⟨i, hi, hi1⟩ := Option.map_eq_some_iff.1 hs
    have hi2 : i.zero = some zv := by rw [hi] at hz; simpa using hz
    have hi3 : i.bytes = bytes := by rw [hi] at hby; simpa using hby
    obtain ⟨b, boff, rfl, hc⟩ := hN
    subst hi1; subst hi3
    have hd := own_drew ho
    have holds : ∀ j u, L[j]? = some u → w.cell? ((⟨r, off, none⟩ : Addr).add j) = some u := cells_world ho (cells_own (pre := pre) (List.mem_append_left _ List.mem_cons_self) hpre)
    rcases Nat.lt_or_ge cap (n + m) with hcap | hcap
    · refine ⟨_, [(w.heap.size, .cells (L ++ N ++ (Builtin.zeroCells zv.cells (grownCap w (n + m) cap e - (n + m))).toList).toArray e (0, 0))], _, run_append_grow (P := P) w t ty e i zv ht hi hi2 _ n cap L g1 holds _ m c N hl hc hcap (by omega) (growslice_fits hcap hb), ?_⟩
      refine ⟨OwnVec.off (.mk (by rw [List.length_append, g1, hl, Nat.add_mul]) (by rw [zeroCells_len, hzc]) (grownCap_ge w _ _ e) (grownCap_le_maxLen w _ _ e (by unfold maxLen; omega))), ?_⟩
      have hn := own_new hd.1 (.cells (L ++ N ++ (Builtin.zeroCells zv.cells (grownCap w (n + m) cap e - (n + m))).toList).toArray e (0, 0))
      have e1 : L.toArray ++ N.toArray ++ Builtin.zeroCells zv.cells (grownCap w (n + m) cap e - (n + m)) = (L ++ N ++ (Builtin.zeroCells zv.cells (grownCap w (n + m) cap e - (n + m))).toList).toArray := by apply Array.ext'; simp
      rw [e1]
      have hsub : Sub ((w.heap.size, Obj.cells (L ++ N ++ (Builtin.zeroCells zv.cells (grownCap w (n + m) cap e - (n + m))).toList).toArray e (0, 0)) :: G) ((w.heap.size, Obj.cells (L ++ N ++ (Builtin.zeroCells zv.cells (grownCap w (n + m) cap e - (n + m))).toList).toArray e (0, 0)) :: ([(r, Obj.cells (pre ++ (L ++ post)).toArray e (0, 0))] ++ G)) :=
        ⟨[(r, Obj.cells (pre ++ (L ++ post)).toArray e (0, 0))], by simp⟩
      exact ⟨hn.1.sub hsub, (hd.2.trans hn.2).of_keys (fun b hb => hb) fun b hb => .inl (hsub.keys b hb)⟩
    · have hat := ho.at_ r _ (List.mem_append_left _ List.mem_cons_self)
      have hmul : m * i.size ≤ (cap - n) * i.size := Nat.mul_le_mul_right _ (by omega)
      have hsz : off + n * i.size + N.length ≤ (pre ++ (L ++ post)).length := by
        rw [List.length_append, List.length_append, hpre, g1, hl]
        omega
      refine ⟨_, [(r, .cells (pre ++ ((L ++ N) ++ post.drop N.length)).toArray e (0, 0))], _, run_append_roomO (P := P) i ht hi r off n cap (pre ++ (L ++ post)).toArray hat _ m c N hl hc (fun u hu => by rw [← oneCell_eq]; exact List.all_eq_true.1 h1 u hu) hcap (by simpa using hsz), ?_⟩
      refine ⟨.mk hpre (by rw [List.length_append, g1, hl, Nat.add_mul]) (by rw [List.length_drop, hl, show cap - (n + m) = (cap - n) - m from by omega, Nat.sub_mul]; omega) (by omega) g4, ?_⟩
      have e1 : (List.take (off + n * i.size) (pre ++ (L ++ post)).toArray.toList ++ N ++ List.drop (off + n * i.size + N.length) (pre ++ (L ++ post)).toArray.toList) = pre ++ ((L ++ N) ++ post.drop N.length) := by
        rw [← g1, ← hpre]
        have q1 : List.take (pre.length + L.length) (pre ++ (L ++ post)) = pre ++ L := by rw [List.take_length_add_append, List.take_left]
        have q2 : List.drop (pre.length + L.length + N.length) (pre ++ (L ++ post)) = post.drop N.length := by rw [Nat.add_assoc, List.drop_length_add_append, List.drop_length_add_append]
        show List.take _ (pre ++ (L ++ post)) ++ N ++ List.drop _ (pre ++ (L ++ post)) = _
        rw [q1, q2]; simp [List.append_assoc]
      rw [e1]
      exact own_row ho
theorem opS_appendO (ht : P.underlying t = some (.slice e)) (hs : szOf P e = some size) (hz : zeroOf P e = some zv) (hzc : zv.cells.size = size) (hby : bytesOf P e = some bytes)
    (hx : val F x = some v) (hy : val F y = some (.slice a m c)) (hV : OffVec size e v n L E) (hsub : Sub (E ++ G) H) (hm0 : 0 < m) (hN : ∃ b off, a = some ⟨b, off, none⟩ ∧ Cells W0 H b off N) (hl : N.length = m * size) (h1 : N.all oneCell = true) (hb : (n + m) * bytes ≤ 140737488355328) (hm : n + m ≤ 9223372036854775807) :
    OpS P W0 F H ⟨d, .call ⟨.builtin .append, #[x, y], #[t, t]⟩, ty, pos, af, g⟩ fun u H' => ∃ E', OffVec size e u (n + m) (L ++ N) E' ∧ H' = E' ++ G := by
  intro N' A w Q next hh ho k
  obtain ⟨u, E', w', hr, hV', ho', hf⟩ := append_worldO (ty := ty) (c := c) (a := a) (m := m) (N := N) ht hs hz hzc hby hV (ho.sub hsub) hm0 (by obtain ⟨b, off, h1, h2⟩ := hN; exact ⟨b, off, h1, cells_world ho h2⟩) hl h1 hb hm
  unfold Oper.wp
  have he : (execOp A.eval ⟨d, .call ⟨.builtin .append, #[x, y], #[t, t]⟩, ty, pos, af, g⟩).run P w = .ok (.value u) w' := by
    simp only [execOp, resolve, invoke]
    simp [builtin, hh.val hx, hh.val hy, hr, invoke]
  rw [he, Oper.upon_value]
  exact k _ _ _ ⟨E', hV', rfl⟩ ho' (hf.of_keys hsub.keys fun b hb => (Decidable.em (b ∈ keys (E' ++ G))).elim .inl fun h => absurd hb h)
end
theorem off_fresh {W0 : World} {V0 G : SHeap} {size m : Nat} {e : TypeId} {L : List Value} (hl : L.length = m * size) (hm : m ≤ 9223372036854775807) (hsub : Sub G V0) : FreshH W0 V0 (fun v H' => ∃ a' cap' E', v = .slice a' m cap' ∧ OffVec size e (.slice a' m cap') m L E' ∧ H' = E' ++ G) := by
  intro hw l
  obtain ⟨v, H', ⟨a', cap', E', h1, h2, h3⟩, h4, h5⟩ := vec_fresh (e := e) hl hm hsub hw l
  exact ⟨v, H', ⟨a', cap', E', h1, h2.off, h3⟩, h4, h5⟩
theorem ins_roomO {pre L post N : List Value} {off i n s : Nat} (hpre : pre.length = off) (hL : L.length = n * s) (hN : N.length = s) (hi : i ≤ n) (hp : s ≤ post.length) :
    ∃ cs1, Spl (pre ++ (L ++ post)) (off + (i + 1) * s) (L.drop (i * s)) cs1 ∧ Spl cs1 (off + i * s) N (pre ++ ((L.take (i * s) ++ N ++ L.drop (i * s)) ++ post.drop s)) := by
  obtain ⟨cs1, h1, h2⟩ := ins_room hL hN hi hp
  subst hpre
  exact ⟨pre ++ cs1, spl_skip h1, spl_skip h2⟩
theorem cells_ltO {W0 : World} {H : SHeap} {b off : Nat} {pre L post : List Value} {e : TypeId} {fz : Nat × Nat} (hpre : pre.length = off) (hm : (b, Obj.cells (pre ++ (L ++ post)).toArray e fz) ∈ H) (k : Nat) : Cells W0 H b off (L.take k) :=
  ⟨_, e, fz, fun hw => hw.obj hm, fun j v hv => by
    subst hpre
    rw [List.getElem?_take] at hv
    split at hv
    · rw [List.getElem?_toArray, List.getElem?_append_right (by omega), Nat.add_sub_cancel_left, List.getElem?_append_left (get_lt hv)]; exact hv
    · cases hv⟩
theorem cells_ldO {W0 : World} {H : SHeap} {b off : Nat} {pre L post : List Value} {e : TypeId} {fz : Nat × Nat} (hpre : pre.length = off) (hm : (b, Obj.cells (pre ++ (L ++ post)).toArray e fz) ∈ H) (k : Nat) : Cells W0 H b (off + k) (L.drop k) :=
  ⟨_, e, fz, fun hw => hw.obj hm, fun j v hv => by
    subst hpre
    rw [List.getElem?_drop] at hv
    rw [List.getElem?_toArray, List.getElem?_append_right (by omega), show pre.length + k + j - pre.length = k + j from by omega, List.getElem?_append_left (get_lt hv)]; exact hv⟩
end Go.Proofs.Yteilocpjikmmdaa.Sym
