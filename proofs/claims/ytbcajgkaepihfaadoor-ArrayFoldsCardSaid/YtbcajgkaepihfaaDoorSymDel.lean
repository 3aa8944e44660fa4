/- slices.Delete: a three-index slice, an append that stays in its block, and clearing what is behind. -/
import Derived.Test.YtbcajgkaepihfaaDoorSymCpt
namespace Go.Proofs.YtbcajgkaepihfaaDoor.Sym
set_option linter.unusedVariables false
set_option linter.unusedSimpArgs false
section
variable {P : Program} {W0 : World} {F : Fm} {G H E : SHeap} {d : Option Tmp} {ty : TypeId} {pos : String} {af : Array Edge} {g : Option (Nat × Bool)} {t e : TypeId} {x y : Operand} {size bytes n m c : Nat} {v zv : Value} {L N : List Value} {a : Option Addr}
theorem x_slice3 {e : TypeId} {z u : Operand} {n len cap b off : Nat} {k k' k2 : IntKind} {i j l : Int} (h : P.underlying t = some (.slice e)) (hs : szOf P e = some n) (hx : val F x = some (.slice (some ⟨b, off, none⟩) len cap)) (hy : val F y = some (.int k i)) (hz : val F z = some (.int k' j)) (hu : val F u = some (.int k2 l)) (h0 : 0 ≤ i) (hij : i ≤ j) (hj : j ≤ l) (hl : l ≤ cap) :
    Rd P W0 F H ⟨d, .slice t x (some y) (some z) (some u), ty, pos, af, g⟩ (.slice (some ⟨b, if l.toNat = i.toNat then off else off + i.toNat * n, none⟩) (j.toNat - i.toNat) (l.toNat - i.toNat)) :=
  exec_rd (by simp) (by simp [Op.operands, some_of hx, some_of hy, some_of hz, some_of hu]) fun _ => by
    have hj0 : 0 ≤ j := by omega
    have hl0 : 0 ≤ l := by omega
    have e1 : i ≤ (j.toNat : Int) := by omega
    have e2 : j ≤ (l.toNat : Int) := by omega
    have e3 : j ≤ l := hj
    simp only [execOp, ev_of hx, ev_of hy, ev_of hz, ev_of hu, Option.map_none, Option.map_some, Instr.sliceAt, rd_bind, rd_underlying h, Option.bind_some, Instr.slice, Instr.sliceBounds, rd_pure, Instr.sliceBound, asIntOf, h0, hj0, hl0, hl, e1, e2, and_self, if_true, rd_sizeOf hs, add_at]
    split <;> simp_all
theorem append_worldR {w : World} {r cap : Nat} {post : List Value} (ht : P.underlying t = some (.slice e)) (hs : szOf P e = some size)
    (ho : Own W0 ((r, .cells (L ++ post).toArray e (0, 0)) :: G) w) (hL : L.length = n * size) (hroom : n + m ≤ cap) (hfit : N.length ≤ post.length) (hN : (m = 0 ∧ N = []) ∨ ∃ b off, a = some ⟨b, off, none⟩ ∧ ∀ j u, N[j]? = some u → w.cell? ((⟨b, off, none⟩ : Addr).add j) = some u) (hl : N.length = m * size) (h1 : N.all oneCell = true) :
    ∃ w', (Builtin.append_ #[t, t] ty #[.slice (some ⟨r, 0, none⟩) n cap, .slice a m c]).run P w = .ok (.slice (some ⟨r, 0, none⟩) (n + m) cap) w' ∧ Own W0 ((r, .cells (L ++ N ++ post.drop N.length).toArray e (0, 0)) :: G) w' ∧ Fr ((r, .cells (L ++ post).toArray e (0, 0)) :: G) ((r, .cells (L ++ N ++ post.drop N.length).toArray e (0, 0)) :: G) w w' := by
  unfold szOf at hs
  obtain ⟨i, hi, hi1⟩ := Option.map_eq_some_iff.1 hs
  subst hi1
  rcases Nat.eq_zero_or_pos m with rfl | hm0
  · have : N = [] := List.length_eq_zero_iff.1 (by simpa using hl)
    subst this
    rw [List.append_nil, Nat.add_zero]
    exact ⟨w, run_append_zero w i ht hi _ _ (by omega), ho, Fr.refl _ _⟩
  · obtain ⟨b, off, rfl, hc⟩ := hN.resolve_left fun h => by omega
    have hat := ho.at_ r _ List.mem_cons_self
    have hsz : L.length + N.length ≤ (L ++ post).length := by
      rw [List.length_append]; omega
    refine ⟨_, run_append_room (P := P) w t ty e i ht hi r n cap (L ++ post).toArray hat _ m c N hl hc (fun u hu => by rw [← oneCell_eq]; exact List.all_eq_true.1 h1 u hu) hroom (by rw [← hL]; simpa using hsz), ?_⟩
    have e1 : (List.take (n * i.size) (L ++ post).toArray.toList ++ N ++ List.drop (n * i.size + N.length) (L ++ post).toArray.toList) = L ++ N ++ post.drop N.length := by
      rw [← hL]; simp [List.drop_append]
    rw [e1]
    exact own_row ho
theorem opSF_appendR {r cap : Nat} {post : List Value} (ht : P.underlying t = some (.slice e)) (hs : szOf P e = some size)
    (hx : val F x = some (.slice (some ⟨r, 0, none⟩) n cap)) (hy : val F y = some (.slice a m c)) (hsub : Sub ((r, .cells (L ++ post).toArray e (0, 0)) :: G) H) (hL : L.length = n * size) (hroom : n + m ≤ cap) (hfit : N.length ≤ post.length) (hN : (m = 0 ∧ N = []) ∨ ∃ b off, a = some ⟨b, off, none⟩ ∧ Cells W0 H b off N) (hl : N.length = m * size) (h1 : N.all oneCell = true) :
    OpSF P W0 (lk F) H ⟨d, .call ⟨.builtin .append, #[x, y], #[t, t]⟩, ty, pos, af, g⟩ fun u H' => u = .slice (some ⟨r, 0, none⟩) (n + m) cap ∧ H' = (r, .cells (L ++ N ++ post.drop N.length).toArray e (0, 0)) :: G := by
  intro N' A w Q next hh hd0 hsz ho k
  obtain ⟨w', hr, ho', hf⟩ := append_worldR (P := P) (ty := ty) (c := c) (a := a) (m := m) (N := N) ht hs (ho.sub hsub) hL hroom hfit (hN.imp id fun ⟨b, off, h1, h2⟩ => ⟨b, off, h1, cells_world ho h2⟩) hl h1
  have ex : A.eval x = .slice (some ⟨r, 0, none⟩) n cap := hh x (by simp [Op.operands, Call.operands]) _ (by rw [valf_lk]; exact hx)
  have ey : A.eval y = .slice a m c := hh y (by simp [Op.operands, Call.operands]) _ (by rw [valf_lk]; exact hy)
  unfold Oper.wp
  have he : (execOp A.eval ⟨d, .call ⟨.builtin .append, #[x, y], #[t, t]⟩, ty, pos, af, g⟩).run P w = .ok (.value (.slice (some ⟨r, 0, none⟩) (n + m) cap)) w' := by
    simp only [execOp, resolve, invoke]
    simp [builtin, ex, ey, hr, invoke]
  rw [he, Oper.upon_value]
  exact k _ _ _ ⟨rfl, rfl⟩ ho' (hf.of_keys hsub.keys fun b hb => (Decidable.em (b ∈ keys ((r, Obj.cells (L ++ N ++ post.drop N.length).toArray e (0, 0)) :: G))).elim .inl fun h => absurd hb h)
theorem appendR_fresh {V : SHeap} {r : Nat} {o o' : Obj} {u : Value} (hsub : Sub ((r, o) :: G) V) : FreshH W0 V fun v H' => v = u ∧ H' = (r, o') :: G := fun hw L => by
  refine ⟨_, _, ⟨rfl, rfl⟩, ?_, fun b hb => .inl (hsub.keys b ?_)⟩
  · obtain ⟨F, hF⟩ := hsub
    have h1 := (hF.map Prod.fst).nodup_iff.2 hw.1
    have h2 : (keys (((r, o) :: G) ++ F)).Nodup := h1
    rw [keys_append] at h2
    have h3 := (List.nodup_append.1 h2).1
    rw [keys_cons] at h3 ⊢
    exact h3
  · rw [keys_cons] at hb ⊢; exact hb
end
theorem spl_tail {A post Z : List Value} {k : Nat} (hk : A.length = k) (hz : Z.length ≤ post.length) : Spl (A ++ post) k Z (A ++ (Z ++ post.drop Z.length)) := by
  have h := spl3 (pre := A) (vs := post.take Z.length) (ws := Z) (post := post.drop Z.length) hk (by rw [List.length_take]; omega)
  rwa [List.take_append_drop] at h
section
variable {P : Program} {W0 : World} {F : Fm} {H : SHeap} {d : Option Tmp} {ty : TypeId} {pos : String} {af : Array Edge} {g : Option (Nat × Bool)} {t e : TypeId} {x y z : Operand} {n : Nat}
theorem x_sliceLoHiK {len cap b off : Nat} {k k' : IntKind} {u1 u2 : Int} (i j : Nat) (h : P.underlying t = some (.slice e)) (hs : szOf P e = some n) (hx : val F x = some (.slice (some ⟨b, off, none⟩) len cap)) (hy : val F y = some (.int k u1)) (hz : val F z = some (.int k' u2)) (h1 : u1 = (i : Int)) (h2 : u2 = (j : Int)) (hij : i ≤ j) (hj : j ≤ cap) (hi : i < cap) :
    Rd P W0 F H ⟨d, .slice t x (some y) (some z) none, ty, pos, af, g⟩ (.slice (some ⟨b, off + i * n, none⟩) (j - i) (cap - i)) := by
  subst h1; subst h2
  have := x_sliceLoHi (P := P) (W0 := W0) (F := F) (H := H) (d := d) (ty := ty) (pos := pos) (af := af) (g := g) h hs hx hy hz (by omega) (by omega) (by omega)
  rwa [Int.toNat_natCast, Int.toNat_natCast, if_neg (by omega)] at this
theorem x_sliceLoC {len cap b off : Nat} {k : IntKind} {u : Int} (j : Nat) (h : P.underlying t = some (.slice e)) (hs : szOf P e = some n) (hx : val F x = some (.slice (some ⟨b, off, none⟩) len cap)) (hy : val F y = some (.int k u)) (hj : u = (j : Int)) (hi : j ≤ len) (hlc : len ≤ cap) :
    Rd P W0 F H ⟨d, .slice t x (some y) none none, ty, pos, af, g⟩ (.slice (some ⟨b, if cap = j then off else off + j * n, none⟩) (len - j) (cap - j)) := by
  subst hj
  have := x_sliceLo (P := P) (W0 := W0) (F := F) (H := H) (d := d) (ty := ty) (pos := pos) (af := af) (g := g) h hs hx hy (by omega) (by omega) hlc
  rwa [Int.toNat_natCast] at this
end
/-- What stands behind one element. -/
theorem flat_cut {α : Type} {enc : α → List Value} {W : List α} {i : Nat} {x : α} (hx : W[i]? = some x) (post : List Value) : W.flatMap enc ++ post = (W.take i).flatMap enc ++ (enc x ++ ((W.drop (i + 1)).flatMap enc ++ post)) := by
  obtain ⟨h1, rfl⟩ := List.getElem?_eq_some_iff.1 hx
  have e : W = W.take i ++ (W[i] :: W.drop (i + 1)) := by rw [← List.drop_eq_getElem_cons h1, List.take_append_drop]
  conv => lhs; rw [e]
  rw [List.flatMap_append, List.flatMap_cons]
  simp only [List.append_assoc]
section
variable {α : Type} {q : α → Bool}
/-- How far slices.DeleteFunc has come. -/
def DelI (q : α → Bool) (W : List α) (m k : Nat) (C : List α) : Prop := C.length = W.length ∧ k + 1 ≤ m ∧ m ≤ W.length ∧ C.take k = (W.take m).filter (fun x => !q x) ∧ ∀ j, k ≤ j → C[j]? = W[j]?
theorem DelI.start {W : List α} {k : Nat} {x : α} (h : ∀ j y, j < k → W[j]? = some y → q y = false) (hx : W[k]? = some x) (hq : q x = true) : DelI q W (k + 1) k W := by
  have hk := get_lt hx
  refine ⟨rfl, Nat.le_refl _, hk, ?_, fun j _ => rfl⟩
  have h1 : (W.take k).filter (fun x => !q x) = W.take k := List.filter_eq_self.2 fun y hy => by
    obtain ⟨j, hj⟩ := List.getElem?_of_mem hy
    rw [List.getElem?_take] at hj
    split at hj
    · rw [h j y (by assumption) hj]; rfl
    · cases hj
  rw [takeS hx, List.filter_append, h1, List.filter_cons_of_neg (by rw [hq]; decide), List.filter_nil, List.append_nil]
theorem DelI.put {W C : List α} {m k : Nat} {x : α} (h : DelI q W m k C) (hx : W[m]? = some x) (hq : q x = false) : DelI q W (m + 1) (k + 1) (C.set k x) := by
  have hm := get_lt hx
  have hkC : k < C.length := by have := h.1; have := h.2.1; omega
  refine ⟨by rw [List.length_set]; exact h.1, by have := h.2.1; omega, hm, ?_, fun j hj => ?_⟩
  · rw [takeS hx, List.filter_append, List.filter_cons_of_pos (by rw [hq]; rfl), List.filter_nil, ← h.2.2.2.1]
    have e : (C.set k x)[k]? = some x := List.getElem?_set_self hkC
    rw [takeS e, List.take_set_of_le (Nat.le_refl _)]
  · rw [List.getElem?_set_ne (by omega)]
    exact h.2.2.2.2 j (by omega)
theorem DelI.skip {W C : List α} {m k : Nat} {x : α} (h : DelI q W m k C) (hx : W[m]? = some x) (hq : q x = true) : DelI q W (m + 1) k C := by
  have hm := get_lt hx
  refine ⟨h.1, by have := h.2.1; omega, hm, ?_, h.2.2.2.2⟩
  rw [takeS hx, List.filter_append, List.filter_cons_of_neg (by rw [hq]; decide), List.filter_nil, List.append_nil]
  exact h.2.2.2.1
theorem DelI.done {W C : List α} {m k : Nat} (h : DelI q W m k C) (hm : W.length ≤ m) : C.take k = W.filter (fun x => !q x) ∧ (W.filter (fun x => !q x)).length = k := by
  have h1 := h.2.2.2.1
  rw [List.take_of_length_le hm] at h1
  refine ⟨h1, ?_⟩
  rw [← h1, List.length_take]
  have := h.1
  have := h.2.1
  have := h.2.2.1
  omega
end
end Go.Proofs.YtbcajgkaepihfaaDoor.Sym
