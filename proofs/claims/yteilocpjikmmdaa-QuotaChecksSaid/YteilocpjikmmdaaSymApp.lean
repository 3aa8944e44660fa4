/- Slices of one's own that grow: append, by kit lemmas over the world. -/
import Derived.Test.YteilocpjikmmdaaSymStr
import Derived.Laws.AppendOwn
namespace Go.Proofs.Yteilocpjikmmdaa.Sym
open Go.RowKit (Below)
set_option linter.unusedVariables false
set_option linter.unusedSimpArgs false
/-- A slice of one's own of n elements, with all that it holds: nil, or a whole block. -/
inductive OwnVec (size : Nat) (e : TypeId) : Value → Nat → List Value → SHeap → Prop
  | nil : OwnVec size e (.slice none 0 0) 0 [] []
  | mk {r n cap : Nat} {L post : List Value} (hl : L.length = n * size) (hp : post.length = (cap - n) * size) (hn : n ≤ cap) (hc : cap ≤ 9223372036854775807) : OwnVec size e (.slice (some ⟨r, 0, none⟩) n cap) n L [(r, .cells (L ++ post).toArray e (0, 0))]
theorem OwnVec.cells {size : Nat} {e : TypeId} {r n cap m : Nat} {L : List Value} {E G : SHeap} {W0 : World} (h : OwnVec size e (.slice (some ⟨r, 0, none⟩) n cap) m L E) : Cells W0 (E ++ G) r 0 L := by
  cases h with
  | mk hl hp hn hc => exact cells_own (pre := []) (List.mem_append_left _ List.mem_cons_self) rfl
theorem own_drew {W0 w : World} {H : SHeap} (h : Own W0 H w) : Own W0 H w.drew ∧ Fr H H w w.drew :=
  ⟨⟨h.below.trans ⟨rfl, rfl, rfl, Nat.le_refl _, fun _ _ => rfl⟩, h.nd, h.ge, h.at_⟩, Nat.le_refl _, fun _ _ _ => rfl, fun _ h => .inl h⟩
theorem cells_world {W0 w : World} {H : SHeap} {b off : Nat} {vs : List Value} (ho : Own W0 H w) (h : Cells W0 H b off vs) : ∀ j u, vs[j]? = some u → w.cell? ((⟨b, off, none⟩ : Addr).add j) = some u := by
  intro j u hj
  obtain ⟨c, e, fz, h1, h2⟩ := h
  have := ho.obj (h1 ho.wf)
  rw [add_at, cell?_of (a := ⟨b, off + j, none⟩) this]
  have h3 := h2 j u hj
  simpa [cellOf] using h3
section
variable {P : Program} {W0 : World} {F : Fm} {G H E : SHeap} {d : Option Tmp} {ty : TypeId} {pos : String} {af : Array Edge} {g : Option (Nat × Bool)} {t e : TypeId} {x y : Operand} {size bytes n m c : Nat} {v zv : Value} {L N : List Value} {a : Option Addr}
theorem run_append_zero (w : World) (i : TypeInfo) (ht : P.underlying t = some (.slice e)) (hi : P.info? e = some i) (base : Option Addr) (cap : Nat) (hn : n ≤ cap) :
    (Builtin.append_ #[t, t] ty #[.slice base n cap, .slice a 0 c]).run P w = .ok (.slice base n cap) w := by
  have hf : (Builtin.firstCells i.size 0 (.slice a 0 c)).run P w = .ok #[] w := by
    cases a with
    | none => exact run_firstCells_none (P := P) w i.size 0 0 c
    | some b => exact run_firstCells_some (P := P) w i.size 0 b 0 c [] (by simp) (by simp)
  cases base with
  | none => simp [Builtin.append_, run_underlying ht, sizeOf, typeInfo, hi, Builtin.lenOf, hn, hf]
  | some b => simp [Builtin.append_, run_underlying ht, sizeOf, typeInfo, hi, Builtin.lenOf, hn, hf, storeCells]
theorem oneCell_eq (v : Value) : oneCell v = v.oneCell' := by cases v <;> rfl
theorem zeroCells_len (z : Array Value) (n : Nat) : (Builtin.zeroCells z n).toList.length = n * z.size := by rw [Array.length_toList, size_zeroCells]
theorem own_row {W0 w : World} {G : SHeap} {r : Nat} {cs cs' : List Value} {e : TypeId} (h : Own W0 ((r, .cells cs.toArray e (0, 0)) :: G) w) : Own W0 ((r, .cells cs'.toArray e (0, 0)) :: G) (w.setRow r cs'.toArray) ∧ Fr ((r, .cells cs.toArray e (0, 0)) :: G) ((r, .cells cs'.toArray e (0, 0)) :: G) w (w.setRow r cs'.toArray) := by
  have h0 := h.at_ r _ List.mem_cons_self
  have hw := own_write (o' := .cells cs'.toArray e (0, 0)) h (find_of_mem h.nd List.mem_cons_self) (h.ge r (by rw [keys_cons]; exact List.mem_cons_self)) (w' := w.setRow r cs'.toArray) (by simp [World.setRow]) (fun k hk => by simp [World.setRow, Array.getElem?_modify, Ne.symm hk]) (by simp [World.setRow, Array.getElem?_modify, h0]) rfl rfl rfl
  rwa [Repl.upd Repl.here h.nd] at hw
theorem append_world {w : World} (ht : P.underlying t = some (.slice e)) (hs : szOf P e = some size) (hz : zeroOf P e = some zv) (hzc : zv.cells.size = size) (hby : bytesOf P e = some bytes)
    (hV : OwnVec size e v n L E) (ho : Own W0 (E ++ G) w) (hN : (m = 0 ∧ N = []) ∨ ∃ b off, a = some ⟨b, off, none⟩ ∧ ∀ j u, N[j]? = some u → w.cell? ((⟨b, off, none⟩ : Addr).add j) = some u) (hl : N.length = m * size) (h1 : N.all oneCell = true) (hb : (n + m) * bytes ≤ 140737488355328) (hm : n + m ≤ 9223372036854775807) :
    ∃ u E' w', (Builtin.append_ #[t, t] ty #[v, .slice a m c]).run P w = .ok u w' ∧ OwnVec size e u (n + m) (L ++ N) E' ∧ Own W0 (E' ++ G) w' ∧ Fr (E ++ G) (E' ++ G) w w' := by
  unfold szOf at hs; unfold zeroOf at hz; unfold bytesOf at hby
  obtain ⟨i, hi, hi1⟩ := Option.map_eq_some_iff.1 hs
  have hi2 : i.zero = some zv := by rw [hi] at hz; simpa using hz
  have hi3 : i.bytes = bytes := by rw [hi] at hby; simpa using hby
  rcases Nat.eq_zero_or_pos m with rfl | hm0
  · have : N = [] := List.length_eq_zero_iff.1 (by simpa using hl)
    subst this
    rw [List.append_nil, Nat.add_zero]
    cases hV with
    | nil => exact ⟨_, [], w, run_append_zero w i ht hi none 0 (by omega), .nil, ho, Fr.refl _ _⟩
    | mk g1 g2 g3 g4 => exact ⟨_, _, w, run_append_zero w i ht hi _ _ g3, .mk g1 g2 g3 g4, ho, Fr.refl _ _⟩
  · obtain ⟨b, off, rfl, hc⟩ := hN.resolve_left fun h => by omega
    subst hi1; subst hi3
    have hd := own_drew ho
    cases hV with
    | nil =>
      refine ⟨_, [(w.heap.size, .cells (N ++ (Builtin.zeroCells zv.cells (grownCap w m 0 e - m)).toList).toArray e (0, 0))], _, run_append_nil (P := P) w t ty e i zv ht hi hi2 _ m c N hl hc hm0 (by omega) (by rw [Nat.zero_add] at hb; omega), ?_⟩
      · rw [Nat.zero_add, List.nil_append]
        exact ⟨.mk hl (by rw [zeroCells_len, hzc]) (grownCap_ge w m 0 e) (grownCap_le_maxLen w m 0 e (by unfold maxLen; omega)), by
          have hn := own_new hd.1 (.cells (N ++ (Builtin.zeroCells zv.cells (grownCap w m 0 e - m)).toList).toArray e (0, 0))
          have e1 : N.toArray ++ Builtin.zeroCells zv.cells (grownCap w m 0 e - m) = (N ++ (Builtin.zeroCells zv.cells (grownCap w m 0 e - m)).toList).toArray := by apply Array.ext'; simp
          rw [e1]
          exact ⟨hn.1, hd.2.trans hn.2⟩⟩
    | @mk r _ cap _ post g1 g2 g3 g4 =>
      have holds : ∀ j u, L[j]? = some u → w.cell? ((⟨r, 0, none⟩ : Addr).add j) = some u := cells_world ho (cells_own (pre := []) (List.mem_append_left _ List.mem_cons_self) rfl)
      rcases Nat.lt_or_ge cap (n + m) with hcap | hcap
      · refine ⟨_, [(w.heap.size, .cells (L ++ N ++ (Builtin.zeroCells zv.cells (grownCap w (n + m) cap e - (n + m))).toList).toArray e (0, 0))], _, run_append_grow (P := P) w t ty e i zv ht hi hi2 _ n cap L g1 holds _ m c N hl hc hcap (by omega) (growslice_fits hcap hb), ?_⟩
        · refine ⟨.mk (by rw [List.length_append, g1, hl, Nat.add_mul]) (by rw [zeroCells_len, hzc]) (grownCap_ge w _ _ e) (grownCap_le_maxLen w _ _ e (by unfold maxLen; omega)), ?_⟩
          have hn := own_new hd.1 (.cells (L ++ N ++ (Builtin.zeroCells zv.cells (grownCap w (n + m) cap e - (n + m))).toList).toArray e (0, 0))
          have e1 : L.toArray ++ N.toArray ++ Builtin.zeroCells zv.cells (grownCap w (n + m) cap e - (n + m)) = (L ++ N ++ (Builtin.zeroCells zv.cells (grownCap w (n + m) cap e - (n + m))).toList).toArray := by apply Array.ext'; simp
          rw [e1]
          have hsub : Sub ((w.heap.size, Obj.cells (L ++ N ++ (Builtin.zeroCells zv.cells (grownCap w (n + m) cap e - (n + m))).toList).toArray e (0, 0)) :: G) ((w.heap.size, Obj.cells (L ++ N ++ (Builtin.zeroCells zv.cells (grownCap w (n + m) cap e - (n + m))).toList).toArray e (0, 0)) :: ([(r, Obj.cells (L ++ post).toArray e (0, 0))] ++ G)) :=
            ⟨[(r, Obj.cells (L ++ post).toArray e (0, 0))], by simp⟩
          exact ⟨hn.1.sub hsub, (hd.2.trans hn.2).of_keys (fun b hb => hb) fun b hb => .inl (hsub.keys b hb)⟩
      · have hat := ho.at_ r _ (List.mem_append_left _ List.mem_cons_self)
        have hsz : L.length + N.length ≤ (L ++ post).length := by
          rw [List.length_append, g2, hl]
          have : m * i.size ≤ (cap - n) * i.size := Nat.mul_le_mul_right _ (by omega)
          omega
        refine ⟨_, [(r, .cells (L ++ N ++ post.drop N.length).toArray e (0, 0))], _, run_append_room (P := P) w t ty e i ht hi r n cap (L ++ post).toArray hat _ m c N hl hc (fun u hu => by rw [← oneCell_eq]; exact List.all_eq_true.1 h1 u hu) hcap (by rw [← g1]; simpa using hsz), ?_⟩
        · refine ⟨.mk (by rw [List.length_append, g1, hl, Nat.add_mul]) (by rw [List.length_drop, g2, hl, ← Nat.sub_mul]; congr 1; omega) (by omega) g4, ?_⟩
          have e1 : (List.take (n * i.size) (L ++ post).toArray.toList ++ N ++ List.drop (n * i.size + N.length) (L ++ post).toArray.toList) = L ++ N ++ post.drop N.length := by
            rw [← g1]; simp [List.drop_append]
          rw [e1]
          exact own_row ho
theorem opS_append (ht : P.underlying t = some (.slice e)) (hs : szOf P e = some size) (hz : zeroOf P e = some zv) (hzc : zv.cells.size = size) (hby : bytesOf P e = some bytes)
    (hx : val F x = some v) (hy : val F y = some (.slice a m c)) (hV : OwnVec size e v n L E) (hsub : Sub (E ++ G) H) (hN : (m = 0 ∧ N = []) ∨ ∃ b off, a = some ⟨b, off, none⟩ ∧ Cells W0 H b off N) (hl : N.length = m * size) (h1 : N.all oneCell = true) (hb : (n + m) * bytes ≤ 140737488355328) (hm : n + m ≤ 9223372036854775807) :
    OpS P W0 F H ⟨d, .call ⟨.builtin .append, #[x, y], #[t, t]⟩, ty, pos, af, g⟩ fun u H' => ∃ E', OwnVec size e u (n + m) (L ++ N) E' ∧ H' = E' ++ G := by
  intro N' A w Q next hh ho k
  obtain ⟨u, E', w', hr, hV', ho', hf⟩ := append_world (ty := ty) (c := c) (a := a) (m := m) (N := N) ht hs hz hzc hby hV (ho.sub hsub) (hN.imp id fun ⟨b, off, h1, h2⟩ => ⟨b, off, h1, cells_world ho h2⟩) hl h1 hb hm
  unfold Oper.wp
  have he : (execOp A.eval ⟨d, .call ⟨.builtin .append, #[x, y], #[t, t]⟩, ty, pos, af, g⟩).run P w = .ok (.value u) w' := by
    simp only [execOp, resolve, invoke]
    simp [builtin, hh.val hx, hh.val hy, hr, invoke]
  rw [he, Oper.upon_value]
  exact k _ _ _ ⟨E', hV', rfl⟩ ho' (hf.of_keys hsub.keys fun b hb => (Decidable.em (b ∈ keys (E' ++ G))).elim .inl fun h => absurd hb h)
end
theorem Sub.app {E G H : SHeap} (h : Sub G H) : Sub (E ++ G) (E ++ H) := by
  obtain ⟨F, hF⟩ := h
  exact ⟨F, by rw [List.append_assoc]; exact hF.append_left E⟩
theorem Sub.dropE {E G H : SHeap} (h : Sub G H) : Sub G (E ++ H) := by
  obtain ⟨F, hF⟩ := h
  refine ⟨F ++ E, ?_⟩
  rw [← List.append_assoc]
  exact (hF.append_right E).trans List.perm_append_comm
theorem Repl.app {b : Nat} {o o' : Obj} {E H H' : SHeap} (h : Repl b o o' H H') : Repl b o o' (E ++ H) (E ++ H') := by
  induction E with
  | nil => exact h
  | cons a E ih => exact .there ih
theorem AC.sub {P : Program} {W0 : World} {f : FuncId} {args : List Value} {G H : SHeap} {R : Value → SHeap → Prop} (hs : Sub G H) (h : AC P W0 f args G R) : AC P W0 f args H R :=
  fun w ho => (h w (ho.sub hs)).mono fun e w' ⟨v, H', he, hR, ho', hf⟩ => ⟨v, H', he, hR, ho', hf.of_keys hs.keys fun b hb => .inl hb⟩
/-- A block, or a part, taken out of a list. -/
inductive Take (x : Nat × Obj) : SHeap → SHeap → Prop
  | here {H : SHeap} : Take x (x :: H) H
  | there {a : Nat × Obj} {H H' : SHeap} : Take x H H' → Take x (a :: H) (a :: H')
  | app {E H H' : SHeap} : Take x H H' → Take x (E ++ H) (E ++ H')
inductive TakeE (E : SHeap) : SHeap → SHeap → Prop
  | here {H : SHeap} : TakeE E (E ++ H) H
  | there {a : Nat × Obj} {H H' : SHeap} : TakeE E H H' → TakeE E (a :: H) (a :: H')
  | app {F H H' : SHeap} : TakeE E H H' → TakeE E (F ++ H) (F ++ H')
theorem Take.perm {x : Nat × Obj} {H H' : SHeap} (h : Take x H H') : (x :: H').Perm H := by
  induction h with
  | here => exact .refl _
  | there _ ih => exact (List.Perm.swap _ _ _).trans (ih.cons _)
  | app _ ih => exact List.perm_middle.symm.trans (ih.append_left _)
theorem TakeE.perm {E H H' : SHeap} (h : TakeE E H H') : (E ++ H').Perm H := by
  induction h with
  | here => exact .refl _
  | there _ ih => exact List.perm_middle.trans (ih.cons _)
  | @app F A B _ ih =>
    rw [← List.append_assoc]
    exact ((List.perm_append_comm (l₁ := E) (l₂ := F)).append_right B).trans (by rw [List.append_assoc]; exact ih.append_left F)
theorem Sub.take {x : Nat × Obj} {G H H' : SHeap} (h : Take x H H') (k : Sub G H') : Sub (x :: G) H := (Sub.keep k).trans (.of_perm h.perm)
theorem Sub.takeE {E G H H' : SHeap} (h : TakeE E H H') (k : Sub G H') : Sub (E ++ G) H := (Sub.app k).trans (.of_perm h.perm)
theorem Sub.nil (H : SHeap) : Sub [] H := ⟨H, by simp⟩
theorem exists_fresh (l : List Nat) (k : Nat) : ∃ r, k ≤ r ∧ r ∉ l := by
  have : ∃ m, ∀ x ∈ l, x < m := by
    induction l with
    | nil => exact ⟨0, by simp⟩
    | cons a l ih =>
      obtain ⟨m, hm⟩ := ih
      exact ⟨max m (a + 1), fun x hx => by
        rcases List.mem_cons.1 hx with rfl | hx
        · omega
        · have := hm x hx; omega⟩
  obtain ⟨m, hm⟩ := this
  exact ⟨max m k, by omega, fun h => by have := hm _ h; omega⟩
theorem OwnVec.len {size : Nat} {e : TypeId} {v : Value} {n : Nat} {L : List Value} {E : SHeap} (h : OwnVec size e v n L E) : L.length = n * size := by
  cases h with
  | nil => simp
  | mk hl hp hn hc => exact hl
theorem append_fresh {W0 : World} {V E G : SHeap} {size : Nat} {e : TypeId} {v : Value} {n m : Nat} {L N : List Value} (hV : OwnVec size e v n L E) (hl : N.length = m * size) (hm : n + m ≤ 9223372036854775807) (hsub : Sub (E ++ G) V) :
    FreshH W0 V fun u H' => ∃ E', OwnVec size e u (n + m) (L ++ N) E' ∧ H' = E' ++ G := by
  intro hw l
  obtain ⟨r, h1, h2⟩ := exists_fresh (l ++ keys G) W0.heap.size
  rw [List.mem_append, not_or] at h2
  have hnd : (keys (E ++ G)).Nodup := by
    obtain ⟨F, hF⟩ := hsub
    have hp : (keys (E ++ G ++ F)).Perm (keys V) := hF.map _
    have := hp.nodup_iff.2 hw.1
    rw [keys_append] at this
    exact (List.nodup_append.1 this).1
  refine ⟨_, _, ⟨[(r, .cells (L ++ N ++ []).toArray e (0, 0))], .mk (n := n + m) (cap := n + m) (by rw [List.length_append, hV.len, hl, Nat.add_mul]) (by simp) (Nat.le_refl _) hm, rfl⟩, ?_, ?_⟩
  · rw [List.singleton_append, keys_cons, List.nodup_cons]
    rw [keys_append] at hnd
    exact ⟨h2.2, (List.nodup_append.1 hnd).2.1⟩
  · intro b hb
    rw [List.singleton_append, keys_cons] at hb
    rcases List.mem_cons.1 hb with rfl | hb
    · exact .inr ⟨h1, h2.1⟩
    · exact .inl (hsub.keys b (by rw [keys_append]; exact List.mem_append_right _ hb))
section
variable {P : Program} {W0 : World} {F : Fm} {G H E : SHeap} {d : Option Tmp} {ty : TypeId} {pos : String} {af : Array Edge} {g : Option (Nat × Bool)} {t e : TypeId} {x y : Operand} {size bytes n m c : Nat} {v zv : Value} {L N : List Value} {a : Option Addr}
theorem opSF_append (ht : P.underlying t = some (.slice e)) (hs : szOf P e = some size) (hz : zeroOf P e = some zv) (hzc : zv.cells.size = size) (hby : bytesOf P e = some bytes)
    (hx : val F x = some v) (hy : val F y = some (.slice a m c)) (hV : OwnVec size e v n L E) (hsub : Sub (E ++ G) H) (hN : (m = 0 ∧ N = []) ∨ ∃ b off, a = some ⟨b, off, none⟩ ∧ Cells W0 H b off N) (hl : N.length = m * size) (h1 : N.all oneCell = true) (hb : (n + m) * bytes ≤ 140737488355328) (hm : n + m ≤ 9223372036854775807) :
    OpSF P W0 (lk F) H ⟨d, .call ⟨.builtin .append, #[x, y], #[t, t]⟩, ty, pos, af, g⟩ fun u H' => ∃ E', OwnVec size e u (n + m) (L ++ N) E' ∧ H' = E' ++ G := by
  intro N' A w Q next hh hd0 hsz ho k
  obtain ⟨u, E', w', hr, hV', ho', hf⟩ := append_world (ty := ty) (c := c) (a := a) (m := m) (N := N) ht hs hz hzc hby hV (ho.sub hsub) (hN.imp id fun ⟨b, off, h1, h2⟩ => ⟨b, off, h1, cells_world ho h2⟩) hl h1 hb hm
  have ex : A.eval x = v := hh x (by simp [Op.operands, Call.operands]) v (by rw [valf_lk]; exact hx)
  have ey : A.eval y = .slice a m c := hh y (by simp [Op.operands, Call.operands]) _ (by rw [valf_lk]; exact hy)
  unfold Oper.wp
  have he : (execOp A.eval ⟨d, .call ⟨.builtin .append, #[x, y], #[t, t]⟩, ty, pos, af, g⟩).run P w = .ok (.value u) w' := by
    simp only [execOp, resolve, invoke]
    simp [builtin, ex, ey, hr, invoke]
  rw [he, Oper.upon_value]
  exact k _ _ _ ⟨E', hV', rfl⟩ ho' (hf.of_keys hsub.keys fun b hb => (Decidable.em (b ∈ keys (E' ++ G))).elim .inl fun h => absurd hb h)
end
/-- A slice of one's own, as a slice that is read. -/
theorem OwnVec.slv {α : Type} {size : Nat} {e : TypeId} {v : Value} {n : Nat} {enc : α → List Value} {xs : List α} {E : SHeap} (h : OwnVec size e v n (xs.flatMap enc) E) (hn : ∀ x, (enc x).length = size) (hxs : n = xs.length) :
    ∃ a cap, v = .slice a xs.length cap ∧ ∀ {W0 : World} {H : SHeap}, Sub E H → SlV W0 H size enc a cap xs := by
  obtain ⟨L, hL⟩ : ∃ L, L = xs.flatMap enc := ⟨_, rfl⟩
  rw [← hL] at h
  cases h with
  | nil =>
    have : xs = [] := List.length_eq_zero_iff.1 hxs.symm
    subst this
    exact ⟨none, 0, rfl, fun _ => slv_nil⟩
  | @mk r n cap L post hl hp hn2 hc =>
    subst hxs
    subst hL
    exact ⟨some ⟨r, 0, none⟩, cap, rfl, fun hs => ⟨hn2, hc, fun i x hx => ⟨r, 0, rfl, by
      rw [Nat.zero_add]; exact (cells_flat hn (H := [(r, .cells (xs.flatMap enc ++ post).toArray e (0, 0))]) List.mem_cons_self hx).mono hs⟩⟩⟩
theorem spl_mid {cs cs' vs post : List Value} {k : Nat} (h : Spl cs k vs cs') : Spl (cs ++ post) k vs (cs' ++ post) := by
  induction h with
  | done => exact .done
  | put _ ih => exact .put ih
  | skip _ ih => exact .skip ih
/-- A field of an element is written. -/
theorem spl_fld {α : Type} {n : Nat} {enc : α → List Value} (hn : ∀ x, (enc x).length = n) {xs : List α} {post : List Value} {i k : Nat} {x x' : α} {v : Value} (hx : xs[i]? = some x) (hk : Spl (enc x) k [v] (enc x')) : Spl (xs.flatMap enc ++ post) (i * n + k) [v] ((xs.set i x').flatMap enc ++ post) := by
  have hi : i < xs.length := get_lt hx
  have h2 : xs[i] = x := by rw [List.getElem?_eq_getElem hi] at hx; simpa using hx
  have h1 : xs = xs.take i ++ x :: xs.drop (i + 1) := by rw [← h2, ← List.drop_eq_getElem_cons hi, List.take_append_drop]
  have h3 : xs.set i x' = xs.take i ++ x' :: xs.drop (i + 1) := by rw [List.set_eq_take_append_cons_drop, if_pos hi]
  have e1 : xs.flatMap enc ++ post = (xs.take i).flatMap enc ++ (enc x ++ ((xs.drop (i + 1)).flatMap enc ++ post)) := by
    conv => lhs; rw [h1]
    rw [List.flatMap_append, List.flatMap_cons, List.append_assoc, List.append_assoc]
  have e2 : (xs.set i x').flatMap enc ++ post = (xs.take i).flatMap enc ++ (enc x' ++ ((xs.drop (i + 1)).flatMap enc ++ post)) := by
    rw [h3, List.flatMap_append, List.flatMap_cons, List.append_assoc, List.append_assoc]
  rw [e1, e2]
  have h4 := spl_skip (pre := (xs.take i).flatMap enc) (spl_mid (post := (xs.drop (i + 1)).flatMap enc ++ post) hk)
  rwa [flat_len hn, List.length_take, Nat.min_eq_left (by omega)] at h4
theorem OwnVec.blk {size : Nat} {e : TypeId} {b off n cap m : Nat} {L : List Value} {E : SHeap} (h : OwnVec size e (.slice (some ⟨b, off, none⟩) n cap) m L E) : off = 0 ∧ n = m ∧ ∃ post, E = [(b, .cells (L ++ post).toArray e (0, 0))] ∧ L.length = n * size ∧ post.length = (cap - n) * size ∧ n ≤ cap ∧ cap ≤ 9223372036854775807 := by
  cases h with
  | @mk r n cap L post hl hp hn hc => exact ⟨rfl, rfl, post, rfl, hl, hp, hn, hc⟩
theorem spl_fld0 {α : Type} {n : Nat} {enc : α → List Value} (hn : ∀ x, (enc x).length = n) {xs : List α} {post : List Value} {i k : Nat} {x x' : α} {v : Value} (hx : xs[i]? = some x) (hk : Spl (enc x) k [v] (enc x')) : Spl (xs.flatMap enc ++ post) (0 + i * n + k) [v] ((xs.set i x').flatMap enc ++ post) := by
  rw [Nat.zero_add]; exact spl_fld hn hx hk
theorem OwnVec.isSl {size : Nat} {e : TypeId} {v : Value} {n : Nat} {L : List Value} {E : SHeap} (h : OwnVec size e v n L E) : ∃ a cap, v = .slice a n cap := by
  cases h with
  | nil => exact ⟨_, _, rfl⟩
  | mk hl hp hn hc => exact ⟨_, _, rfl⟩
theorem OwnVec.slv' {α : Type} {size : Nat} {e : TypeId} {a : Option Addr} {n cap : Nat} {enc : α → List Value} {xs : List α} {E : SHeap} (h : OwnVec size e (.slice a n cap) n (xs.flatMap enc) E) (hn : ∀ x, (enc x).length = size) (hxs : n = xs.length) {W0 : World} {H : SHeap} (hs : Sub E H) : SlV W0 H size enc a cap xs := by
  obtain ⟨a', cap', h1, h2⟩ := h.slv hn hxs
  injection h1 with h1 _ h3
  subst h1; subst h3
  exact h2 hs
theorem Sub.takeE0 {E H H' : SHeap} (h : TakeE E H H') : Sub E H := ⟨H', h.perm⟩
theorem cells_flat0 {α : Type} {n : Nat} {enc : α → List Value} (hn : ∀ x, (enc x).length = n) {W0 : World} {H : SHeap} {b : Nat} {e : TypeId} {fz : Nat × Nat} {xs : List α} {post : List Value} (hm : (b, Obj.cells (xs.flatMap enc ++ post).toArray e fz) ∈ H) {i : Nat} {x : α} (hx : xs[i]? = some x) : Cells W0 H b (0 + i * n) (enc x) := by
  rw [Nat.zero_add]; exact cells_flat hn hm hx
theorem set_get {α : Type} {xs : List α} {k : Nat} {x y : α} (h : xs[k]? = some x) : (xs.set k y)[k]? = some y := by
  rw [List.getElem?_set_self (get_lt h)]
theorem OwnVec.pos {size : Nat} {e : TypeId} {a : Option Addr} {n cap m : Nat} {L : List Value} {E : SHeap} (h : OwnVec size e (.slice a n cap) m L E) (hm : 0 < m) : ∃ b, a = some ⟨b, 0, none⟩ ∧ ∀ {W0 : World} {H : SHeap}, Sub E H → Cells W0 H b 0 L := by
  cases h with
  | nil => omega
  | @mk r n cap L post hl hp hn hc => exact ⟨r, rfl, fun hs => (cells_own (pre := []) (H := [(r, .cells (L ++ post).toArray e (0, 0))]) List.mem_cons_self rfl).mono hs⟩
/-- A slice that is read, as one row of cells. -/
theorem flat_get {α : Type} {n : Nat} {enc : α → List Value} (hn : ∀ x, (enc x).length = n) (h0 : 0 < n) : ∀ {xs : List α} {i : Nat} {v : Value}, (xs.flatMap enc)[i]? = some v → ∃ k x j, xs[k]? = some x ∧ (enc x)[j]? = some v ∧ i = k * n + j
  | [], i, v, h => by simp at h
  | y :: xs, i, v, h => by
    rw [List.flatMap_cons, List.getElem?_append] at h
    split at h
    · exact ⟨0, y, i, rfl, h, by omega⟩
    · next hi =>
      obtain ⟨k, x, j, h1, h2, h3⟩ := flat_get hn h0 h
      rw [hn] at h3 hi
      exact ⟨k + 1, x, j, by simpa using h1, h2, by rw [Nat.add_mul]; omega⟩
theorem SlV.flat {α : Type} {W0 : World} {H : SHeap} {n : Nat} {enc : α → List Value} {a : Option Addr} {cap : Nat} {xs : List α} (h : SlV W0 H n enc a cap xs) (hn : ∀ x, (enc x).length = n) (h0 : 0 < n) : (xs.length = 0 ∧ xs.flatMap enc = []) ∨ ∃ b off, a = some ⟨b, off, none⟩ ∧ Cells W0 H b off (xs.flatMap enc) := by
  cases hx : xs with
  | nil => exact .inl ⟨rfl, rfl⟩
  | cons y ys =>
    refine .inr ?_
    rw [← hx]
    obtain ⟨b, off, ha, c, e, fz, g1, g2⟩ := h.at_ 0 y (by rw [hx]; rfl)
    refine ⟨b, off, ha, ?_⟩
    by_cases hw : Wf W0 H
    · refine ⟨c, e, fz, g1, fun i v hv => ?_⟩
      obtain ⟨k, x, j, k1, k2, rfl⟩ := flat_get hn h0 hv
      obtain ⟨b', off', ha', c', e', fz', f1, f2⟩ := h.at_ k x k1
      rw [ha] at ha'
      cases ha'
      have q := (g1 hw).symm.trans (f1 hw)
      cases q
      have := f2 j v k2
      rwa [Nat.add_assoc] at this
    · refine ⟨(List.replicate off (Value.bool true) ++ xs.flatMap enc).toArray, e, fz, fun hw' => absurd hw' hw, fun i v hv => ?_⟩
      rw [List.getElem?_toArray, List.getElem?_append_right (by simp), List.length_replicate, Nat.add_sub_cancel_left]; exact hv
end Go.Proofs.Yteilocpjikmmdaa.Sym
