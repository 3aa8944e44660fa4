/- More operations: sums within bounds, literals, structs held against each other, strings, slices that grow. -/
import Derived.Test.YteilocpjikmmdaaSymDraw3
import Derived.Laws.BitsLemmas
import Derived.Laws.Bits64
namespace Go.Proofs.Yteilocpjikmmdaa.Sym
open Go.RowKit (Below)
set_option linter.unusedVariables false
set_option linter.unusedSimpArgs false

theorem Ext.all : ∀ (cs : List Value), Ext cs 0 cs.length cs
  | [] => .done
  | _ :: cs => .take (Ext.all cs)
theorem Spl.all : ∀ {cs vs : List Value}, cs.length = vs.length → Spl cs 0 vs vs
  | [], [], _ => .done
  | _ :: cs, _ :: vs, h => .put (Spl.all (by simpa using h))
  | [], _ :: _, h => by simp at h
  | _ :: _, [], h => by simp at h

theorem i64w {n : Int} (h1 : -9223372036854775808 ≤ n) (h2 : n ≤ 9223372036854775807) : IntKind.i64.wrap n = n := by
  rw [IntKind.wrap_i64]; omega
theorem u64w {n : Int} (h1 : 0 ≤ n) (h2 : n ≤ 18446744073709551615) : IntKind.u64.wrap n = n := by
  rw [IntKind.wrap_u64]; omega
theorem u8w {n : Int} (h1 : 0 ≤ n) (h2 : n ≤ 255) : IntKind.u8.wrap n = n := by
  rw [IntKind.wrap_u8]; omega

section
variable {P : Program} {W0 : World} {F : Fm} {H : SHeap} {ro : Option Nat} {d : Option Tmp} {ty : TypeId} {pos : String} {af : Array Edge} {g : Option (Nat × Bool)} {t t' : TypeId} {x y : Operand} {k : IntKind} {a b c : Int}
theorem x_add' (hx : val F x = some (.int k a)) (hy : val F y = some (.int k b)) (hc : k.wrap (a + b) = c) : Rd P W0 F H ⟨d, .binOp .add t x y t', ty, pos, af, g⟩ (.int k c) := by rw [← hc]; exact x_add hx hy
theorem x_sub' (hx : val F x = some (.int k a)) (hy : val F y = some (.int k b)) (hc : k.wrap (a - b) = c) : Rd P W0 F H ⟨d, .binOp .sub t x y t', ty, pos, af, g⟩ (.int k c) := by rw [← hc]; exact x_sub hx hy
theorem x_mul' (hx : val F x = some (.int k a)) (hy : val F y = some (.int k b)) (hc : k.wrap (a * b) = c) : Rd P W0 F H ⟨d, .binOp .mul t x y t', ty, pos, af, g⟩ (.int k c) := by rw [← hc]; exact x_mul hx hy
theorem x_quo' (hx : val F x = some (.int k a)) (hy : val F y = some (.int k b)) (hb : b ≠ 0) (hc : k.wrap (a.tdiv b) = c) : Rd P W0 F H ⟨d, .binOp .quo t x y t', ty, pos, af, g⟩ (.int k c) := by rw [← hc]; exact x_quo hx hy hb
theorem x_rem' (hx : val F x = some (.int k a)) (hy : val F y = some (.int k b)) (hb : b ≠ 0) (hc : a.tmod b = c) : Rd P W0 F H ⟨d, .binOp .rem t x y t', ty, pos, af, g⟩ (.int k c) := by rw [← hc]; exact x_rem hx hy hb
theorem x_neg' (hx : val F x = some (.int k a)) (hc : k.wrap (0 - a) = c) : Rd P W0 F H ⟨d, .unOp .neg t x, ty, pos, af, g⟩ (.int k c) := by rw [← hc]; exact x_neg hx
theorem x_conv' {t2 : TypeId} {k2 : IntKind} {t1 : TypeId} {d1 : TypeDesc} (h1 : P.underlying t1 = some d1) (h2 : P.underlying t2 = some (.int k2)) (hx : val F x = some (.int k a)) (hc : k2.wrap a = c) : Rd P W0 F H ⟨d, .convert t1 t2 x, ty, pos, af, g⟩ (.int k2 c) := by rw [← hc]; exact x_conv h1 h2 hx
theorem x_cast {v u : Value} {o : Oper} (h : Rd P W0 F H o v) (e : v = u) : Rd P W0 F H o u := e ▸ h

/-! ### literals -/
/-- The parts of a literal laid over its zero value: each part's place, and its cells. -/
inductive Fill (pl : Nat → Option (Nat × Nat)) : List Value → List (Nat × Value) → List Value → Prop
  | done {cs : List Value} : Fill pl cs [] cs
  | part {cs cs1 cs2 vs : List Value} {i off n : Nat} {v : Value} {ps : List (Nat × Value)} (hp : pl i = some (off, n)) (hv : v.cells = vs.toArray) (hn : vs.length = n) (hs : Spl cs off vs cs1) (h : Fill pl cs1 ps cs2) : Fill pl cs ((i, v) :: ps) cs2
theorem foldl_wr (vs : List Value) : ∀ (c : Array Value) (off j : Nat), (vs.zipIdx j).foldl (fun cs (p : Value × Nat) => cs.setIfInBounds (off + p.2) p.1) c = wrCells c (off + j) vs := by
  induction vs with
  | nil => intro c off j; rfl
  | cons v vs ih =>
    intro c off j
    rw [List.zipIdx_cons, List.foldl_cons, ih]
    rfl
theorem fill_of {pl : Nat → Option (Nat × Nat)} {cs cs' : List Value} {ps : List (Nat × Value)} (h : Fill pl cs ps cs') : Instr.fill pl cs.toArray ps = some cs'.toArray := by
  induction h with
  | done => rfl
  | part hp hv hn hs h ih =>
    rename_i cs cs1 cs2 vs i off n v ps
    obtain ⟨h1, h2⟩ := hs.wr []
    simp only [List.nil_append, List.length_nil, Nat.zero_add] at h1
    unfold Instr.fill
    simp only [hp]
    rw [hv]
    have e : (vs.toArray.zipIdx.foldl (fun cs (p : Value × Nat) => cs.setIfInBounds (off + p.2) p.1) cs.toArray) = cs1.toArray := by
      have h3 := foldl_wr vs cs.toArray off 0
      rw [Nat.add_zero] at h3
      rw [← h1, ← h3]; simp
    have hcond : ¬ (vs.toArray.size ≠ n ∨ off + vs.toArray.size > cs.toArray.size) := by
      simp only [List.size_toArray]; omega
    simp only [Bool.or_eq_true, decide_eq_true_eq, ne_eq]
    rw [if_neg (by simpa using hcond)]
    rw [← ih]
    congr 1
def flds (P : Program) (t : TypeId) : Option (List (Nat × Nat)) :=
  match P.underlying t with
  | some (.struct fs) => fs.toList.mapM fun f => (szOf P f.type).map fun n => (f.offset, n)
  | _ => none
inductive Parts (F : Fm) : List (Nat × Operand) → List (Nat × Value) → Prop
  | nil : Parts F [] []
  | cons {i : Nat} {x : Operand} {v : Value} {l : List (Nat × Operand)} {ps : List (Nat × Value)} : val F x = some v → Parts F l ps → Parts F ((i, x) :: l) ((i, v) :: ps)
theorem Parts.eq {l : List (Nat × Operand)} {ps : List (Nat × Value)} (h : Parts F l ps) : l.map (fun p => (p.1, val F p.2)) = ps.map fun p => (p.1, some p.2) := by
  induction h with
  | nil => rfl
  | cons h1 h2 ih => rw [List.map_cons, List.map_cons, ih, h1]
theorem rd_mapM {α β : Type} (f : α → Sem β) (g : α → Option β) (h : ∀ a b, g a = some b → rdSym P W0 H (f a) = some b) : ∀ (l : List α) (r : List β), l.mapM g = some r → rdSym P W0 H (l.mapM f) = some r
  | [], r, hr => by simp at hr; subst hr; rfl
  | a :: l, r, hr => by
    rw [List.mapM_cons] at hr
    obtain ⟨b, h1, h2⟩ := Option.bind_eq_some_iff.1 hr
    obtain ⟨bs, h3, h4⟩ := Option.bind_eq_some_iff.1 h2
    simp at h4; subst h4
    rw [List.mapM_cons, rd_bind, h a b h1, Option.bind_some, rd_bind, rd_mapM f g h l bs h3]; rfl
theorem x_build {z : Value} {zs cs : List Value} {pl : List (Nat × Nat)} {parts : Array (Nat × Operand)} {ps : List (Nat × Value)} (hz : zeroOf P t = some z) (hzc : z.cells = zs.toArray) (hf : flds P t = some pl)
    (hp' : Parts F parts.toList ps) (h : Fill (fun i => pl[i]?) zs ps cs) : Rd P W0 F H ⟨d, .build t parts, ty, pos, af, g⟩ (.agg cs.toArray) := by
  have hval : ∀ (l : List (Nat × Operand)) (r : List (Nat × Value)), l.map (fun p => (p.1, val F p.2)) = r.map (fun p => (p.1, some p.2)) → l.map (fun p => (p.1, ev F p.2)) = r ∧ ∀ p ∈ l, (val F p.2).isSome := by
    intro l
    induction l with
    | nil => intro r hr; cases r with | nil => exact ⟨rfl, by simp⟩ | cons => simp at hr
    | cons p l ih =>
      intro r hr
      cases r with
      | nil => simp at hr
      | cons q r =>
        simp only [List.map_cons, List.cons.injEq, Prod.mk.injEq] at hr
        obtain ⟨⟨h1, h2⟩, h3⟩ := hr
        obtain ⟨e1, e2⟩ := ih r h3
        refine ⟨by rw [List.map_cons, e1, ev_of h2, h1], fun p' hp' => ?_⟩
        rcases List.mem_cons.1 hp' with rfl | hp'
        · exact some_of h2
        · exact e2 p' hp'
  obtain ⟨e1, e2⟩ := hval _ _ hp'.eq
  refine exec_rd (by simp) (fun x hx => ?_) fun _ => ?_
  · simp only [Op.operands, List.mem_toArray, List.mem_map] at hx
    obtain ⟨p, hp1, rfl⟩ := hx
    exact e2 p hp1
  · unfold flds at hf
    split at hf
    · next fs hu =>
      have hmap : rdSym P W0 H (fs.mapM fun f => do Pure.pure (f.offset, ← sizeOf f.type)) = some pl.toArray := by
        rw [Array.mapM_eq_mapM_toList, rd_map, rd_mapM _ _ (fun f b hb => ?_) _ _ hf]
        · rfl
        · obtain ⟨n, h1, h2⟩ := Option.map_eq_some_iff.1 hb
          subst h2
          rw [rd_bind, rd_sizeOf h1]; rfl
      have hparts : (parts.map fun (p : Nat × Operand) => (p.1, ev F p.2)).toList = ps := by rw [Array.toList_map]; exact e1
      have hfill := fill_of h
      simp only [execOp, Instr.build, rd_bind, rd_zero hz, Option.bind_some, rd_underlying hu, hmap, hzc]
      rw [show (fun x => pl.toArray[x]?) = fun i => pl[i]? from by funext i; simp]
      rw [hparts, hfill]; rfl
    · cases hf
/-- An array by value, written out. -/
theorem x_buildA {e : TypeId} {len n : Nat} {z : Value} {zs cs : List Value} {parts : Array (Nat × Operand)} {ps : List (Nat × Value)} (hz : zeroOf P t = some z) (hzc : z.cells = zs.toArray) (hu : P.underlying t = some (.array len e)) (hs : szOf P e = some n)
    (hp' : Parts F parts.toList ps) (h : Fill (fun i => some (i * n, n)) zs ps cs) : Rd P W0 F H ⟨d, .build t parts, ty, pos, af, g⟩ (.agg cs.toArray) := by
  have hval : ∀ (l : List (Nat × Operand)) (r : List (Nat × Value)), l.map (fun p => (p.1, val F p.2)) = r.map (fun p => (p.1, some p.2)) → l.map (fun p => (p.1, ev F p.2)) = r ∧ ∀ p ∈ l, (val F p.2).isSome := by
    intro l
    induction l with
    | nil => intro r hr; cases r with | nil => exact ⟨rfl, by simp⟩ | cons => simp at hr
    | cons p l ih =>
      intro r hr
      cases r with
      | nil => simp at hr
      | cons q r =>
        simp only [List.map_cons, List.cons.injEq, Prod.mk.injEq] at hr
        obtain ⟨⟨h1, h2⟩, h3⟩ := hr
        obtain ⟨e1, e2⟩ := ih r h3
        refine ⟨by rw [List.map_cons, e1, ev_of h2, h1], fun p' hp' => ?_⟩
        rcases List.mem_cons.1 hp' with rfl | hp'
        · exact some_of h2
        · exact e2 p' hp'
  obtain ⟨e1, e2⟩ := hval _ _ hp'.eq
  refine exec_rd (by simp) (fun x hx => ?_) fun _ => ?_
  · simp only [Op.operands, List.mem_toArray, List.mem_map] at hx
    obtain ⟨p, hp1, rfl⟩ := hx
    exact e2 p hp1
  · have hparts : (parts.map fun (p : Nat × Operand) => (p.1, ev F p.2)).toList = ps := by rw [Array.toList_map]; exact e1
    simp only [execOp, Instr.build, rd_bind, rd_zero hz, Option.bind_some, rd_underlying hu, rd_sizeOf hs, hzc]
    rw [hparts, fill_of h]; rfl
theorem cells_rep (zs : List Value) (n : Nat) (hn : zs.length = n) (len : Nat) : (Array.range (len * n)).map (fun i => zs.toArray[i % zs.toArray.size]!) = ((List.range len).flatMap fun _ => zs).toArray := by
  apply Array.toList_inj.1
  rw [Array.toList_map, Array.toList_range]
  simp only [List.size_toArray, hn]
  induction len with
  | zero => simp
  | succ len ih =>
    rw [Nat.add_mul, Nat.one_mul, List.range_add, List.map_append, List.map_map, ih, List.range_succ, List.flatMap_append]
    simp only [List.flatMap_cons, List.flatMap_nil, List.append_nil, List.append_cancel_left_eq]
    apply List.ext_getElem
    · simp [hn]
    · intro i h1 h2
      have hi : i < n := by simpa using h1
      have : (len * n + i) % n = i := by rw [Nat.mul_comm, Nat.mul_add_mod, Nat.mod_eq_of_lt hi]
      simp [this, h2]
theorem parts_of {parts : Array (Nat × Operand)} {ps : List (Nat × Value)} (hp : parts.toList.map (fun p => (p.1, val F p.2)) = ps.map fun p => (p.1, some p.2)) :
    (parts.map fun (p : Nat × Operand) => (p.1, ev F p.2)).toList = ps ∧ ∀ p ∈ parts.toList, (val F p.2).isSome := by
  have hval : ∀ (l : List (Nat × Operand)) (r : List (Nat × Value)), l.map (fun p => (p.1, val F p.2)) = r.map (fun p => (p.1, some p.2)) → l.map (fun p => (p.1, ev F p.2)) = r ∧ ∀ p ∈ l, (val F p.2).isSome := by
    intro l
    induction l with
    | nil => intro r hr; cases r with | nil => exact ⟨rfl, by simp⟩ | cons => simp at hr
    | cons p l ih =>
      intro r hr
      cases r with
      | nil => simp at hr
      | cons q r =>
        simp only [List.map_cons, List.cons.injEq, Prod.mk.injEq] at hr
        obtain ⟨⟨h1, h2⟩, h3⟩ := hr
        obtain ⟨e1, e2⟩ := ih r h3
        refine ⟨by rw [List.map_cons, e1, ev_of h2, h1], fun p' hp' => ?_⟩
        rcases List.mem_cons.1 hp' with rfl | hp'
        · exact some_of h2
        · exact e2 p' hp'
  obtain ⟨e1, e2⟩ := hval _ _ hp
  exact ⟨by rw [Array.toList_map]; exact e1, e2⟩
/-- A slice, written out whole. -/
theorem x_buildSlice {e : TypeId} {len n : Nat} {z : Value} {zs cs : List Value} {parts : Array (Nat × Operand)} {ps : List (Nat × Value)} (hu : P.underlying t = some (.slice e)) (hs : szOf P e = some n) (hz : zeroOf P e = some z) (hzc : z.cells = zs.toArray) (hzn : zs.length = n) (hln : Nat.ble (len * n) 16777216 = true) (hl0 : Nat.beq (len * n) 0 = false)
    (hp' : Parts F parts.toList ps) (h : Fill (fun i => some (i * n, n)) ((List.range len).flatMap fun _ => zs) ps cs) (r : Nat) : Exec P W0 F H ⟨d, .buildSlice t len parts, ty, pos, af, g⟩ (some r) (.slice (some ⟨r, 0, none⟩) len len) ((r, .cells cs.toArray e (0, 0)) :: H) := by
  obtain ⟨e1, e2⟩ := parts_of hp'.eq
  refine ⟨by simp, fun x hx => ?_, fun hw => .inl (runSym_map _ _ ?_)⟩
  · simp only [Op.operands, List.mem_toArray, List.mem_map] at hx
    obtain ⟨p, hp1, rfl⟩ := hx
    exact e2 p hp1
  · have h1 := Nat.le_of_ble_eq_true hln
    have h2 : ¬ len * n = 0 := fun e => by rw [e] at hl0; cases hl0
    simp only [Instr.buildSlice]
    rw [runSym_bind _ (rd_run _ (rd_underlying hu))]
    simp only []
    rw [runSym_bind _ (rd_run _ (rd_sizeOf hs))]
    rw [if_neg (by omega), if_neg h2]
    rw [runSym_bind _ (rd_run _ (rd_zero hz))]
    rw [runSym_bind _ (rd_run _ (rd_pure z.cells))]
    rw [hzc, cells_rep zs n hzn, e1, fill_of h]
    rfl

/-- A slice of no elements, written out. -/
theorem x_buildSlice0 {e : TypeId} {n : Nat} {parts : Array (Nat × Operand)} (hu : P.underlying t = some (.slice e)) (hs : szOf P e = some n) (hp : parts = #[]) (r : Nat) : Exec P W0 F H ⟨d, .buildSlice t 0 parts, ty, pos, af, g⟩ (some r) (.slice (some ⟨r, 0, none⟩) 0 0) ((r, .cells #[] e (0, 0)) :: H) := by
  subst hp
  refine ⟨by simp, fun x hx => by simp [Op.operands] at hx, fun hw => .inl (runSym_map _ _ ?_)⟩
  simp only [Instr.buildSlice]
  rw [runSym_bind _ (rd_run _ (rd_underlying hu))]
  simp only []
  rw [runSym_bind _ (rd_run _ (rd_sizeOf hs))]
  simp only [Nat.zero_mul]
  rw [if_neg (by omega), if_pos trivial]
  rw [runSym_bind _ (rd_run _ (rd_pure _))]
  have e1 : Array.range 0 = #[] := by simp
  rw [e1, List.map_toArray, List.map_nil, List.map_toArray, List.map_nil]
  rfl
theorem Sub.drop {G H : SHeap} {e : Nat × Obj} (h : Sub G H) : Sub G (e :: H) := by
  obtain ⟨E, hE⟩ := h
  exact ⟨E ++ [e], by rw [← List.append_assoc]; exact (List.perm_append_singleton _ _).trans (hE.cons e)⟩
theorem Sub.keep {G H : SHeap} {e : Nat × Obj} (h : Sub G H) : Sub (e :: G) (e :: H) := by
  obtain ⟨E, hE⟩ := h
  exact ⟨E, hE.cons e⟩
theorem sub_right (E H : SHeap) : Sub H (E ++ H) := ⟨E, List.perm_append_comm⟩
theorem dr_drop {R : Reg} {X : SHeap} {i : Nat} {L : List (Nat × SHeap)} {K : Fm → SHeap → Prop} (h : K F H) : DR P W0 R X i [] F H L K := fun _ =>
  ⟨F, H, rfl, Sub.trans ⟨X, List.Perm.refl _⟩ (sub_right _ _), h⟩
theorem dr_dropX {R : Reg} {X : SHeap} {i : Nat} {L : List (Nat × SHeap)} {K : Fm → SHeap → Prop} (h : K F (H ++ X)) : DR P W0 R X i [] F H L K := fun _ =>
  ⟨F, H ++ X, rfl, sub_right _ _, h⟩
end
end Go.Proofs.Yteilocpjikmmdaa.Sym
