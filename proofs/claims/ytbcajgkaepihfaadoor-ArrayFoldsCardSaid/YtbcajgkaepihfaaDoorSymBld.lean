/- What strings.Builder needs: append of a text's bytes, bytes as a text that lie in a row of one's own, pointers turned to unsafe.Pointer and back, entries that count and find a byte. -/
import Derived.Test.YtbcajgkaepihfaaDoorSymApp
import Derived.Test.YtbcajgkaepihfaaDoorSymIns
import Derived.Test.YtbcajgkaepihfaaDoorStrLaw
import Derived.Lib.UnsafeStr
import Derived.Lib.Bytealg
namespace Go.Proofs.YtbcajgkaepihfaaDoor.Sym
open Go.RowKit (Below)
set_option linter.unusedVariables false
set_option linter.unusedSimpArgs false
/-- Bytes as cells. -/
@[reducible] def byC (l : List UInt8) : List Value := l.map fun c : UInt8 => .int .u8 c.toNat
theorem byC_len (l : List UInt8) : (byC l).length = l.length := by simp [byC]
theorem byC_app (l m : List UInt8) : byC (l ++ m) = byC l ++ byC m := by simp [byC]
theorem byC_one (l : List UInt8) : (byC l).all oneCell = true := by simp [byC, oneCell]
theorem strCells_bs (l : List UInt8) : Go.Lib.strCells (bs l) = byC l := rfl
section
variable {P : Program} {W0 : World} {F : Fm} {G H E : SHeap} {d : Option Tmp} {ty : TypeId} {pos : String} {af : Array Edge} {g : Option (Nat × Bool)} {t t2 e : TypeId} {x y : Operand} {size n m c : Nat} {v : Value} {L : List Value} {l : List UInt8}
theorem append_worldS {w : World} (ht : P.underlying t = some (.slice e)) (hu : P.underlying t2 = some .string) (hs : szOf P e = some 1) (hz : zeroOf P e = some (.int .u8 0)) (hby : bytesOf P e = some 1)
    (hV : OwnVec 1 e v n L E) (ho : Own W0 (E ++ G) w) (hb : n + l.length ≤ 140737488355328) :
    ∃ u E' w', (Builtin.append_ #[t, t2] ty #[v, .string (bs l)]).run P w = .ok u w' ∧ OwnVec 1 e u (n + l.length) (L ++ byC l) E' ∧ Own W0 (E' ++ G) w' ∧ Fr (E ++ G) (E' ++ G) w w' := by
  unfold szOf at hs; unfold zeroOf at hz; unfold bytesOf at hby
  obtain ⟨i, hi, hi1⟩ := Option.map_eq_some_iff.1 hs
  have hi2 : i.zero = some (.int .u8 0) := by rw [hi] at hz; simpa using hz
  have hi3 : i.bytes = 1 := by rw [hi] at hby; simpa using hby
  have hsz : (bs l).size = l.length := bs_size l
  have hd := own_drew ho
  have hzc : (Value.int IntKind.u8 0).cells.size = 1 := rfl
  by_cases hl : l = []
  · subst hl
    have hf := Go.Lib.run_firstCells_string (P := P) w 1 (bs [])
    have e0 : (bs []).size = 0 := rfl
    have e1 : Go.Lib.strCells (bs []) = [] := rfl
    rw [e0, e1] at hf
    have e2 : L ++ byC [] = L := List.append_nil L
    rw [e2, List.length_nil, Nat.add_zero]
    cases hV with
    | nil => exact ⟨_, [], w, by simp [Builtin.append_, run_underlying ht, run_underlying hu, sizeOf, typeInfo, hi, hi1, Builtin.lenOf, e0, hf], .nil, ho, Fr.refl _ _⟩
    | mk g1 g2 g3 g4 => exact ⟨_, _, w, by simp [Builtin.append_, run_underlying ht, run_underlying hu, sizeOf, typeInfo, hi, hi1, Builtin.lenOf, e0, hf, g3, storeCells], .mk g1 g2 g3 g4, ho, Fr.refl _ _⟩
  · have hl0 : 0 < l.length := List.length_pos_iff.2 hl
    cases hV with
    | nil =>
      have hr := run_append_nil_string (P := P) (ty := ty) w t t2 e i (.int .u8 0) ht hu hi hi2 (bs l) (by omega) (by omega) (by rw [hi3]; omega)
      rw [hsz] at hr
      refine ⟨_, [(w.heap.size, .cells (byC l ++ (Builtin.zeroCells (Value.int .u8 0).cells (grownCap w l.length 0 e - l.length)).toList).toArray e (0, 0))], _, hr, ?_⟩
      rw [Nat.zero_add, List.nil_append]
      refine ⟨.mk (by rw [byC_len, Nat.mul_one]) (by rw [zeroCells_len, hzc]) (grownCap_ge w l.length 0 e) (grownCap_le_maxLen w l.length 0 e (by unfold maxLen; omega)), ?_⟩
      have hn := own_new hd.1 (.cells (byC l ++ (Builtin.zeroCells (Value.int .u8 0).cells (grownCap w l.length 0 e - l.length)).toList).toArray e (0, 0))
      have e1 : ((bs l).data.map fun b => Value.int .u8 b.toNat) ++ Builtin.zeroCells (Value.int .u8 0).cells (grownCap w l.length 0 e - l.length) = (byC l ++ (Builtin.zeroCells (Value.int .u8 0).cells (grownCap w l.length 0 e - l.length)).toList).toArray := by apply Array.ext'; simp [bs, byC]
      rw [e1]
      exact ⟨hn.1, hd.2.trans hn.2⟩
    | @mk r _ cap _ post g1 g2 g3 g4 =>
      have holds : ∀ j u, L[j]? = some u → w.cell? ((⟨r, 0, none⟩ : Addr).add j) = some u := cells_world ho (cells_own (pre := []) (List.mem_append_left _ List.mem_cons_self) rfl)
      rcases Nat.lt_or_ge cap (n + l.length) with hcap | hcap
      · have hr := Go.Lib.run_append_grow_string (P := P) (ty := ty) w t t2 e i (.int .u8 0) ht hu hi hi2 ⟨r, 0, none⟩ n cap L (by rw [hi1]; exact g1) holds (bs l) (by rw [hsz]; exact hcap) (by rw [hsz]; omega) (by rw [hi3]; exact growslice_fits (by rw [hsz]; exact hcap) (by rw [hsz]; omega))
        rw [hsz] at hr
        refine ⟨_, [(w.heap.size, .cells (L ++ byC l ++ (Builtin.zeroCells (Value.int .u8 0).cells (grownCap w (n + l.length) cap e - (n + l.length))).toList).toArray e (0, 0))], _, hr, ?_⟩
        refine ⟨.mk (by rw [List.length_append, g1, byC_len, Nat.mul_one, Nat.mul_one]) (by rw [zeroCells_len, hzc]) (grownCap_ge w _ _ e) (grownCap_le_maxLen w _ _ e (by unfold maxLen; omega)), ?_⟩
        have hn := own_new hd.1 (.cells (L ++ byC l ++ (Builtin.zeroCells (Value.int .u8 0).cells (grownCap w (n + l.length) cap e - (n + l.length))).toList).toArray e (0, 0))
        have e1 : L.toArray ++ (Go.Lib.strCells (bs l)).toArray ++ Builtin.zeroCells (Value.int .u8 0).cells (grownCap w (n + l.length) cap e - (n + l.length)) = (L ++ byC l ++ (Builtin.zeroCells (Value.int .u8 0).cells (grownCap w (n + l.length) cap e - (n + l.length))).toList).toArray := by apply Array.ext'; simp [strCells_bs]
        rw [e1]
        have hsub : Sub ((w.heap.size, Obj.cells (L ++ byC l ++ (Builtin.zeroCells (Value.int .u8 0).cells (grownCap w (n + l.length) cap e - (n + l.length))).toList).toArray e (0, 0)) :: G) ((w.heap.size, Obj.cells (L ++ byC l ++ (Builtin.zeroCells (Value.int .u8 0).cells (grownCap w (n + l.length) cap e - (n + l.length))).toList).toArray e (0, 0)) :: ([(r, Obj.cells (L ++ post).toArray e (0, 0))] ++ G)) :=
          ⟨[(r, Obj.cells (L ++ post).toArray e (0, 0))], by simp⟩
        exact ⟨hn.1.sub hsub, (hd.2.trans hn.2).of_keys (fun b hb => hb) fun b hb => .inl (hsub.keys b hb)⟩
      · have hat := ho.at_ r _ (List.mem_append_left _ List.mem_cons_self)
        have hfit : n + l.length ≤ (L ++ post).length := by rw [List.length_append, g2, g1]; omega
        have hr := Go.Lib.run_append_room_string (P := P) (ty := ty) w t t2 e i ht hu hi hi1 r n cap (L ++ post).toArray hat (bs l) (by rw [hsz]; exact hcap) (by rw [hsz]; simpa using hfit)
        rw [hsz] at hr
        refine ⟨_, [(r, .cells (L ++ byC l ++ post.drop l.length).toArray e (0, 0))], _, hr, ?_⟩
        refine ⟨.mk (by rw [List.length_append, g1, byC_len]; omega) (by rw [List.length_drop, g2]; omega) (by omega) g4, ?_⟩
        have e1 : (List.take n (L ++ post).toArray.toList ++ Go.Lib.strCells (bs l) ++ List.drop (n + l.length) (L ++ post).toArray.toList) = L ++ byC l ++ post.drop l.length := by
          have g1' : L.length = n := by omega
          rw [strCells_bs, ← g1']; simp [List.drop_append]
        rw [e1]
        exact own_row ho
theorem opS_appendS (ht : P.underlying t = some (.slice e)) (hu : P.underlying t2 = some .string) (hs : szOf P e = some 1) (hz : zeroOf P e = some (.int .u8 0)) (hby : bytesOf P e = some 1)
    (hx : val F x = some v) (hy : val F y = some (.string (bs l))) (hV : OwnVec 1 e v n L E) (hsub : Sub (E ++ G) H) (hb : n + l.length ≤ 140737488355328) :
    OpS P W0 F H ⟨d, .call ⟨.builtin .append, #[x, y], #[t, t2]⟩, ty, pos, af, g⟩ fun u H' => ∃ E', OwnVec 1 e u (n + l.length) (L ++ byC l) E' ∧ H' = E' ++ G := by
  intro N' A w Q next hh ho k
  obtain ⟨u, E', w', hr, hV', ho', hf⟩ := append_worldS (ty := ty) (l := l) ht hu hs hz hby hV (ho.sub hsub) hb
  unfold Oper.wp
  have he : (execOp A.eval ⟨d, .call ⟨.builtin .append, #[x, y], #[t, t2]⟩, ty, pos, af, g⟩).run P w = .ok (.value u) w' := by
    simp only [execOp, resolve, invoke]
    simp [builtin, hh.val hx, hh.val hy, hr, invoke]
  rw [he, Oper.upon_value]
  exact k _ _ _ ⟨E', hV', rfl⟩ ho' (hf.of_keys hsub.keys fun b hb => (Decidable.em (b ∈ keys (E' ++ G))).elim .inl fun h => absurd hb h)
theorem opSF_appendS (ht : P.underlying t = some (.slice e)) (hu : P.underlying t2 = some .string) (hs : szOf P e = some 1) (hz : zeroOf P e = some (.int .u8 0)) (hby : bytesOf P e = some 1)
    (hx : val F x = some v) (hy : val F y = some (.string (bs l))) (hV : OwnVec 1 e v n L E) (hsub : Sub (E ++ G) H) (hb : n + l.length ≤ 140737488355328) :
    OpSF P W0 (lk F) H ⟨d, .call ⟨.builtin .append, #[x, y], #[t, t2]⟩, ty, pos, af, g⟩ fun u H' => ∃ E', OwnVec 1 e u (n + l.length) (L ++ byC l) E' ∧ H' = E' ++ G := by
  intro N' A w Q next hh hd0 hsz ho k
  obtain ⟨u, E', w', hr, hV', ho', hf⟩ := append_worldS (ty := ty) (l := l) ht hu hs hz hby hV (ho.sub hsub) hb
  have ex : A.eval x = v := hh x (by simp [Op.operands, Call.operands]) v (by rw [valf_lk]; exact hx)
  have ey : A.eval y = .string (bs l) := hh y (by simp [Op.operands, Call.operands]) _ (by rw [valf_lk]; exact hy)
  unfold Oper.wp
  have he : (execOp A.eval ⟨d, .call ⟨.builtin .append, #[x, y], #[t, t2]⟩, ty, pos, af, g⟩).run P w = .ok (.value u) w' := by
    simp only [execOp, resolve, invoke]
    simp [builtin, ex, ey, hr, invoke]
  rw [he, Oper.upon_value]
  exact k _ _ _ ⟨E', hV', rfl⟩ ho' (hf.of_keys hsub.keys fun b hb => (Decidable.em (b ∈ keys (E' ++ G))).elim .inl fun h => absurd hb h)
/-! ### bytes of a row of one's own as a text: the row is given up -/
theorem own_less {w w' : World} {r : Nat} {o : Obj} (ho : Own W0 ((r, o) :: G) w) (hs : w'.heap.size = w.heap.size) (hk : ∀ b, b ≠ r → w'.heap[b]? = w.heap[b]?) (hos : w'.os = w.os) (htp : w'.tape = w.tape) (hout : w'.output = w.output) :
    Own W0 G w' ∧ Fr ((r, o) :: G) G w w' := by
  have hnd := ho.nd
  rw [keys_cons, List.nodup_cons] at hnd
  have hr : W0.heap.size ≤ r := ho.ge r (by rw [keys_cons]; exact List.mem_cons_self)
  refine ⟨⟨ho.below.trans ⟨hos, htp, hout, by omega, fun k hk' => hk k (by omega)⟩, hnd.2, fun b hb => ho.ge b (by rw [keys_cons]; exact List.mem_cons_of_mem _ hb), fun b o' hm => ?_⟩, by omega, fun b hb hn => hk b (fun e => hn (by rw [keys_cons, e]; exact List.mem_cons_self)), fun b hb => .inl (by rw [keys_cons]; exact List.mem_cons_of_mem _ hb)⟩
  rw [hk b (fun e => hnd.1 (e ▸ mem_keys hm))]
  exact ho.at_ b o' (List.mem_cons_of_mem _ hm)
/-- unsafe.String(unsafe.SliceData(v), n). -/
def sdata : Value → Value
  | .slice a _ _ => .pointer a
  | v => v
theorem x_sliceData (hV : OwnVec 1 e v n L E) (h0 : n = 0 → v = .slice none 0 0) (hx : val F x = some v) : Rd P W0 F H ⟨d, .call ⟨.builtin .unsafeSliceData, #[x], #[t]⟩, ty, pos, af, g⟩ (sdata v) :=
  exec_rd (by simp) (by simp [Op.operands, Call.operands, some_of hx]) fun _ => rd_builtin rfl rfl (ev_of hx) (by
    have key : ∀ ts ty, rdSym P W0 H (Builtin.unsafeSliceData_ ts ty #[v]) = some (sdata v) := fun ts ty => by
      cases hV with
      | nil => rfl
      | @mk r _ cap _ post g1 g2 g3 g4 =>
        have hn : n ≠ 0 := fun e => by cases h0 e
        obtain ⟨k, rfl⟩ : ∃ k, cap = k + 1 := ⟨cap - 1, by omega⟩
        rfl
    simp [builtin, key, rd_bind, rd_pure, rd_map])
theorem opS_unsafeStr {pt it : TypeId} (hp : P.underlying pt = some (.pointer e)) (hc : P.cellsOf e = 1) (hV : OwnVec 1 e v n (byC l) E) (h0 : n = 0 → v = .slice none 0 0) (hx : val F x = some (sdata v)) (hy : val F y = some (.int .i64 n)) (hsub : Sub (E ++ G) H) (hn : n ≤ 9223372036854775807) :
    OpS P W0 F H ⟨d, .call ⟨.builtin .unsafeString, #[x, y], #[pt, it]⟩, ty, pos, af, g⟩ fun u H' => u = .string (bs l) ∧ H' = G := by
  intro N' A w Q next hh ho k
  have hll : l.length = n := by have := hV.len; rw [byC_len] at this; omega
  have hkey : ∃ w', (Builtin.unsafeString_ #[pt, it] ty #[sdata v, .int .i64 n]).run P w = .ok (.string (bs l)) w' ∧ Own W0 G w' ∧ Fr H G w w' := by
    generalize hL : byC l = L at hV
    cases hV with
    | nil =>
      obtain rfl : l = [] := List.length_eq_zero_iff.1 hll
      exact ⟨w, Go.Lib.run_unsafeString_none (P := P) w pt it ty none, ho.sub hsub, (Fr.refl H w).of_keys (fun b h => h) fun b hb => .inl (hsub.keys b hb)⟩
    | @mk r _ cap _ post g1 g2 g3 g4 =>
      subst hL
      have hne : n ≠ 0 := fun e => by cases h0 e
      have hl0 : l ≠ [] := fun e => by subst e; exact hne hll.symm
      have ho2 := ho.sub hsub
      have hat := ho2.at_ r _ (List.mem_append_left _ List.mem_cons_self)
      have hsh : w.shape? r = some (e, (byC l ++ post).length) := by simp [World.shape?, hat]
      have hcell : ∀ j x, l[j]? = some x → w.cell? ((⟨r, 0, none⟩ : Addr).add j) = some (.int .u8 x.toNat) := fun j x hj =>
        cells_world ho2 (cells_own (pre := []) (vs := byC l) (List.mem_append_left _ List.mem_cons_self) rfl) j _ (by simp [byC, hj])
      have hr := Go.Lib.run_unsafeString_row (P := P) w pt it ty e hp hc r _ hsh l hl0 (by rw [List.length_append, byC_len]; omega) (by omega) hcell
      rw [hll] at hr
      have hof := own_less (w' := w.freeze ⟨r, 0, none⟩ n) (G := G) ho2 (by unfold World.freeze; split <;> simp) (fun b hb => by unfold World.freeze; split <;> simp [Array.getElem?_modify, Ne.symm hb]) (by unfold World.freeze; split <;> rfl) (by unfold World.freeze; split <;> rfl) (by unfold World.freeze; split <;> rfl)
      exact ⟨_, hr, hof.1, hof.2.of_keys (fun b hb => hsub.keys b hb) fun b hb => .inl hb⟩
  obtain ⟨w', hr, ho', hf⟩ := hkey
  unfold Oper.wp
  have he : (execOp A.eval ⟨d, .call ⟨.builtin .unsafeString, #[x, y], #[pt, it]⟩, ty, pos, af, g⟩).run P w = .ok (.value (.string (bs l))) w' := by
    simp only [execOp, resolve, invoke]
    simp [builtin, hh.val hx, hh.val hy, hr, invoke]
  rw [he, Oper.upon_value]
  exact k _ _ _ ⟨rfl, rfl⟩ ho' hf
/-! ### pointers -/
theorem rd_shape {b : Nat} {cs : Array Value} {fz : Nat × Nat} (h : objAt W0 H b = some (.cells cs e fz)) : rdSym P W0 H (shape b) = some (some (e, cs.size)) := by simp [shape, rdSym, h, shapeOf]
theorem x_nePtrSame {te : TypeId} {a : Addr} (h : P.underlying t = some (.pointer te)) (hs : szOf P te = some size) (h0 : size ≠ 0) (hx : val F x = some (.pointer (some a))) (hy : val F y = some (.pointer (some a))) :
    Rd P W0 F H ⟨d, .binOp .neq t x y t2, ty, pos, af, g⟩ (.bool false) :=
  exec_neq (c := true) hx hy (by unfold eqGuard; simp [rd_pure]) rfl (by
    unfold Op.equal Op.maxDepth Op.equalIn
    rw [rd_bind, rd_underlying h]
    simp [rd_bind, rd_sizeOf hs, h0, sameAddr, rd_pure, rd_map])
theorem x_toUnsafe {te e2 : TypeId} {b : Nat} {cs : List Value} (h1 : P.underlying t = some (.pointer te)) (h2 : P.underlying t2 = some .unsafePointer) (hs : szOf P te = some size) (h0 : size ≠ 0) (hx : val F x = some (.pointer (some ⟨b, 0, none⟩))) (hm : (b, .cells cs.toArray e2 (0, 0)) ∈ H) (hc : 0 < cs.length) :
    Rd P W0 F H ⟨d, .convert t t2 x, ty, pos, af, g⟩ (.pointer (some ⟨b, 0, none⟩)) :=
  exec_rd (by simp) (by simp [Op.operands, some_of hx]) fun hw => by
    have s1 : rdSym P W0 H (shape b) = some (some (e2, cs.toArray.size)) := rd_shape (hw.obj hm)
    have hc2 : ¬ cs = [] := fun e => by subst e; exact Nat.lt_irrefl _ hc
    simp [execOp, ev_of hx, convert, rd_bind, rd_underlying h1, rd_underlying h2, Conv.unsafePointer, Conv.seenAt, viewAt, cellsIn, s1, rd_pure, rd_sizeOf hs, h0, hc2]
theorem x_fromUnsafe {u e2 : TypeId} {b : Nat} {cs : List Value} (h1 : P.underlying t = some .unsafePointer) (h2 : P.underlying t2 = some (.pointer u)) (hs : szOf P u = some size) (hx : val F x = some (.pointer (some ⟨b, 0, none⟩))) (hm : (b, .cells cs.toArray e2 (0, 0)) ∈ H)
    (hl : liesAt P P.depth e2 (cs.length / P.cellsOf e2) 0 u 1 = true) :
    Rd P W0 F H ⟨d, .convert t t2 x, ty, pos, af, g⟩ (.pointer (some ⟨b, 0, none⟩)) :=
  exec_rd (by simp) (by simp [Op.operands, some_of hx]) fun hw => by
    have s1 : rdSym P W0 H (shape b) = some (some (e2, cs.toArray.size)) := rd_shape (hw.obj hm)
    simp [execOp, ev_of hx, convert, rd_bind, rd_underlying h1, rd_underlying h2, Conv.unsafePointer, Conv.seenAt, viewAt, s1, rd_pure, rd_sizeOf hs, variablesAt, rd_program, hl]
/-! ### entries -/
theorem rd_noEscape {v : Value} : rdSym P W0 H (Extern.AbiNoEscape.same #[v]) = some v := rfl
theorem foldl_cnt (c : UInt8) : ∀ (l : List UInt8) (k : Int), l.foldl (fun (n : Int) x => if x == c then n + 1 else n) k = k + (cntB c l : Nat)
  | [], k => by simp [cntB]
  | x :: l, k => by
    rw [List.foldl_cons, foldl_cnt c l]
    unfold cntB
    by_cases h : x == c
    · rw [if_pos h, List.filter_cons_of_pos (p := fun x => x == c) h, List.length_cons]; omega
    · rw [if_neg h, List.filter_cons_of_neg (p := fun x => x == c) h]
theorem rd_count {l : List UInt8} {c : UInt8} : rdSym P W0 H (Extern.BytealgCount.count #[.string (bs l), .int .u8 c.toNat]) = some (.int .i64 (cntB c l : Nat)) := by
  have e1 : Extern.Bytes.bytesOf (.string (bs l)) = Pure.pure (bs l) := rfl
  have e2 : Extern.Bytes.asByte (.int .u8 c.toNat) = Pure.pure c := by simp [Extern.Bytes.asByte]
  have e3 : (bs l).foldl (fun n x => if x == c then n + 1 else n) (((0 : Nat) : Int)) = (cntB c l : Nat) := by
    rw [Go.Lib.foldl_data]
    have := foldl_cnt c l ((0 : Nat) : Int)
    rw [this]; omega
  have e0 : Extern.BytealgCount.count #[.string (bs l), .int .u8 c.toNat] = (do
      let b ← Extern.Bytes.bytesOf (.string (bs l))
      let c ← Extern.Bytes.asByte (.int .u8 c.toNat)
      Pure.pure (goInt (b.foldl (fun n x => if x == c then n + 1 else n) (0 : Nat)))) := rfl
  rw [e0]
  simp only [e1, e2, rd_bind, rd_pure, Option.bind_some, e3, goInt]
theorem bs_bang {l : List UInt8} {i : Nat} {x : UInt8} (h : l[i]? = some x) : (bs l)[i]! = x := by
  have hi := List.getElem?_eq_some_iff.1 h
  obtain ⟨hi, hx⟩ := hi
  have h2 : i < (bs l).size := by rw [bs_size]; exact hi
  rw [getElem!_pos (bs l) i h2]
  exact hx
theorem rd_indexByte {w r : List UInt8} {c : UInt8} (hw : c ∉ w) : rdSym P W0 H (Extern.BytealgIndexByte.indexByte #[.string (bs (w ++ c :: r)), .int .u8 c.toNat]) = some (.int .i64 w.length) := by
  have e1 : Extern.Bytes.bytesOf (.string (bs (w ++ c :: r))) = Pure.pure (bs (w ++ c :: r)) := rfl
  have e2 : Extern.Bytes.asByte (.int .u8 c.toNat) = Pure.pure c := by simp [Extern.Bytes.asByte]
  have e3 : (List.range (bs (w ++ c :: r)).size).find? (fun i => (bs (w ++ c :: r))[i]! == c) = some w.length := by
    rw [List.find?_range_eq_some]
    refine ⟨?_, ?_, fun j hj => ?_⟩
    · rw [bs_bang (x := c) (by simp)]; simp
    · rw [List.mem_range, bs_size]; simp
    · obtain ⟨x, hx⟩ : ∃ x, w[j]? = some x := ⟨w[j], List.getElem?_eq_getElem hj⟩
      rw [bs_bang (x := x) (by rw [List.getElem?_append_left hj]; exact hx)]
      have : x ≠ c := fun e => hw (e ▸ List.mem_of_getElem? hx)
      simpa using this
  have e0 : Extern.BytealgIndexByte.indexByte #[.string (bs (w ++ c :: r)), .int .u8 c.toNat] = (do
      let b ← Extern.Bytes.bytesOf (.string (bs (w ++ c :: r)))
      let c ← Extern.Bytes.asByte (.int .u8 c.toNat)
      match (List.range b.size).find? fun i => b[i]! == c with
      | some i => Pure.pure (goInt i)
      | none => Pure.pure (goInt (-1))) := rfl
  rw [e0]
  simp only [e1, e2, rd_bind, rd_pure, Option.bind_some, goInt, e3 ]
theorem rd_indexByteN {l : List UInt8} {c : UInt8} (hl : c ∉ l) : rdSym P W0 H (Extern.BytealgIndexByte.indexByte #[.string (bs l), .int .u8 c.toNat]) = some (.int .i64 (-1)) := by
  have e1 : Extern.Bytes.bytesOf (.string (bs l)) = Pure.pure (bs l) := rfl
  have e2 : Extern.Bytes.asByte (.int .u8 c.toNat) = Pure.pure c := by simp [Extern.Bytes.asByte]
  have e3 : (List.range (bs l).size).find? (fun i => (bs l)[i]! == c) = none := by
    rw [List.find?_eq_none]
    intro j hj
    rw [List.mem_range, bs_size] at hj
    rw [bs_bang (x := l[j]) (List.getElem?_eq_getElem hj)]
    have : l[j] ≠ c := fun e => hl (e ▸ List.getElem_mem hj)
    simpa using this
  have e0 : Extern.BytealgIndexByte.indexByte #[.string (bs l), .int .u8 c.toNat] = (do
      let b ← Extern.Bytes.bytesOf (.string (bs l))
      let c ← Extern.Bytes.asByte (.int .u8 c.toNat)
      match (List.range b.size).find? fun i => b[i]! == c with
      | some i => Pure.pure (goInt i)
      | none => Pure.pure (goInt (-1))) := rfl
  rw [e0]
  simp only [e1, e2, rd_bind, rd_pure, Option.bind_some, goInt, e3 ]
end
/-! ### texts by their bytes -/
section
variable {P : Program} {W0 : World} {F : Fm} {H : SHeap} {d : Option Tmp} {ty : TypeId} {pos : String} {af : Array Edge} {g : Option (Nat × Bool)} {t t2 : TypeId} {x y : Operand} {l m : List UInt8} {k : IntKind}
theorem x_eqB (hx : val F x = some (.string (bs l))) (hy : val F y = some (.string (bs m))) : Rd P W0 F H ⟨d, .binOp .eql t x y t2, ty, pos, af, g⟩ (.bool (decide (l = m))) :=
  x_cast (x_eqS hx hy) (congrArg Value.bool (by rw [decide_eq_decide]; exact bs_inj))
theorem x_neB (hx : val F x = some (.string (bs l))) (hy : val F y = some (.string (bs m))) : Rd P W0 F H ⟨d, .binOp .neq t x y t2, ty, pos, af, g⟩ (.bool (decide (l ≠ m))) :=
  x_cast (x_neS hx hy) (congrArg Value.bool (by rw [decide_eq_decide]; exact not_congr bs_inj))
theorem x_catB (hx : val F x = some (.string (bs l))) (hy : val F y = some (.string (bs m))) (hs : l.length + m.length ≤ 9223372036854775807) : Rd P W0 F H ⟨d, .binOp .add t x y t2, ty, pos, af, g⟩ (.string (bs (l ++ m))) :=
  x_cast (x_cat hx hy (by rw [bs_size, bs_size]; exact hs)) (congrArg Value.string (bs_append l m))
theorem x_indexB {i : Int} {c : UInt8} (n : Nat) (h : P.underlying t = some .string) (hx : val F x = some (.string (bs l))) (hy : val F y = some (.int k i)) (hi : i = (n : Int)) (hc : l[n]? = some c) :
    Rd P W0 F H ⟨d, .index t x y, ty, pos, af, g⟩ (.int .u8 c.toNat) := by
  subst hi
  exact x_indexS h hx hy (by omega) (by rw [Int.toNat_natCast, bs_get]; exact hc)
theorem x_lenB (h : P.underlying t = some .string) (hx : val F x = some (.string (bs l))) : Rd P W0 F H ⟨d, .call ⟨.builtin .len, #[x], #[t]⟩, ty, pos, af, g⟩ (.int .i64 l.length) := x_cast (x_lenStr h hx) (by rw [bs_size])
theorem x_sliceHiB {j : Int} (n : Nat) (h : P.underlying t = some .string) (hx : val F x = some (.string (bs l))) (hy : val F y = some (.int k j)) (hj : j = (n : Int)) (hn : n ≤ l.length) :
    Rd P W0 F H ⟨d, .slice t x none (some y) none, ty, pos, af, g⟩ (.string (bs (l.take n))) := by
  subst hj
  exact x_cast (x_sliceStr (i := 0) (j := n) h hx rfl ⟨k, hy⟩ (Nat.zero_le _) (by rw [bs_size]; exact hn)) (by rw [bs_extract]; rfl)
theorem x_sliceLoB {j : Int} (n : Nat) (h : P.underlying t = some .string) (hx : val F x = some (.string (bs l))) (hy : val F y = some (.int k j)) (hj : j = (n : Int)) (hn : n ≤ l.length) :
    Rd P W0 F H ⟨d, .slice t x (some y) none none, ty, pos, af, g⟩ (.string (bs (l.drop n))) := by
  subst hj
  exact x_cast (x_sliceStr (i := n) (j := (bs l).size) h hx ⟨k, hy⟩ rfl (by rw [bs_size]; exact hn) (Nat.le_refl _)) (by rw [bs_extract, bs_size, List.take_of_length_le (Nat.le_refl _)])
end
theorem OwnVec.src {size : Nat} {e : TypeId} {a : Option Addr} {n c m : Nat} {L : List Value} {E H : SHeap} {W0 : World} (h : OwnVec size e (.slice a n c) m L E) (hs : Sub E H) : (m = 0 ∧ L = []) ∨ ∃ b off, a = some ⟨b, off, none⟩ ∧ Cells W0 H b off L := by
  cases h with
  | nil => exact .inl ⟨rfl, rfl⟩
  | @mk r n cap L post hl hp hn hc => exact .inr ⟨r, 0, rfl, (cells_own (pre := []) (H := [(r, .cells (L ++ post).toArray e (0, 0))]) List.mem_cons_self rfl).mono hs⟩
theorem u8sub (c : UInt8) : IntKind.u8.wrap ((c.toNat : Int) - 48) = (((c.toNat + 208) % 256 : Nat) : Int) := by rw [IntKind.wrap_u8]; omega
theorem u8dig (c : UInt8) : (c.toNat + 208) % 256 ≤ 9 ↔ isD c := by
  have := c.toNat_lt
  unfold isD
  omega
theorem u64neg {n : Int} (h1 : -9223372036854775808 ≤ n) (h2 : n < 0) : IntKind.u64.wrap n = n + 18446744073709551616 := by rw [IntKind.wrap_u64]; omega
theorem u64neg2 {n : Int} (h1 : -9223372036854775808 ≤ n) (h2 : n < 0) : IntKind.u64.wrap (0 - (n + 18446744073709551616)) = (((-n).toNat : Nat) : Int) := by rw [IntKind.wrap_u64]; omega
end Go.Proofs.YtbcajgkaepihfaaDoor.Sym
