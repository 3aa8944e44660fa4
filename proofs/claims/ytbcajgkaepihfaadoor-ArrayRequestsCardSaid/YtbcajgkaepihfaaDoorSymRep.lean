/- make([]T, n) for elements of more cells; a row that is filled by copying its own beginning. -/
import Derived.Test.YtbcajgkaepihfaaDoorSymIns
import Derived.Test.YtbcajgkaepihfaaDoorSymApp
import Derived.Test.YtbcajgkaepihfaaDoorSymEl
namespace Go.Proofs.YtbcajgkaepihfaaDoor.Sym
set_option linter.unusedVariables false
set_option linter.unusedSimpArgs false
section
variable {P : Program} {W0 : World} {F : Fm} {H : SHeap} {d : Option Tmp} {ty : TypeId} {pos : String} {af : Array Edge} {g : Option (Nat × Bool)} {t : TypeId} {x y : Operand}
theorem x_makeSliceN {e : TypeId} {z : Value} {s : Nat} {n : Int} {by_ : Nat} {k k' : IntKind} (hu : P.underlying t = some (.slice e)) (hs : szOf P e = some s) (hs0 : 0 < s) (hz : zeroOf P e = some z) (hzc : z.cells.size = s) (hby : bytesOf P e = some by_) (hx : val F x = some (.int k n)) (hy : val F y = some (.int k' n)) (h0 : 0 ≤ n) (hb : by_ * n ≤ 281474976710656) (hn : n ≤ 9223372036854775807) (r : Nat) :
    Exec P W0 F H ⟨d, .makeSlice t x y, ty, pos, af, g⟩ (some r) (.slice (some ⟨r, 0, none⟩) n.toNat n.toNat) ((r, .cells (Builtin.zeroCells z.cells n.toNat).toList.toArray e (0, 0)) :: H) := by
  refine ⟨by simp, by simp [Op.operands, some_of hx, some_of hy], fun hw => .inl (runSym_map _ _ ?_)⟩
  unfold bytesOf at hby
  obtain ⟨i, hi1, hi2⟩ := Option.map_eq_some_iff.1 hby
  have hti : rdSym P W0 H (typeInfo e) = some i := by unfold typeInfo; rw [rd_bind, rd_program]; simp [hi1, rd_pure]
  have hw1 : IntKind.i64.wrap n = n := i64w (by omega) hn
  simp only [Instr.makeSlice, ev_of hx, ev_of hy]
  rw [runSym_bind _ (rd_run _ (rd_underlying hu))]
  simp only []
  rw [runSym_bind _ (rd_run _ (show rdSym P W0 H (asInt (.int k n)) = some n from rfl))]
  rw [runSym_bind _ (rd_run _ (show rdSym P W0 H (asInt (.int k' n)) = some n from rfl))]
  rw [runSym_bind _ (rd_run _ hti)]
  simp only [hw1, hi2]
  have hc : ¬ ((decide (n < 0) || decide ((by_ : Int) * n > 2 ^ 48) || decide (n < 0) || decide (n > n)) = true) := by
    simp only [Bool.or_eq_true, decide_eq_true_eq]
    have h48 : (2 : Int) ^ 48 = 281474976710656 := by decide
    rw [h48]
    generalize (by_ : Int) * n = m at hb ⊢
    omega
  rw [if_neg (by simpa [or_assoc] using hc)]
  have har : runSym P W0 (askRoom (n.toNat * by_)) none H = some ((), H) := by
    unfold askRoom; split <;> rfl
  rw [runSym_bind _ har]
  rw [runSym_bind _ (rd_run _ (rd_sizeOf hs))]
  split
  · next h0 =>
    rw [runSym_bind _ (rd_run _ (rd_pure _)), h0]
    have hz0 : Builtin.zeroCells z.cells n.toNat = (Array.range 0).map fun i => (#[] : Array Value)[i % (#[] : Array Value).size]! := by
      unfold Builtin.zeroCells
      rw [hzc, h0]
      apply Array.toList_inj.1
      simp
    rw [hz0, Array.toArray_toList]; rfl
  · next h0 =>
    rw [runSym_bind _ (rd_run _ (rd_zero hz)), runSym_bind _ (rd_run _ (rd_pure _))]
    have hz0 : Builtin.zeroCells z.cells n.toNat = (Array.range (n.toNat * s)).map fun i => z.cells[i % z.cells.size]! := by
      unfold Builtin.zeroCells
      rw [hzc]
    rw [hz0, Array.toArray_toList]; rfl
end
section
variable {α : Type} {enc : α → List Value} {s : Nat} {x : α}
theorem rep_flat_len (hn : ∀ x, (enc x).length = s) (k : Nat) : ((List.replicate k x).flatMap enc).length = k * s := by
  rw [flat_len hn, List.length_replicate]
theorem rep_split {m k : Nat} (h : k ≤ m) : (List.replicate m x).flatMap enc = (List.replicate k x).flatMap enc ++ (List.replicate (m - k) x).flatMap enc := by
  rw [← List.flatMap_append, List.replicate_append_replicate, show k + (m - k) = m by omega]
theorem cells_repl {W0 : World} {H : SHeap} {b : Nat} {e : TypeId} {fz : Nat × Nat} {m k : Nat} {post : List Value} (hk : k ≤ m) (hm : (b, Obj.cells ((List.replicate m x).flatMap enc ++ post).toArray e fz) ∈ H) : Cells W0 H b 0 ((List.replicate k x).flatMap enc) := by
  rw [rep_split hk, List.append_assoc] at hm
  exact cells_own (pre := []) hm rfl
theorem cells_repl1 {W0 : World} {H : SHeap} {b : Nat} {e : TypeId} {fz : Nat × Nat} {k : Nat} (hk : k ≤ 1) (hm : (b, Obj.cells (enc x).toArray e fz) ∈ H) : Cells W0 H b 0 ((List.replicate k x).flatMap enc) :=
  cells_repl (m := 1) (post := []) hk (by simpa using hm)
theorem spl_rep2 (hn : ∀ x, (enc x).length = s) {m k : Nat} {post : List Value} (hp : k * s ≤ post.length) : Spl ((List.replicate m x).flatMap enc ++ post) (m * s) ((List.replicate k x).flatMap enc) ((List.replicate (m + k) x).flatMap enc ++ post.drop (k * s)) := by
  have h1 : (List.replicate (m + k) x).flatMap enc = (List.replicate m x).flatMap enc ++ (List.replicate k x).flatMap enc := by rw [← List.flatMap_append, List.replicate_append_replicate]
  have h2 : post = post.take (k * s) ++ post.drop (k * s) := (List.take_append_drop _ _).symm
  rw [h1, List.append_assoc]
  conv => arg 1; rw [h2]
  exact spl3 (rep_flat_len hn m) (by rw [rep_flat_len hn, List.length_take]; omega)
theorem rep_all (h1 : ∀ x, (enc x).all oneCell = true) (k : Nat) : ((List.replicate k x).flatMap enc).all oneCell = true := all_flat h1 _
end
end Go.Proofs.YtbcajgkaepihfaaDoor.Sym
