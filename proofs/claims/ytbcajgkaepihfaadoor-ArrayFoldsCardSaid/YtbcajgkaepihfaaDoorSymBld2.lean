/- A row of one's own given up for a text, in a region that draws; strings.Builder. -/
import Derived.Test.YtbcajgkaepihfaaDoorSymBld
namespace Go.Proofs.YtbcajgkaepihfaaDoor.Sym
set_option linter.unusedVariables false
set_option linter.unusedSimpArgs false
section
variable {P : Program} {W0 : World} {F : Fm} {G H E : SHeap} {d : Option Tmp} {ty : TypeId} {pos : String} {af : Array Edge} {g : Option (Nat × Bool)} {t e : TypeId} {x y : Operand} {n : Nat} {v : Value} {l : List UInt8}
theorem unsafeStr_world {w : World} {pt it : TypeId} (hp : P.underlying pt = some (.pointer e)) (hc : P.cellsOf e = 1) (hV : OwnVec 1 e v n (byC l) E) (h0 : n = 0 → v = .slice none 0 0) (hsub : Sub (E ++ G) H) (hn : n ≤ 9223372036854775807) (ho : Own W0 H w) :
    ∃ w', (Builtin.unsafeString_ #[pt, it] ty #[sdata v, .int .i64 n]).run P w = .ok (.string (bs l)) w' ∧ Own W0 G w' ∧ Fr H G w w' := by
  have hll : l.length = n := by have := hV.len; rw [byC_len] at this; omega
  generalize hL : byC l = L at hV
  cases hV with
  | nil =>
    obtain rfl : l = [] := List.length_eq_zero_iff.1 hll
    exact ⟨w, Go.Lib.run_unsafeString_none (P := P) w pt it ty none, ho.sub hsub, (Fr.refl H w).of_keys (fun b h => h) fun b hb => .inl (hsub.keys b hb)⟩
  | @mk r _ cap _ post g1 g2 g3 g4 =>
    subst hL
    have hne : n ≠ 0 := fun e => by cases h0 e
    have hl0 : l ≠ [] := fun e => by subst e; exact hne hll.symm
    have ho2 := ho.sub hsub
    have hat := ho2.at_ r _ (List.mem_append_left _ List.mem_cons_self)
    have hsh : w.shape? r = some (e, (byC l ++ post).length) := by simp [World.shape?, hat]
    have hcell : ∀ j x, l[j]? = some x → w.cell? ((⟨r, 0, none⟩ : Addr).add j) = some (.int .u8 x.toNat) := fun j x hj =>
      cells_world ho2 (cells_own (pre := []) (vs := byC l) (List.mem_append_left _ List.mem_cons_self) rfl) j _ (by simp [byC, hj])
    have hr := Go.Lib.run_unsafeString_row (P := P) w pt it ty e hp hc r _ hsh l hl0 (by rw [List.length_append, byC_len]; omega) (by omega) hcell
    rw [hll] at hr
    have hof := own_less (w' := w.freeze ⟨r, 0, none⟩ n) (G := G) ho2 (by unfold World.freeze; split <;> simp) (fun b hb => by unfold World.freeze; split <;> simp [Array.getElem?_modify, Ne.symm hb]) (by unfold World.freeze; split <;> rfl) (by unfold World.freeze; split <;> rfl) (by unfold World.freeze; split <;> rfl)
    exact ⟨_, hr, hof.1, hof.2.of_keys (fun b hb => hsub.keys b hb) fun b hb => .inl hb⟩
theorem opSF_unsafeStr {pt it : TypeId} (hp : P.underlying pt = some (.pointer e)) (hc : P.cellsOf e = 1) (hV : OwnVec 1 e v n (byC l) E) (h0 : n = 0 → v = .slice none 0 0) (hx : val F x = some (sdata v)) (hy : val F y = some (.int .i64 n)) (hsub : Sub (E ++ G) H) (hn : n ≤ 9223372036854775807) :
    OpSF P W0 (lk F) H ⟨d, .call ⟨.builtin .unsafeString, #[x, y], #[pt, it]⟩, ty, pos, af, g⟩ fun u H' => u = .string (bs l) ∧ H' = G := by
  intro N' A w Q next hh hd0 hsz ho k
  obtain ⟨w', hr, ho', hf⟩ := unsafeStr_world (ty := ty) (it := it) hp hc hV h0 hsub hn ho
  have ex : A.eval x = sdata v := hh x (by simp [Op.operands, Call.operands]) _ (by rw [valf_lk]; exact hx)
  have ey : A.eval y = .int .i64 n := hh y (by simp [Op.operands, Call.operands]) _ (by rw [valf_lk]; exact hy)
  unfold Oper.wp
  have he : (execOp A.eval ⟨d, .call ⟨.builtin .unsafeString, #[x, y], #[pt, it]⟩, ty, pos, af, g⟩).run P w = .ok (.value (.string (bs l))) w' := by
    simp only [execOp, resolve, invoke]
    simp [builtin, ex, ey, hr, invoke]
  rw [he, Oper.upon_value]
  exact k _ _ _ ⟨rfl, rfl⟩ ho' hf
theorem unsafeStr_fresh {W0 : World} (hsub : Sub (E ++ G) H) : FreshH W0 H fun u H' => u = .string (bs l) ∧ H' = G := by
  have hs : Sub G H := by
    obtain ⟨F, hF⟩ := hsub
    exact ⟨E ++ F, by
      refine List.Perm.trans ?_ hF
      rw [← List.append_assoc]
      exact List.Perm.append_right F List.perm_append_comm⟩
  exact freshH_keys (H0 := G) hs rfl ⟨rfl, rfl⟩
end
/-- A builder: whose it is told of (none before the first text), and its row. -/
@[reducible] def bldC (a v : Value) : List Value := [a, v]
@[reducible] def selfP (b : Nat) : Value := .pointer (some ⟨b, 0, none⟩)
structure BldG where
  k : Nat
  l : List UInt8
  a : Value
  sl : Value
  E : SHeap
end Go.Proofs.YtbcajgkaepihfaaDoor.Sym
