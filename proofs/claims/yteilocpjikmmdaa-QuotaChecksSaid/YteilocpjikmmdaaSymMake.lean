/- append(s, make(S, n)...) where there is no room: a new block. -/
import Derived.Test.YteilocpjikmmdaaSymIns
namespace Go.Proofs.Yteilocpjikmmdaa.Sym
open Go.RowKit (Below)
set_option linter.unusedVariables false
set_option linter.unusedSimpArgs false
section
variable {P : Program} {w : World}
theorem run_append_make (t mt ty e : TypeId) (i : TypeInfo) (z : Value) {mk kx : IntKind} (ht : P.underlying t = some (.slice e)) (hm : P.underlying mt = some (.int mk)) (hi : P.info? e = some i) (hz : i.zero = some z)
    (b : Addr) (sLen sCap : Nat) (olds : List Value) (hlo : olds.length = sLen * i.size) (holds : ∀ j v, olds[j]? = some v → w.cell? (b.add j) = some v)
    (n : Nat) (h0 : 0 < n * i.size) (hg : sCap < sLen + n) (h63 : ((sLen + n : Nat) : Int) ≤ 9223372036854775807) (hnb : n * i.bytes ≤ 281474976710656) (hfit : Builtin.nextslicecap (sLen + n) sCap * i.bytes ≤ 281474976710656) :
    (Builtin.append_ #[t, mt] ty #[.slice (some b) sLen sCap, .int kx n]).run P w =
      .ok (.slice (some ⟨w.heap.size, 0, none⟩) (sLen + n) (grownCap w (sLen + n) sCap e))
        (w.drew.alloc (.cells (olds.toArray ++ Builtin.zeroCells z.cells n ++ Builtin.zeroCells z.cells (grownCap w (sLen + n) sCap e - (sLen + n))) e)) := by
  have hn : ¬ (sLen + n ≤ sCap) := by omega
  have h63' : ¬ (9223372036854775807 < ((sLen : Int) + (n : Int))) := by omega
  have h48' : ¬ (281474976710656 < Builtin.nextslicecap (sLen + n) sCap * i.bytes) := by omega
  have hw : IntKind.i64.wrap (n : Int) = n := i64w (by omega) (by omega)
  have hneg : ¬ ((n : Int) < 0) := by omega
  have hnb' : ¬ (281474976710656 < (n : Int) * (i.bytes : Int)) := by rw [← Int.natCast_mul]; omega
  have hmx : max (n : Int) 0 = n := by omega
  have hnn : (n : Int).toNat = n := by omega
  have hz0 : ¬ (n * i.size = 0) := by omega
  have hz1 : ¬ (n = 0 ∨ i.size = 0) := by rw [← Nat.mul_eq_zero]; exact hz0
  have hfo := run_firstCells_some (P := P) w.drew i.size sLen b sLen sCap olds hlo (by simpa using holds)
  simp [Builtin.append_, run_underlying ht, run_underlying hm, sizeOf, typeInfo, zeroValue, hi, hz, Builtin.lenOf, hn, h63', h48', Question.forced, hfo, newRow, grownCap, asInt, asIntOf, hw, hneg, hnb', hz0, hz1, hmx, hnn]
end
section
variable {P : Program} {W0 : World} {F : Fm} {H : SHeap} {d : Option Tmp} {ty : TypeId} {pos : String} {af : Array Edge} {g : Option (Nat × Bool)} {t mt e : TypeId} {x y : Operand} {size bytes n m c b off : Nat} {zv : Value} {L : List Value} {mk kx : IntKind} {iv : Int}
theorem opS_appendMake (ht : P.underlying t = some (.slice e)) (hm : P.underlying mt = some (.int mk)) (hs : szOf P e = some size) (hz : zeroOf P e = some zv) (hzc : zv.cells.size = size) (hby : bytesOf P e = some bytes)
    (hx : val F x = some (.slice (some ⟨b, off, none⟩) n c)) (hy : val F y = some (.int kx iv)) (hiv : iv = (m : Int)) (hc : Cells W0 H b off L) (hl : L.length = n * size) (hlt : c < n + m) (h0 : 0 < m * size) (hb : (n + m) * bytes ≤ 140737488355328) (hmx : n + m ≤ 9223372036854775807) :
    OpS P W0 F H ⟨d, .call ⟨.builtin .append, #[x, y], #[t, mt]⟩, ty, pos, af, g⟩ fun u H' => ∃ E', OwnVec size e u (n + m) (L ++ (Builtin.zeroCells zv.cells m).toList) E' ∧ H' = E' ++ H := by
  unfold szOf at hs; unfold zeroOf at hz; unfold bytesOf at hby
  obtain ⟨i, hi, hi1⟩ := Option.map_eq_some_iff.1 hs
  have hi2 : i.zero = some zv := by rw [hi] at hz; simpa using hz
  have hi3 : i.bytes = bytes := by rw [hi] at hby; simpa using hby
  subst hi1; subst hi3; subst hiv
  intro N' A w Q next hh ho k
  have hw := cells_world ho hc
  have hr := run_append_make (mk := mk) (kx := kx) t mt ty e i zv ht hm hi hi2 ⟨b, off, none⟩ n c L hl hw m h0 hlt (by omega) (by
    have : m * i.bytes ≤ (n + m) * i.bytes := Nat.mul_le_mul_right _ (by omega)
    omega) (growslice_fits hlt hb)
  unfold Oper.wp
  have he : (execOp A.eval ⟨d, .call ⟨.builtin .append, #[x, y], #[t, mt]⟩, ty, pos, af, g⟩).run P w = .ok (.value (.slice (some ⟨w.heap.size, 0, none⟩) (n + m) (grownCap w (n + m) c e))) (w.drew.alloc (.cells (L.toArray ++ Builtin.zeroCells zv.cells m ++ Builtin.zeroCells zv.cells (grownCap w (n + m) c e - (n + m))) e)) := by
    simp only [execOp, resolve, invoke]
    simp [builtin, hh.val hx, hh.val hy, hr, invoke]
  rw [he, Oper.upon_value]
  have hd := own_drew ho
  have hn := own_new hd.1 (.cells ((L ++ (Builtin.zeroCells zv.cells m).toList) ++ (Builtin.zeroCells zv.cells (grownCap w (n + m) c e - (n + m))).toList).toArray e (0, 0))
  have e1 : L.toArray ++ Builtin.zeroCells zv.cells m ++ Builtin.zeroCells zv.cells (grownCap w (n + m) c e - (n + m)) = ((L ++ (Builtin.zeroCells zv.cells m).toList) ++ (Builtin.zeroCells zv.cells (grownCap w (n + m) c e - (n + m))).toList).toArray := by apply Array.ext'; simp
  rw [e1]
  exact k _ _ _ ⟨[(w.heap.size, .cells ((L ++ (Builtin.zeroCells zv.cells m).toList) ++ (Builtin.zeroCells zv.cells (grownCap w (n + m) c e - (n + m))).toList).toArray e (0, 0))], .mk (by rw [List.length_append, hl, zeroCells_len, hzc, Nat.add_mul]) (by rw [zeroCells_len, hzc]) (grownCap_ge w _ _ e) (grownCap_le_maxLen w _ _ e (by unfold maxLen; omega)), rfl⟩ hn.1 (hd.2.trans hn.2)
end
end Go.Proofs.Yteilocpjikmmdaa.Sym
