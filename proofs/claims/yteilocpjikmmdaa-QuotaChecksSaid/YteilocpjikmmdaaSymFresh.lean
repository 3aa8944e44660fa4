/- What a contract may leave is fresh: no other proof is asked for regions that draw their order. -/
import Derived.Test.YteilocpjikmmdaaSymOff
namespace Go.Proofs.Yteilocpjikmmdaa.Sym
open Go.RowKit (Below)
set_option linter.unusedVariables false

def layObj (W0 : World) (H : SHeap) (i : Nat) : Obj := if i < W0.heap.size then (W0.heap[i]?).getD (.map #[] 0) else (find i H).getD (.map #[] 0)
def layW (W0 : World) (H : SHeap) (n : Nat) : World := { W0 with heap := Array.ofFn (n := n) fun i => layObj W0 H i.val }
theorem layW_size (W0 : World) (H : SHeap) (n : Nat) : (layW W0 H n).heap.size = n := by simp [layW]
theorem layW_at {W0 : World} {H : SHeap} {n i : Nat} (h : i < n) : (layW W0 H n).heap[i]? = some (layObj W0 H i) := by
  simp [layW, h]
theorem exists_above (l : List Nat) (k : Nat) : ∃ n, k ≤ n ∧ ∀ b ∈ l, b < n := by
  induction l with
  | nil => exact ⟨k, Nat.le_refl _, fun _ h => by cases h⟩
  | cons x l ih =>
    obtain ⟨n, h1, h2⟩ := ih
    refine ⟨max n (x + 1), by omega, fun b hb => ?_⟩
    rcases List.mem_cons.1 hb with rfl | hb
    · omega
    · have := h2 b hb; omega
theorem layW_own {W0 : World} {H : SHeap} {n : Nat} (hw : Wf W0 H) (hn : W0.heap.size ≤ n) (hk : ∀ b ∈ keys H, b < n) : Own W0 H (layW W0 H n) := by
  refine ⟨⟨rfl, rfl, rfl, by rw [layW_size]; exact hn, fun k hk' => ?_⟩, hw.1, hw.2, fun b o hm => ?_⟩
  · rw [layW_at (by omega)]
    unfold layObj
    rw [if_pos hk', Array.getElem?_eq_getElem hk']; rfl
  · rw [layW_at (hk b (mem_keys hm))]
    unfold layObj
    rw [if_neg (by have := hw.2 b (mem_keys hm); omega), find_of_mem hw.1 hm]; rfl
/-- A contract on the blocks V leaves what is V's or fresh. -/
theorem ac_fresh {P : Program} {W0 : World} {f : FuncId} {args : List Value} {V : SHeap} {R : Value → SHeap → Prop} (h : AC P W0 f args V R) : FreshH W0 V R := by
  intro hw L
  obtain ⟨n, h1, h2⟩ := exists_above (L ++ keys V) W0.heap.size
  have ho := layW_own hw h1 fun b hb => h2 b (List.mem_append_right _ hb)
  obtain ⟨e, w', fr, ⟨v, H', rfl, hR, ho', hf⟩, _⟩ := h _ ho []
  refine ⟨v, H', hR, ho'.nd, fun b hb => ?_⟩
  rcases hf.new b hb with h3 | h3
  · exact .inl h3
  · rw [layW_size] at h3
    refine .inr ⟨ho'.ge b hb, fun hl => ?_⟩
    have := h2 b (List.mem_append_left _ hl)
    omega
/-- A contract on no block. -/
theorem ac_freshE {P : Program} {W0 : World} {f : FuncId} {args : List Value} {Φ : Value → SHeap → Prop} (h : AC P W0 f args [] Φ) : FreshE W0 Φ := by
  intro L
  obtain ⟨v, H', h1, h2, h3⟩ := ac_fresh h ⟨List.nodup_nil, fun b hb => by cases hb⟩ L
  refine ⟨v, H', h1, h2, fun b hb => ?_⟩
  rcases h3 b hb with h4 | h4
  · cases h4
  · exact h4
section
variable {P : Program} {W0 : World} {R : Reg} {X : SHeap} {i : Nat} {rest : List Oper} {F : Fm} {H : SHeap} {K : Fm → SHeap → Prop} {o : Oper} {d : Nat} {L : List (Nat × SHeap)} {V : SHeap} {L' : List (Nat × SHeap)} {R0 : Value → SHeap → Prop} {c : Call} {x : Operand} {g : FuncId} {cap : Array Value} {vs : List Value}
/-- A call that writes, by its contract alone. -/
theorem dr_effC (hc : R.c i = .eff) (hV : (R.p i).flatMap (NL L) = V) (hL : clearN R i (NL L) = NL L') (hd : o.dst = some d) (hw : Wtd R.ops F o true) (ho : o.op = .call c) (hcc : c.callee = .value x)
    (hx : val F x = some (.func (.func g) #[] cap)) (hv : vals F c.args.toList = some vs) (hg : Callable P g) (h : AC P W0 g (vs ++ cap.toList) (V ++ H) R0)
    (k : ∀ v H', R0 v H' → DR P W0 R X (i + 1) rest ((d, v) :: F) H' L' K) : DR P W0 R X i (o :: rest) F H L K :=
  dr_eff hc hV hL hd hw (opS_F ho hcc hx hv hg h) (ac_fresh h) k
theorem dr_effC0 (hc : R.c i = .eff) (hV : (R.p i).flatMap (NL L) = V) (hL : clearN R i (NL L) = NL L') (hd : o.dst = none) (hw : Wtd R.ops F o true) (ho : o.op = .call c) (hcc : c.callee = .value x)
    (hx : val F x = some (.func (.func g) #[] cap)) (hv : vals F c.args.toList = some vs) (hg : Callable P g) (h : AC P W0 g (vs ++ cap.toList) (V ++ H) R0)
    (k : ∀ v H', R0 v H' → DR P W0 R X (i + 1) rest F H' L' K) : DR P W0 R X i (o :: rest) F H L K :=
  dr_eff0 hc hV hL hd hw (opS_F ho hcc hx hv hg h) (ac_fresh h) k
end
end Go.Proofs.Yteilocpjikmmdaa.Sym
