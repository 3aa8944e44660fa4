/- More: closures that are made, nested structs that are read. -/
import Derived.Test.YteilocpjikmmdaaSymApp
namespace Go.Proofs.Yteilocpjikmmdaa.Sym
open Go.RowKit (Below)
set_option linter.unusedVariables false
set_option linter.unusedSimpArgs false
theorem get_nest {cs l : List Value} {off n : Nat} (h : (cs.drop off).take n = l) (k : Nat) (hk : k < n) : cs[off + k]? = l[k]? := by
  rw [← h, List.getElem?_take, if_pos hk, List.getElem?_drop]
theorem vals_ev {F : Fm} : ∀ {l : List Operand} {vs : List Value}, vals F l = some vs → l.map (ev F) = vs ∧ ∀ x ∈ l, (val F x).isSome
  | [], vs, hv => by simp only [vals, Option.some.injEq] at hv; subst hv; exact ⟨rfl, by simp⟩
  | x :: l, vs, hv => by
    simp only [vals] at hv
    split at hv
    · next v vs' h1 h2 =>
      cases hv
      obtain ⟨e1, e2⟩ := vals_ev h2
      refine ⟨by rw [List.map_cons, ev_of h1, e1], fun y hy => ?_⟩
      rcases List.mem_cons.1 hy with rfl | hy
      · exact some_of h1
      · exact e2 y hy
    · cases hv
theorem OwnVec.reset {size : Nat} {e : TypeId} {v : Value} {n : Nat} {L L' : List Value} {E : SHeap} (h : OwnVec size e v n L E) (hl : L'.length = L.length) : ∃ E', OwnVec size e v n L' E' ∧ keys E' = keys E := by
  cases h with
  | nil =>
    have : L' = [] := List.length_eq_zero_iff.1 hl
    subst this
    exact ⟨[], .nil, rfl⟩
  | mk hl0 hp hn hc => exact ⟨_, .mk (hl.trans hl0) hp hn hc, rfl⟩
theorem ownvec_freshE {W0 : World} {size : Nat} {e : TypeId} {n : Nat} {L : List Value} (hl : L.length = n * size) (hn : n ≤ 9223372036854775807) : FreshE W0 (fun v E => ∃ a2 cap2, OwnVec size e (.slice a2 n cap2) n L E ∧ v = .slice a2 n cap2) := by
  intro Ls
  obtain ⟨r, h1, h2⟩ := exists_fresh Ls W0.heap.size
  exact ⟨_, [(r, .cells (L ++ []).toArray e (0, 0))], ⟨some ⟨r, 0, none⟩, n, .mk hl (by simp) (Nat.le_refl _) hn, rfl⟩, by simp [keys], by simp [keys]; exact ⟨h1, h2⟩⟩
theorem sub_news {E H : SHeap} : Sub E ((E ++ []) ++ H) := ⟨H, by simp⟩
theorem freshH_keys {W0 : World} {V H0 H' : SHeap} {Φ : Value → SHeap → Prop} {v : Value} (hs : Sub H0 V) (hk : keys H' = keys H0) (h : Φ v H') : FreshH W0 V Φ := fun hw L =>
  ⟨v, H', h, by rw [hk]; exact (wf_sub hs hw).1, fun b hb => .inl (hs.keys b (by rw [← hk]; exact hb))⟩
section
variable {P : Program} {W0 : World} {R : Reg} {X : SHeap} {i : Nat} {rest : List Oper} {F : Fm} {H : SHeap} {K : Fm → SHeap → Prop} {o : Oper} {d : Nat}
theorem dr_effE {R0 : Value → SHeap → Prop} (hc : R.c i = .eff) (hd : o.dst = some d) (hw : Wtd R.ops F o true) (h : OpSF P W0 (lk F) H o R0) (hne : FreshH W0 H R0) (k : ∀ v H', R0 v H' → DR P W0 R X (i + 1) rest ((d, v) :: F) H' [] K) : DR P W0 R X i (o :: rest) F H [] K :=
  dr_eff hc (flat_nil _) (clear_all rfl) hd hw (by simpa using h) (by simpa using hne) k
theorem dr_effE0 {R0 : Value → SHeap → Prop} (hc : R.c i = .eff) (hd : o.dst = none) (hw : Wtd R.ops F o true) (h : OpSF P W0 (lk F) H o R0) (hne : FreshH W0 H R0) (k : ∀ v H', R0 v H' → DR P W0 R X (i + 1) rest F H' [] K) : DR P W0 R X i (o :: rest) F H [] K :=
  dr_eff0 hc (flat_nil _) (clear_all rfl) hd hw (by simpa using h) (by simpa using hne) k
end
theorem vec_fresh {W0 : World} {V0 G : SHeap} {size m : Nat} {e : TypeId} {L : List Value} (hl : L.length = m * size) (hm : m ≤ 9223372036854775807) (hsub : Sub G V0) : FreshH W0 V0 (fun v H' => ∃ a' cap' E', v = .slice a' m cap' ∧ OwnVec size e (.slice a' m cap') m L E' ∧ H' = E' ++ G) := by
  intro hw l
  obtain ⟨r, h1, h2⟩ := exists_fresh (l ++ keys G) W0.heap.size
  rw [List.mem_append, not_or] at h2
  have hnd := (wf_sub hsub hw).1
  refine ⟨_, _, ⟨some ⟨r, 0, none⟩, m, [(r, .cells (L ++ []).toArray e (0, 0))], rfl, .mk hl (by simp) (Nat.le_refl _) hm, rfl⟩, ?_, ?_⟩
  · rw [List.singleton_append, keys_cons, List.nodup_cons]
    exact ⟨h2.2, hnd⟩
  · intro b hb
    rw [List.singleton_append, keys_cons] at hb
    rcases List.mem_cons.1 hb with rfl | hb
    · exact .inr ⟨h1, h2.1⟩
    · exact .inl (hsub.keys b hb)
section
variable {P : Program} {W0 : World} {F : Fm} {H : SHeap} {d : Option Tmp} {ty : TypeId} {pos : String} {af : Array Edge} {g : Option (Nat × Bool)}
theorem x_makeFunc {fn : Fn} {first cap : Array Operand} {fs cs : List Value} (h1 : vals F first.toList = some fs) (h2 : vals F cap.toList = some cs) : Rd P W0 F H ⟨d, .makeFunc fn first cap, ty, pos, af, g⟩ (.func fn fs.toArray cs.toArray) := by
  obtain ⟨e1, e2⟩ := vals_ev h1
  obtain ⟨e3, e4⟩ := vals_ev h2
  refine exec_rd (by simp) (fun x hx => ?_) fun _ => ?_
  · simp only [Op.operands, Array.mem_append] at hx
    rcases hx with hx | hx
    · exact e2 x (by simpa using hx)
    · exact e4 x (by simpa using hx)
  · have q1 : first.map (ev F) = fs.toArray := by apply Array.toList_inj.1; rw [Array.toList_map, e1]
    have q2 : cap.map (ev F) = cs.toArray := by apply Array.toList_inj.1; rw [Array.toList_map, e3]
    simp only [execOp, Instr.makeFunc, q1, q2]
    rfl
end
end Go.Proofs.Yteilocpjikmmdaa.Sym
