/- for k := range over a map: the iterator is a block of its own; what comes next is any entry that has not come. -/
import Derived.Test.YteilocpjikmmdaaSymMap
import Derived.Test.YteilocpjikmmdaaSymApp
import Derived.Maps.RangeRun
namespace Go.Proofs.Yteilocpjikmmdaa.Sym
set_option linter.unusedVariables false
set_option linter.unusedSimpArgs false
/-- The stamps of a map's entries. -/
def Born (es : List MapEntry) (clk : Nat) : Prop := (es.map (·.born)).Nodup ∧ ∀ e ∈ es, e.born < clk
theorem Born.nil {clk : Nat} : Born [] clk := ⟨List.nodup_nil, by simp⟩
theorem born_mdel {a : Int} : ∀ {es : List MapEntry}, ((mdel a es).map (·.born)).Sublist (es.map (·.born))
  | [] => List.Sublist.refl _
  | e :: es => by
    unfold mdel
    split
    · exact List.sublist_cons_self _ _
    · exact (born_mdel (a := a) (es := es)).cons_cons _
theorem Born.del {a : Int} {es : List MapEntry} {clk : Nat} (h : Born es clk) : Born (mdel a es) clk :=
  ⟨h.1.sublist born_mdel, fun e he => h.2 e (mem_mdel he)⟩
theorem born_mset {k : IntKind} {a : Int} {v : Value} {clk : Nat} : ∀ {es : List MapEntry}, (mset k a v clk es).map (·.born) = if (mget a es).isSome then es.map (·.born) else es.map (·.born) ++ [clk]
  | [] => rfl
  | e :: es => by
    have ih := born_mset (k := k) (a := a) (v := v) (clk := clk) (es := es)
    unfold mset mget
    by_cases hk : keyIs a e = true
    · rw [if_pos hk, if_pos hk]; rfl
    · rw [if_neg hk, if_neg hk, List.map_cons, ih]
      split <;> rfl
theorem Born.set {k : IntKind} {a : Int} {v : Value} {es : List MapEntry} {clk : Nat} (h : Born es clk) : Born (mset k a v clk es) (mclk a es clk) := by
  have hb := born_mset (k := k) (a := a) (v := v) (clk := clk) (es := es)
  have hall : ∀ b ∈ es.map (·.born), b < clk := fun b hb => by
    rw [List.mem_map] at hb; obtain ⟨e, he, rfl⟩ := hb; exact h.2 e he
  unfold mclk
  cases hm : (mget a es).isSome with
  | true =>
    rw [hm, if_pos rfl] at hb
    refine ⟨by rw [hb]; exact h.1, fun e he => ?_⟩
    have : e.born ∈ (mset k a v clk es).map (·.born) := List.mem_map_of_mem he
    rw [hb] at this
    exact hall _ this
  | false =>
    rw [hm, if_neg (by simp)] at hb
    refine ⟨by rw [hb, List.nodup_append]; exact ⟨h.1, by simp, fun x hx y hy e => by rw [List.mem_singleton] at hy; have := hall x hx; omega⟩, fun e he => ?_⟩
    have : e.born ∈ (mset k a v clk es).map (·.born) := List.mem_map_of_mem he
    rw [hb, List.mem_append, List.mem_singleton] at this
    show e.born < clk + 1
    rcases this with q | q
    · have := hall _ q; omega
    · omega
theorem filter_le {α : Type} {p p' : α → Bool} (h : ∀ x, p' x = true → p x = true) : ∀ l : List α, (l.filter p').length ≤ (l.filter p).length
  | [] => Nat.le_refl _
  | x :: l => by
    have ih := filter_le h l
    rw [List.filter_cons, List.filter_cons]
    cases h1 : p' x with
    | true => rw [h x h1, if_pos rfl, if_pos rfl, List.length_cons, List.length_cons]; omega
    | false =>
      rw [if_neg (by simp)]
      split
      · rw [List.length_cons]; omega
      · exact ih
theorem filter_lt {α : Type} {p p' : α → Bool} {e : α} (h : ∀ x, p' x = true → p x = true) : ∀ {l : List α}, e ∈ l → p e = true → p' e = false → (l.filter p').length < (l.filter p).length
  | [], he, _, _ => by cases he
  | x :: l, he, h1, h2 => by
    rw [List.filter_cons, List.filter_cons]
    rcases List.mem_cons.1 he with rfl | he
    · have := filter_le h l
      rw [h1, h2, if_pos rfl, if_neg (by simp), List.length_cons]; omega
    · have ih := filter_lt h he h1 h2
      cases h3 : p' x with
      | true => rw [h x h3, if_pos rfl, if_pos rfl, List.length_cons, List.length_cons]; omega
      | false =>
        rw [if_neg (by simp)]
        split
        · rw [List.length_cons]; omega
        · exact ih
section
variable {P : Program} {W0 : World} {F : Fm} {H : SHeap} {d : Option Tmp} {ty : TypeId} {pos : String} {af : Array Edge} {g : Option (Nat × Bool)} {t kt et : TypeId} {x : Operand} {r m clk since c0 : Nat} {seen : Array Nat} {es : List MapEntry}
theorem x_rangeMap (hu : P.underlying t = some (.map kt et)) (hx : val F x = some (.map (some m))) (hm : MapAt W0 H m es clk) (r : Nat) : Exec P W0 F H ⟨d, .range t x, ty, pos, af, g⟩ (some r) (.pointer (some ⟨r, 0, none⟩)) ((r, .mapIter (some m) clk #[] clk) :: H) := by
  refine ⟨by simp, fun y hy => by simp [Op.operands] at hy; subst hy; exact some_of hx, fun hw => .inl ?_⟩
  have e1 : rdSym P W0 H (getObj m) = some (.map es.toArray clk) := by
    simp only [getObj, rdSym, hm hw, Option.bind_some]
  simp only [execOp, ev_of hx]
  refine runSym_map _ _ ?_
  simp only [Instr.range]
  rw [runSym_bind _ (rd_run _ (rd_underlying hu))]
  simp only []
  rw [runSym_bind _ (rd_run _ e1)]
  rfl
/-- What comes next. -/
def NextR (r m since clk : Nat) (seen : Array Nat) (es : List MapEntry) (H : SHeap) (H' : Array Nat → SHeap) (v : Value) (H2 : SHeap) : Prop :=
  ((leftOf es.toArray seen).size = 0 ∧ v = .tuple #[.bool false] ∧ H2 = H) ∨ ∃ e ∈ (leftOf es.toArray seen).toList, v = .tuple #[.bool true, e.key, e.val] ∧ H2 = H' (seen.push e.born)
theorem opS_next {H' : Array Nat → SHeap} (hx : val F x = some (.pointer (some ⟨r, 0, none⟩))) (hm : MapAt W0 H m es clk) (hb : Born es since) (hsc : since ≤ c0)
    (hr : ∀ s, Repl r (.mapIter (some m) since seen c0) (.mapIter (some m) since s clk) H (H' s)) : OpS P W0 F H ⟨d, .next x false, ty, pos, af, g⟩ (NextR r m since clk seen es H H') := by
  intro N a w Q next hh ho k
  have hri := ho.at_ _ _ (hr seen).mem
  have hmi : w.heap[m]? = some (.map es.toArray clk) := ho.obj (hm ho.wf)
  have hge := ho.ge r (mem_keys (hr seen).mem)
  unfold Oper.wp
  have hex : execOp a.eval ⟨d, .next x false, ty, pos, af, g⟩ = (Instr.next (.pointer (some ⟨r, 0, none⟩)) false ty >>= fun v => Pure.pure (.value v)) := by
    simp only [execOp, hh.val hx]
    first | rfl | skip
  rw [hex]
  rcases run_next_at (P := P) w ty r m since c0 seen es.toArray clk hri hmi (fun y hy => hb.2 y (by simpa using hy)) hsc with ⟨h0, hrun⟩ | ⟨e, he, w1, hw1, hrun⟩
  · rw [Sem.run_bind, hrun, Result.andThen_ok, Sem.run_pure, Oper.upon_value]
    exact k _ _ _ (.inl ⟨h0, rfl, rfl⟩) ho (Fr.refl _ _)
  · rw [Sem.run_bind, hrun, Result.andThen_ok, Sem.run_pure, Oper.upon_value]
    have ho1 : Own W0 H w1 ∧ Fr H H w w1 := by
      rcases hw1 with rfl | rfl
      · exact ⟨ho, Fr.refl _ _⟩
      · exact own_drew ho
    have hri1 := ho1.1.at_ _ _ (hr seen).mem
    have hlt := ho1.1.lt (mem_keys (hr seen).mem)
    have hset := own_write (w' := ChangeMaps.setBlock w1 r (.mapIter (some m) since (seen.push e.born) clk)) (o' := .mapIter (some m) since (seen.push e.born) clk) ho1.1 (find_of_mem ho1.1.nd (hr seen).mem) hge (by simp [ChangeMaps.setBlock]) (fun c hc => by simp [ChangeMaps.setBlock, Array.getElem?_setIfInBounds_ne (Ne.symm hc)]) (by simp [ChangeMaps.setBlock, hlt]) rfl rfl rfl
    rw [(hr (seen.push e.born)).upd ho1.1.nd] at hset
    exact k _ _ _ (.inr ⟨e, he, rfl, rfl⟩) hset.1 (ho1.2.trans hset.2)
/-- The entry that came last. -/
theorem x_entry {e : MapEntry} (hx : val F x = some (.pointer (some ⟨r, 0, none⟩))) (hm : MapAt W0 H m es clk) (hb : Born es since) (he : e ∈ es) (hr : (r, Obj.mapIter (some m) since (seen.push e.born) clk) ∈ H) :
    Rd P W0 F H ⟨d, .entry x, ty, pos, af, g⟩ (.tuple #[e.key, e.val]) := by
  refine exec_rd (by simp) (by simp [Op.operands, some_of hx]) fun hw => ?_
  have hf : es.toArray.find? (·.born == e.born) = some e := by rw [← Array.find?_toList]; exact find_born e es (by simpa using hb.1) he
  have e1 : rdSym P W0 H (getObj m) = some (.map es.toArray clk) := by simp only [getObj, rdSym, hm hw, Option.bind_some]
  have e2 : rdSym P W0 H (getObj r) = some (.mapIter (some m) since (seen.push e.born) clk) := by simp only [getObj, rdSym, hw.obj hr, Option.bind_some]
  simp only [execOp, ev_of hx, Instr.entry, rd_bind, e2, Option.bind_some, e1, Array.back?_push, bne_self_eq_false, Bool.false_eq_true, if_false, hf, rd_pure]
theorem mem_leftOf {e : MapEntry} : e ∈ (leftOf es.toArray seen).toList ↔ e ∈ es ∧ e.born ∉ seen.toList := by
  unfold leftOf
  simp
theorem left_0 (h : (leftOf es.toArray seen).size = 0) : ∀ e ∈ es, e.born ∈ seen.toList := fun e he => by
  by_cases hs : e.born ∈ seen.toList
  · exact hs
  · have := mem_leftOf.2 ⟨he, hs⟩
    have h2 : (leftOf es.toArray seen) = #[] := Array.eq_empty_of_size_eq_zero h
    rw [h2] at this; simp at this
theorem left_lt {e : MapEntry} (hb : Born es since) (he : e ∈ (leftOf es.toArray seen).toList) : (leftOf es.toArray (seen.push e.born)).size < (leftOf es.toArray seen).size := by
  obtain ⟨h1, h2⟩ := mem_leftOf.1 he
  have := filter_lt (p := fun x : MapEntry => !seen.contains x.born) (p' := fun x : MapEntry => !(seen.push e.born).contains x.born) (fun x hx => by simp at hx ⊢; exact hx.1) h1 (by simpa using h2) (by simp)
  unfold leftOf
  simpa using this
end
end Go.Proofs.Yteilocpjikmmdaa.Sym
