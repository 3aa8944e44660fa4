/- Maps whose keys are numbers: made, looked up, updated, deleted from. -/
import Derived.Test.YteilocpjikmmdaaSymMore
namespace Go.Proofs.Yteilocpjikmmdaa.Sym
open Go.RowKit (Below)
set_option linter.unusedVariables false
set_option linter.unusedSimpArgs false
def keyIs (a : Int) (e : MapEntry) : Bool := match e.key with
  | .int _ b => a == b
  | _ => false
def mfind (a : Int) : List MapEntry → Nat → Option (Nat × Value)
  | [], _ => none
  | e :: es, i => if keyIs a e then some (i, e.val) else mfind a es (i + 1)
def mget (a : Int) : List MapEntry → Option Value
  | [] => none
  | e :: es => if keyIs a e then some e.val else mget a es
def mset (k : IntKind) (a : Int) (v : Value) (clk : Nat) : List MapEntry → List MapEntry
  | [] => [⟨.int k a, v, clk⟩]
  | e :: es => if keyIs a e then ⟨.int k a, v, e.born⟩ :: es else e :: mset k a v clk es
def mclk (a : Int) (es : List MapEntry) (clk : Nat) : Nat := if (mget a es).isSome then clk else clk + 1
def mdel (a : Int) : List MapEntry → List MapEntry
  | [] => []
  | e :: es => if keyIs a e then es else e :: mdel a es
def IntKeys (k : IntKind) (es : List MapEntry) : Prop := ∀ e ∈ es, ∃ b, e.key = .int k b
theorem IntKeys.nil {k : IntKind} : IntKeys k [] := by intro e h; cases h
theorem IntKeys.set {k : IntKind} {a : Int} {v : Value} {clk : Nat} : ∀ {es : List MapEntry}, IntKeys k es → IntKeys k (mset k a v clk es)
  | [], _ => by intro e h; have : e = ⟨.int k a, v, clk⟩ := by simpa [mset] using h
                subst this; exact ⟨a, rfl⟩
  | x :: es, hk => by
    intro e h
    unfold mset at h
    split at h
    · rcases List.mem_cons.1 h with rfl | h
      · exact ⟨a, rfl⟩
      · exact hk e (List.mem_cons_of_mem _ h)
    · rcases List.mem_cons.1 h with rfl | h
      · exact hk _ List.mem_cons_self
      · exact IntKeys.set (fun e he => hk e (List.mem_cons_of_mem _ he)) e h
theorem mem_mdel {a : Int} : ∀ {es : List MapEntry} {e : MapEntry}, e ∈ mdel a es → e ∈ es
  | [], e, h => by cases h
  | x :: es, e, h => by
    unfold mdel at h
    split at h
    · exact List.mem_cons_of_mem _ h
    · rcases List.mem_cons.1 h with rfl | h
      · exact List.mem_cons_self
      · exact List.mem_cons_of_mem _ (mem_mdel h)
theorem IntKeys.del {k : IntKind} {a : Int} {es : List MapEntry} (h : IntKeys k es) : IntKeys k (mdel a es) := fun e he => h e (mem_mdel he)
theorem findNow_eq {k kd : IntKind} {a : Int} : ∀ {es : List MapEntry} {i : Nat}, IntKeys k es → Instr.findNow (.int kd) (.int k a) es i = some (mfind a es i)
  | [], i, _ => rfl
  | e :: es, i, h => by
    obtain ⟨b, hb⟩ := h e List.mem_cons_self
    have ih := findNow_eq (k := k) (kd := kd) (a := a) (es := es) (i := i + 1) fun e he => h e (List.mem_cons_of_mem _ he)
    unfold Instr.findNow mfind keyIs
    rw [hb]
    simp only [Instr.sameNow, if_true]
    by_cases hab : a = b
    · simp [hab]
    · have : (a == b) = false := by simpa using hab
      simp [this, ih]
theorem mfind_get {a : Int} : ∀ {es : List MapEntry} {i : Nat}, (mfind a es i).map (·.2) = mget a es
  | [], i => rfl
  | e :: es, i => by
    unfold mfind mget
    split
    · rfl
    · exact mfind_get
theorem mfind_del {a : Int} : ∀ {es : List MapEntry} {n : Nat} {r : Nat × Value}, mfind a es n = some r → ∃ i, r.1 = n + i ∧ i < es.length ∧ es.eraseIdx i = mdel a es ∧ (∃ e, es[i]? = some e ∧ keyIs a e = true ∧ r.2 = e.val) ∧ ∀ k v clk, es.modify i (fun e => ⟨.int k a, v, e.born⟩) = mset k a v clk es
  | [], n, r, h => by cases h
  | e :: es, n, r, h => by
    unfold mfind at h
    split at h
    · next hk => cases h; exact ⟨0, rfl, by simp, by simp [mdel, hk], ⟨e, rfl, hk, rfl⟩, fun k v clk => by simp [mset, hk]⟩
    · next hk =>
      obtain ⟨i, h1, h2, h3, ⟨e2, h4, h5, h6⟩, h7⟩ := mfind_del h
      refine ⟨i + 1, by omega, by simpa using h2, by simp [mdel, hk, h3], ⟨e2, by simpa using h4, h5, h6⟩, fun k v clk => ?_⟩
      rw [List.modify_succ_cons, h7 k v clk]
      simp [mset, hk]
theorem mget_none {a : Int} : ∀ {es : List MapEntry} {n : Nat}, mfind a es n = none → mdel a es = es ∧ mget a es = none ∧ ∀ k v clk, mset k a v clk es = es ++ [⟨.int k a, v, clk⟩]
  | [], n, h => ⟨rfl, rfl, fun k v clk => rfl⟩
  | e :: es, n, h => by
    unfold mfind at h
    split at h
    · cases h
    · next hk =>
      obtain ⟨h1, h2, h3⟩ := mget_none h
      refine ⟨by simp [mdel, hk, h1], by simp [mget, hk, h2], fun k v clk => by simp [mset, hk, h3 k v clk]⟩
theorem mget_set {k : IntKind} {a b : Int} {v : Value} {clk : Nat} : ∀ {es : List MapEntry}, mget b (mset k a v clk es) = if b = a then some v else mget b es
  | [] => by unfold mset mget keyIs; by_cases h : b = a <;> simp [h, mget]
  | e :: es => by
    have ih := mget_set (k := k) (a := a) (b := b) (v := v) (clk := clk) (es := es)
    unfold mset
    by_cases hk : keyIs a e = true
    · rw [if_pos hk]
      unfold mget
      by_cases h : b = a
      · subst h; simp [keyIs]
      · have e1 : keyIs b ⟨.int k a, v, e.born⟩ = false := by simp [keyIs, h]
        have e2 : keyIs b e = false := by
          unfold keyIs at hk ⊢
          cases hc : e.key <;> rw [hc] at hk <;> simp_all
        rw [e1, e2, if_neg h]; simp
    · rw [if_neg hk]
      unfold mget
      by_cases hb : keyIs b e = true
      · rw [if_pos hb, if_pos hb]
        by_cases h : b = a
        · subst h; exact absurd hb hk
        · rw [if_neg h]
      · rw [if_neg hb, if_neg hb, ih]
/-- No key lies in the map twice. -/
def Once (es : List MapEntry) : Prop := es.Pairwise fun e f => ∀ a, keyIs a e = true → keyIs a f = false
theorem mget_mem {a : Int} : ∀ {es : List MapEntry}, (∀ e ∈ es, keyIs a e = false) → mget a es = none
  | [], _ => rfl
  | e :: es, h => by unfold mget; rw [h e List.mem_cons_self]; simp [mget_mem fun e he => h e (List.mem_cons_of_mem _ he)]
theorem keyIs_eq {a b : Int} {e : MapEntry} (h : keyIs a e = true) (k : keyIs b e = true) : a = b := by
  unfold keyIs at h k
  cases hc : e.key <;> rw [hc] at h k <;> simp_all
theorem mget_del {a b : Int} : ∀ {es : List MapEntry}, Once es → mget b (mdel a es) = if b = a then none else mget b es
  | [], _ => by simp [mdel, mget]
  | e :: es, h => by
    have h1 := List.pairwise_cons.1 h
    have ih := mget_del (a := a) (b := b) h1.2
    unfold mdel
    by_cases hk : keyIs a e = true
    · rw [if_pos hk]
      by_cases hb : b = a
      · subst hb; rw [if_pos rfl]; exact mget_mem fun f hf => h1.1 f hf b hk
      · rw [if_neg hb]
        have : keyIs b e = false := by
          cases hc : keyIs b e with
          | false => rfl
          | true => exact absurd (keyIs_eq hc hk) hb
        unfold mget; rw [this]; cases es <;> simp [mget]
    · rw [if_neg hk]
      unfold mget
      by_cases hb : keyIs b e = true
      · rw [if_pos hb, if_pos hb]
        by_cases h : b = a
        · subst h; exact absurd hb hk
        · rw [if_neg h]
      · rw [if_neg hb, if_neg hb, ih]
theorem Once.nil : Once [] := List.Pairwise.nil
theorem Once.del {a : Int} : ∀ {es : List MapEntry}, Once es → Once (mdel a es)
  | [], h => h
  | e :: es, h => by
    have h1 := List.pairwise_cons.1 h
    unfold mdel
    split
    · exact h1.2
    · exact List.pairwise_cons.2 ⟨fun f hf => h1.1 f (mem_mdel hf), Once.del h1.2⟩
theorem mem_mset {k : IntKind} {a : Int} {v : Value} {clk : Nat} : ∀ {es : List MapEntry} {f : MapEntry}, f ∈ mset k a v clk es → (∀ b, keyIs b f = true → b = a) ∨ f ∈ es
  | [], f, h => .inl fun b hb => by
      have : f = ⟨.int k a, v, clk⟩ := by simpa [mset] using h
      subst this; simpa [keyIs] using hb
  | e :: es, f, h => by
    unfold mset at h
    split at h
    · rcases List.mem_cons.1 h with rfl | h
      · exact .inl fun b hb => by simpa [keyIs] using hb
      · exact .inr (List.mem_cons_of_mem _ h)
    · rcases List.mem_cons.1 h with rfl | h
      · exact .inr List.mem_cons_self
      · exact (mem_mset h).imp id (List.mem_cons_of_mem _)
theorem Once.set {k : IntKind} {a : Int} {v : Value} {clk : Nat} : ∀ {es : List MapEntry}, Once es → Once (mset k a v clk es)
  | [], h => by unfold mset; exact List.pairwise_singleton _ _
  | e :: es, h => by
    have h1 := List.pairwise_cons.1 h
    unfold mset
    split
    · next hk =>
      refine List.pairwise_cons.2 ⟨fun f hf b hb => ?_, h1.2⟩
      have : b = a := by simpa [keyIs] using hb
      subst this
      exact h1.1 f hf b hk
    · next hk =>
      refine List.pairwise_cons.2 ⟨fun f hf b hb => ?_, Once.set h1.2⟩
      rcases mem_mset hf with hf | hf
      · cases hc : keyIs b f with
        | false => rfl
        | true => have := hf b hc
                  subst this
                  exact absurd hb hk
      · exact h1.1 f hf b hb
/-- A map lies in memory. -/
def MapAt (W0 : World) (H : SHeap) (r : Nat) (es : List MapEntry) (clk : Nat) : Prop := Wf W0 H → objAt W0 H r = some (.map es.toArray clk)
theorem map_at {W0 : World} {H : SHeap} {r : Nat} {es : List MapEntry} {clk : Nat} (hm : (r, Obj.map es.toArray clk) ∈ H) : MapAt W0 H r es clk := fun hw => hw.obj hm
theorem MapAt.mono {W0 : World} {H G : SHeap} {r : Nat} {es : List MapEntry} {clk : Nat} (h : MapAt W0 H r es clk) (hs : Sub H G) : MapAt W0 G r es clk := fun hw => by
  have h1 := h (wf_sub hs hw)
  unfold objAt at h1 ⊢
  split
  · next hb => rw [if_pos hb] at h1; exact h1
  · next hb =>
    rw [if_neg hb] at h1
    obtain ⟨E, hE⟩ := hs
    exact find_of_mem hw.1 (hE.mem_iff.1 (List.mem_append_left _ (find_mem h1)))
section
variable {P : Program} {W0 : World} {F : Fm} {H : SHeap} {d : Option Tmp} {ty : TypeId} {pos : String} {af : Array Edge} {g : Option (Nat × Bool)} {t kt et : TypeId} {x y z : Operand} {k kd : IntKind} {a : Int} {r clk : Nat} {es : List MapEntry} {zv : Value}
theorem x_makeMap (r : Nat) : Exec P W0 F H ⟨d, .makeMap t none, ty, pos, af, g⟩ (some r) (.map (some r)) ((r, .map #[] 0) :: H) := by
  refine ⟨by simp, fun x hx => by simp [Op.operands] at hx, fun hw => .inl (runSym_map _ _ ?_)⟩
  rfl
theorem rd_checkKey {b : Bool} (h : P.underlying kt = some (.int kd)) : rdSym P W0 H (Instr.checkKey b 10000 kt (.int k a)) = some () := by
  show rdSym P W0 H (Instr.checkKey b (9999 + 1) kt (.int k a)) = some ()
  unfold Instr.checkKey
  rw [rd_bind, rd_underlying h]
  rfl
theorem rd_findKey (h : P.underlying kt = some (.int kd)) (hk : IntKeys k es) : rdSym P W0 H (Instr.findKey kt (.int k a) es) = some (mfind a es 0) := by
  unfold Instr.findKey
  rw [rd_bind, rd_underlying h]
  simp only [Option.bind_some, findNow_eq hk]
  rfl
def lkV (zv : Value) (ok : Bool) (m : Option Value) : Value := if ok then .tuple #[m.getD zv, .bool m.isSome] else m.getD zv
theorem x_lookup {ok : Bool} (hu : P.underlying t = some (.map kt et)) (hk : P.underlying kt = some (.int kd)) (hz : zeroOf P et = some zv) (hx : val F x = some (.map (some r))) (hy : val F y = some (.int k a)) (hm : MapAt W0 H r es clk) (hkeys : IntKeys k es) :
    Rd P W0 F H ⟨d, .lookup t x y ok, ty, pos, af, g⟩ (lkV zv ok (mget a es)) := by
  refine exec_rd (by simp) (by simp [Op.operands, some_of hx, some_of hy]) fun hw => ?_
  simp only [execOp, ev_of hx, ev_of hy, Instr.lookup, rd_bind, rd_underlying hu, Option.bind_some]
  have e1 : rdSym P W0 H (getObj r) = some (.map es.toArray clk) := by
    simp only [getObj, rdSym, hm hw, Option.bind_some]
  simp only [e1, Option.bind_some, rd_bind, rd_pure, rd_checkKey hk, rd_findKey hk hkeys]
  rw [← mfind_get (i := 0)]
  cases mfind a es 0 with
  | none => simp only [rd_bind, rd_zero hz, Option.bind_some, rd_pure]; cases ok <;> rfl
  | some r => cases ok <;> rfl
theorem x_mapUpdate {v : Value} {H' : SHeap} (hu : P.underlying t = some (.map kt et)) (hk : P.underlying kt = some (.int kd)) (hx : val F x = some (.map (some r))) (hy : val F y = some (.int k a)) (hv : val F z = some v) (hkeys : IntKeys k es)
    (hr : Repl r (.map es.toArray clk) (.map (mset k a v clk es).toArray (mclk a es clk)) H H') : Exec P W0 F H ⟨d, .mapUpdate t x y z, ty, pos, af, g⟩ none undef H' := by
  refine ⟨by simp, by simp [Op.operands, some_of hx, some_of hy, some_of hv], fun hw => .inr ⟨?_, rfl⟩⟩
  have hge := hw.2 r (mem_keys hr.mem)
  have hob : objAt W0 H r = some (.map es.toArray clk) := hw.obj hr.mem
  have hfd := find_of_mem hw.1 hr.mem
  have e1 : rdSym P W0 H (getObj r) = some (.map es.toArray clk) := by simp only [getObj, rdSym, hob, Option.bind_some]
  have hset : ∀ o, o = Obj.map (mset k a v clk es).toArray (mclk a es clk) → runSym P W0 (setObj r o) none H = some ((), H') := by
    intro o ho
    subst ho
    rw [← hr.upd hw.1]
    simp only [setObj, runSym, hfd]
    rw [if_neg (by omega)]
  have key : runSym P W0 (Instr.mapUpdate t (.map (some r)) (.int k a) v) none H = some ((), H') := by
    simp only [Instr.mapUpdate]
    rw [runSym_bind _ (rd_run _ (rd_underlying hu))]
    simp only []
    rw [runSym_bind _ (rd_run _ e1)]
    simp only []
    rw [runSym_bind _ (rd_run _ (rd_checkKey hk)), runSym_bind _ (rd_run _ (rd_findKey hk hkeys))]
    cases hm : mfind a es 0 with
    | none =>
      obtain ⟨_, h2, h3⟩ := mget_none hm
      simp only []
      refine hset _ ?_
      rw [h3 k v clk, List.push_toArray]
      unfold mclk; rw [h2]; rfl
    | some q =>
      obtain ⟨i, val⟩ := q
      obtain ⟨j, h1, h2, h3, ⟨e2, h4, h5, h6⟩, h7⟩ := mfind_del hm
      have hij : i = j := by simpa using h1
      subst hij
      obtain ⟨b, hb⟩ := hkeys e2 (List.mem_of_getElem? h4)
      have hab : a = b := by unfold keyIs at h5; rw [hb] at h5; simpa using h5
      subst hab
      have e3 : (((es.toArray[i]?).map (·.key)).getD (Value.int k a)) = .int k a := by
        rw [List.getElem?_toArray, h4]; simp [hb]
      have e4 : Instr.keyThatStays (.int k a) (.int k a) = pure (.int k a) := by
        unfold Instr.keyThatStays
        rw [if_pos (by show Instr.sameBits (9999 + 1) _ _ = true; simp [Instr.sameBits])]
      simp only [e3, e4]
      rw [runSym_bind _ (rd_run _ (rd_pure _))]
      refine hset _ ?_
      have e5 : (mget a es).isSome = true := by rw [← mfind_get (i := 0), hm]; rfl
      unfold mclk; rw [e5, ← h7 k v clk, ← List.modify_toArray]; rfl
  simp only [execOp, ev_of hx, ev_of hy, ev_of hv]
  rw [runSym_bind _ key]; rfl
theorem x_delete {H' : SHeap} {t2 : TypeId} (hu : P.underlying t = some (.map kt et)) (hk : P.underlying kt = some (.int kd)) (hx : val F x = some (.map (some r))) (hy : val F y = some (.int k a)) (hkeys : IntKeys k es)
    (hr : Repl r (.map es.toArray clk) (.map (mdel a es).toArray clk) H H') : Exec P W0 F H ⟨d, .call ⟨.builtin .delete, #[x, y], #[t, t2]⟩, ty, pos, af, g⟩ none (.tuple #[]) H' := by
  refine ⟨by simp, by simp [Op.operands, Call.operands, some_of hx, some_of hy], fun hw => .inl ?_⟩
  have hge := hw.2 r (mem_keys hr.mem)
  have hob : objAt W0 H r = some (.map es.toArray clk) := hw.obj hr.mem
  have hfd := find_of_mem hw.1 hr.mem
  have e1 : rdSym P W0 H (getObj r) = some (.map es.toArray clk) := by simp only [getObj, rdSym, hob, Option.bind_some]
  have hset : ∀ o, o = Obj.map (mdel a es).toArray clk → runSym P W0 (setObj r o) none H = some ((), H') := by
    intro o ho
    subst ho
    rw [← hr.upd hw.1]
    simp only [setObj, runSym, hfd]
    rw [if_neg (by omega)]
  have key : runSym P W0 (Builtin.delete_ #[t, t2] ty #[.map (some r), .int k a]) none H = some (.tuple #[], H') := by
    simp only [Builtin.delete_, List.getElem?_toArray, List.getElem?_cons_zero, List.getElem?_cons_succ]
    rw [runSym_bind _ (rd_run _ (rd_underlying hu))]
    simp only []
    rw [runSym_bind _ (rd_run _ e1)]
    simp only []
    rw [runSym_bind _ (rd_run _ (rd_checkKey hk)), runSym_bind _ (rd_run _ (rd_findKey hk hkeys))]
    cases hm : mfind a es 0 with
    | none =>
      obtain ⟨h1, _, _⟩ := mget_none hm
      simp only []
      rw [runSym_bind _ (hset _ (by rw [h1]))]; rfl
    | some q =>
      obtain ⟨i, val⟩ := q
      obtain ⟨j, h1, h2, h3, _, _⟩ := mfind_del hm
      have hij : i = j := by simpa using h1
      subst hij
      simp only []
      rw [runSym_bind _ (hset _ (by rw [← h3]; congr 1; simp))]; rfl
  simp only [execOp, resolve, invoke]
  simp only [List.map_toArray, List.map_cons, List.map_nil, ev_of hx, ev_of hy, builtin]
  rw [runSym_bind _ (rd_run _ (rd_pure _))]
  exact runSym_map _ _ key
theorem rd_equal_map_nil {q : Option Nat} (h : P.underlying t = some (.map kt et)) : rdSym P W0 H (Op.equal t (.map q) (.map none)) = some q.isNone := by
  unfold Op.equal Op.maxDepth Op.equalIn; rw [rd_bind, rd_underlying h]; cases q <;> rfl
theorem x_eqnilm {t' : TypeId} {q : Option Nat} (h : P.underlying t = some (.map kt et)) (hx : val F x = some (.map q)) (hy : val F y = some (.map none)) : Rd P W0 F H ⟨d, .binOp .eql t x y t', ty, pos, af, g⟩ (.bool q.isNone) :=
  exec_eql hx hy rfl (by cases q <;> rfl) (rd_equal_map_nil h)
end
end Go.Proofs.Yteilocpjikmmdaa.Sym
