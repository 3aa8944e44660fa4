/- bytealg.MakeNoZero: a new row of any bytes; copying nothing. -/
import Derived.Test.YtbcajgkaepihfaaDoorSymBld2
import Derived.Test.YtbcajgkaepihfaaDoorSymIns
import Derived.Lib.MakeNoZero
namespace Go.Proofs.YtbcajgkaepihfaaDoor.Sym
set_option linter.unusedVariables false
set_option linter.unusedSimpArgs false
section
variable {P : Program} {W0 : World} {F : Fm} {G H V E : SHeap} {d : Option Tmp} {ty : TypeId} {pos : String} {af : Array Edge} {g : Option (Nat × Bool)} {t t2 e : TypeId} {x y : Operand} {n : Nat} {v : Value}
/-- What comes of it. -/
def Mnz (n : Nat) (e : TypeId) (u : Value) (E : SHeap) : Prop := ∃ (r : Nat) (cs : List Value), n ≤ cs.length ∧ cs.length ≤ 9223372036854775807 ∧ u = .slice (some ⟨r, 0, none⟩) n cs.length ∧ E = [(r, .cells cs.toArray e (0, 0))]
theorem opSF_mnz {c : Call} {z : Operand} {f : FuncId} {fn : Func} {ps : Array TypeId} (hc : c.callee = .value z) (ha : c.args = #[x]) (hz : val F z = some (.func (.func f) #[] #[])) (hx : val F x = some (.int .i64 n)) (hf : P.funcs[f]? = some fn)
    (hnum : (fn.name == "runtime.NumGoroutine") = false) (hb : fn.body.isNone = true) (hnx : Extern.findNext fn = none) (he : Extern.find fn = some (Extern.BytealgMakeNoZero.makeNoZero ps #[t])) (ht : P.underlying t = some (.slice e)) (hn : n ≤ 1000000000) :
    OpSF P W0 (lk F) V ⟨d, .call c, ty, pos, af, g⟩ fun u H' => ∃ E, Mnz n e u E ∧ H' = E ++ V := by
  intro N' A w Q next hh hd0 hsz ho k
  obtain ⟨cs, hr, h1, h2⟩ := Go.Lib.run_makeNoZero (P := P) w ps t e ht n (by omega)
  have ez : A.eval z = .func (.func f) #[] #[] := hh z (by simp [Op.operands, Call.operands, hc]) _ (by rw [valf_lk]; exact hz)
  have ex : A.eval x = .int .i64 n := hh x (by simp [Op.operands, Call.operands, hc, ha]) _ (by rw [valf_lk]; exact hx)
  have hd1 := own_drew ho
  have hd2 := own_drew hd1.1
  have hn3 := own_new hd2.1 (.cells cs.toList.toArray e (0, 0))
  have hm : cs.size ≤ 9223372036854775807 := by
    have h3 := h2 (by unfold maxLen; omega)
    unfold maxLen at h3; exact h3
  unfold Oper.wp
  have hex : (execOp A.eval ⟨d, .call c, ty, pos, af, g⟩).run P w = .ok (.value (.slice (some ⟨w.heap.size, 0, none⟩) n cs.size)) (w.drew.drew.alloc (.cells cs e)) := by
    simp only [execOp, resolve, hc, ez, ha, List.map_toArray, List.map_cons, List.map_nil, ex, Deferred.ofValue]
    simp [invoke, callFunc, hf, hnum, hb, hnx, he, hr]
    rw [if_neg (by simpa using hnum), if_pos (Option.isNone_iff_eq_none.1 hb)]
  rw [hex, Oper.upon_value]
  refine k _ ((w.heap.size, .cells cs.toList.toArray e (0, 0)) :: V) _ ⟨_, ⟨w.heap.size, cs.toList, by simpa using h1, by simpa using hm, by simp, rfl⟩, rfl⟩ ?_ ?_
  · have := hn3.1
    rw [Array.toArray_toList] at this ⊢
    exact this
  · have := (hd1.2.trans hd2.2).trans hn3.2
    rw [Array.toArray_toList] at this ⊢
    exact this
theorem mnz_fresh : FreshE W0 (Mnz n e) ∨ ¬ n ≤ 9223372036854775807 := by
  by_cases h : n ≤ 9223372036854775807
  · refine .inl fun L => ?_
    obtain ⟨r, h1, h2⟩ := exists_fresh L W0.heap.size
    refine ⟨_, _, ⟨r, List.replicate n (.int .u8 0), by simp, by simpa using h, rfl, rfl⟩, by simp [keys], fun b hb => ?_⟩
    have : b = r := by simpa [keys] using hb
    subst this; exact ⟨h1, h2⟩
  · exact .inr h
theorem mnz_freshE (h : n ≤ 9223372036854775807) : FreshE W0 (Mnz n e) := mnz_fresh.resolve_right (fun q => q h)
/-- Nothing is copied. -/
theorem x_copy0 {b off dl dc size : Nat} (hu : P.underlying t = some (.slice e)) (hs : szOf P e = some size) (hx : val F x = some (.slice (some ⟨b, off, none⟩) dl dc)) (hy : val F y = some (.slice none 0 0)) :
    Exec P W0 F H ⟨d, .call ⟨.builtin .copy, #[x, y], #[t, t2]⟩, ty, pos, af, g⟩ none (.int .i64 0) H := by
  refine ⟨by simp, by simp [Op.operands, Call.operands, some_of hx, some_of hy], fun hw => .inl ?_⟩
  have key : runSym P W0 (Builtin.copy_ #[t, t2] ty #[.slice (some ⟨b, off, none⟩) dl dc, .slice none 0 0]) none H = some (.int .i64 0, H) := by
    simp only [Builtin.copy_, List.getElem?_toArray, List.getElem?_cons_zero, List.getElem?_cons_succ]
    rw [runSym_bind _ (rd_run _ (rd_underlying hu))]
    simp only [Builtin.lenOf]
    rw [runSym_bind _ (rd_run _ (rd_pure _)), runSym_bind _ (rd_run _ (rd_sizeOf hs))]
    simp only [Nat.zero_min, Builtin.firstCells]
    rw [runSym_bind _ (rd_run _ (rd_pure _))]
    simp only [storeCells]
    rw [runSym_bind _ (rd_run _ (rd_pure _))]
    rfl
  simp only [execOp, resolve, invoke]
  simp only [List.map_toArray, List.map_cons, List.map_nil, ev_of hx, ev_of hy, builtin]
  rw [runSym_bind _ (rd_run _ (rd_pure _))]
  exact runSym_map _ _ key
end
end Go.Proofs.YtbcajgkaepihfaaDoor.Sym
