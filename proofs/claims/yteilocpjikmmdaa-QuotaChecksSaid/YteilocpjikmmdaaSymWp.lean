/- The rules of the small separation logic: frames of slots, operations, regions in order, control, calls. -/
import Derived.Test.YteilocpjikmmdaaSymCore
namespace Go.Proofs.Yteilocpjikmmdaa.Sym
open Go.RowKit (Below)
set_option linter.unusedVariables false

abbrev Fm := List (Nat × Value)
def look (t : Nat) : Fm → Option Value
  | [] => none
  | (s, v) :: F => bif Nat.beq s t then some v else look t F
def val (F : Fm) : Operand → Option Value
  | .tmp t => look t F
  | .const v => some v
  | .global g => some (.pointer (some ⟨g, 0, none⟩))
  | .func f => some (.func (.func f) #[] #[])
def ev (F : Fm) (x : Operand) : Value := (val F x).getD undef
def vals (F : Fm) : List Operand → Option (List Value)
  | [] => some []
  | x :: l => match val F x, vals F l with
    | some v, some vs => some (v :: vs)
    | _, _ => none

structure Has (N : Nat) (F : Fm) (a : Act) : Prop where
  size : a.tmps.size = N
  dfr : a.defers = []
  at_ : ∀ t v, look t F = some v → a.tmps[t]? = some v

theorem Has.val {N : Nat} {F : Fm} {a : Act} (h : Has N F a) {x : Operand} {v : Value} (hv : val F x = some v) : a.eval x = v := by
  cases x with
  | tmp t => simp only [Sym.val] at hv; simp [Act.eval, Array.getD_eq_getD_getElem?, h.at_ t v hv]
  | const c => simp only [Sym.val, Option.some.injEq] at hv; exact hv
  | global g => simp only [Sym.val, Option.some.injEq] at hv; exact hv
  | func f => simp only [Sym.val, Option.some.injEq] at hv; exact hv
theorem Has.vals {N : Nat} {F : Fm} {a : Act} (h : Has N F a) : ∀ {l : List Operand} {vs : List Value}, vals F l = some vs → l.map a.eval = vs
  | [], vs, hv => by simp only [Sym.vals, Option.some.injEq] at hv; simp [← hv]
  | x :: l, vs, hv => by
    simp only [Sym.vals] at hv
    split at hv
    · next v vs' h1 h2 =>
      cases hv
      rw [List.map_cons, h.val h1, h.vals h2]
    · cases hv

theorem look_cons_ne {d t : Nat} {v : Value} {F : Fm} (h : d ≠ t) : look t ((d, v) :: F) = look t F := by
  unfold look
  have : Nat.beq d t = false := by cases hb : Nat.beq d t with
    | false => rfl
    | true => exact absurd (Nat.eq_of_beq_eq_true hb) h
  rw [this]; cases F <;> rfl
theorem look_cons_eq {d : Nat} {v : Value} {F : Fm} : look d ((d, v) :: F) = some v := by
  unfold look; rw [Nat.beq_refl]; rfl

theorem Has.put {N : Nat} {F : Fm} {a : Act} (h : Has N F a) {d : Nat} (hd : Nat.blt d N = true) (v : Value) : Has N ((d, v) :: F) (a.put (some d) v) := by
  have hd' : d < N := by have := Nat.le_of_ble_eq_true hd; omega
  refine ⟨by simp [Act.put, h.size], by simp [Act.put, h.dfr], fun t u ht => ?_⟩
  by_cases e : d = t
  · subst e
    rw [look_cons_eq] at ht; cases ht
    simp [Act.put, h.size, hd']
  · rw [look_cons_ne e] at ht
    simp only [Act.put, Array.getElem?_setIfInBounds_ne e]
    exact h.at_ t u ht

/-- Of a frame only some slots are kept. -/
def KeepF (F F' : Fm) : Prop := ∀ t v, look t F' = some v → look t F = some v
theorem keep_nil {F : Fm} : KeepF F [] := fun t v h => by cases h
theorem keep_cons {F F' : Fm} {t : Nat} {v : Value} (h : look t F = some v) (k : KeepF F F') : KeepF F ((t, v) :: F') := fun s u hs => by
  by_cases e : t = s
  · subst e; rw [look_cons_eq] at hs; cases hs; exact h
  · rw [look_cons_ne e] at hs; exact k s u hs
theorem keep_refl {F : Fm} : KeepF F F := fun _ _ h => h
theorem KeepF.trans {F F' F'' : Fm} (h : KeepF F F') (k : KeepF F' F'') : KeepF F F'' := fun t v hv => h t v (k t v hv)
theorem Has.keep {N : Nat} {F F' : Fm} {a : Act} (h : Has N F a) (k : KeepF F F') : Has N F' a := ⟨h.size, h.dfr, fun t v hv => h.at_ t v (k t v hv)⟩

/-- A call: what it owns is H; it ends by a return, with R. -/
def AC (P : Program) (W0 : World) (f : FuncId) (args : List Value) (H : SHeap) (R : Value → SHeap → Prop) : Prop :=
  ∀ w, Own W0 H w → Calls P f args.toArray w fun e w' => ∃ v H', e = .returned v ∧ R v H' ∧ Own W0 H' w' ∧ Fr H H' w w'

theorem AC.mono {P : Program} {W0 : World} {f : FuncId} {args : List Value} {H : SHeap} {R R' : Value → SHeap → Prop} (h : AC P W0 f args H R) (hr : ∀ v H', R v H' → R' v H') : AC P W0 f args H R' :=
  fun w ho => (h w ho).mono fun e w' ⟨v, H', he, hR, r⟩ => ⟨v, H', he, hr _ _ hR, r⟩
/-- The frame rule. -/
theorem AC.frame {P : Program} {W0 : World} {f : FuncId} {args : List Value} {H : SHeap} {R : Value → SHeap → Prop} (h : AC P W0 f args H R) (F : SHeap) :
    AC P W0 f args (H ++ F) fun v H' => ∃ H1, R v H1 ∧ H' = H1 ++ F :=
  fun w ho => (h w ho.left).mono fun e w' ⟨v, H', he, hR, ho', hf⟩ => ⟨v, H' ++ F, he, ⟨H', hR, rfl⟩, (ho.frame ho' hf).1, (ho.frame ho' hf).2⟩
theorem AC.perm {P : Program} {W0 : World} {f : FuncId} {args : List Value} {H G : SHeap} {R : Value → SHeap → Prop} (h : AC P W0 f args H R) (hp : H.Perm G) : AC P W0 f args G R :=
  fun w ho => (h w (ho.perm hp.symm)).mono fun e w' ⟨v, H', he, hR, ho', hf⟩ => ⟨v, H', he, hR, ho', hf.of_keys (fun b hb => (hp.map _).mem_iff.1 hb) (fun b hb => .inl hb)⟩
/-- What the call leaves may be told in part. -/
theorem AC.drop {P : Program} {W0 : World} {f : FuncId} {args : List Value} {H : SHeap} {R R' : Value → SHeap → Prop} (h : AC P W0 f args H R) (hr : ∀ v H', R v H' → ∃ H2, R' v H2 ∧ Sub H2 H') : AC P W0 f args H R' :=
  fun w ho => (h w ho).mono fun e w' ⟨v, H', he, hR, ho', hf⟩ => let ⟨H2, h2, hs⟩ := hr _ _ hR; ⟨v, H2, he, h2, ho'.sub hs, hf.of_keys (fun _ h => h) (fun b hb => .inl (hs.keys b hb))⟩

def Callable (P : Program) (g : FuncId) : Prop := ∃ fn, P.funcs[g]? = some fn ∧ (fn.name == "runtime.NumGoroutine") = false ∧ fn.body.isNone = false

theorem callFunc_run {P : Program} {g : FuncId} (h : Callable P g) (args : Array Value) (w : World) : (callFunc g args).run P w = .ok (.enter g args) w := by
  obtain ⟨fn, h1, h2, h3⟩ := h
  simp only [callFunc, Bind.bind, program, Sem.bind, Sem.run, h1, h2, h3, Bool.false_eq_true, if_false]
  rfl

theorem execOp_call {ρ : Operand → Value} {o : Oper} {c : Call} {x : Operand} {g : FuncId} {P : Program} {cap : Array Value} (ho : o.op = .call c) (hc : c.callee = .value x) (hx : ρ x = .func (.func g) #[] cap) (h : Callable P g) (w : World) :
    (execOp ρ o).run P w = .ok (.enter g (c.args.map ρ ++ cap)) w := by
  unfold execOp
  rw [ho]
  simp only [resolve, hc, hx]
  simp only [Deferred.ofValue, Bind.bind, Pure.pure, Sem.bind, invoke]
  simpa using callFunc_run h _ w

/-- One operation of a region, told by what it may come to. -/
def OpS (P : Program) (W0 : World) (F : Fm) (H : SHeap) (o : Oper) (R : Value → SHeap → Prop) : Prop :=
  ∀ N a w Q (next : Act → World → Prop), Has N F a → Own W0 H w → (∀ v H' w', R v H' → Own W0 H' w' → Fr H H' w w' → next (a.put o.dst v) w') → o.wp P a w next Q

theorem OpS.mono {P : Program} {W0 : World} {F : Fm} {H : SHeap} {o : Oper} {R R' : Value → SHeap → Prop} (h : OpS P W0 F H o R) (hr : ∀ v H', R v H' → R' v H') : OpS P W0 F H o R' :=
  fun N a w Q next hh ho k => h N a w Q next hh ho fun v H' w' hR => k v H' w' (hr _ _ hR)

/-- What one operation does to what is owned, by reckoning. -/
structure Exec (P : Program) (W0 : World) (F : Fm) (H : SHeap) (o : Oper) (ro : Option Nat) (v : Value) (H' : SHeap) : Prop where
  sel : ∀ cs b, o.op ≠ .select cs b
  opd : ∀ x ∈ o.op.operands, (val F x).isSome
  run : Wf W0 H → (runSym P W0 (execOp (ev F) o) ro H = some (.value v, H') ∨ (runSym P W0 (execOp (ev F) o) ro H = some (.skip, H') ∧ v = undef))

theorem Exec.eq {P : Program} {W0 : World} {F : Fm} {H H' : SHeap} {o : Oper} {ro : Option Nat} {v : Value} (h : Exec P W0 F H o ro v H') {N : Nat} {a : Act} (hh : Has N F a) : execOp a.eval o = execOp (ev F) o :=
  execOp_congr o h.sel fun x hx => by
    obtain ⟨u, hu⟩ := Option.isSome_iff_exists.1 (h.opd x hx)
    rw [hh.val hu]; simp [ev, hu]

theorem Exec.opS {P : Program} {W0 : World} {F : Fm} {H H' : SHeap} {o : Oper} {v : Value} (h : Exec P W0 F H o none v H') : OpS P W0 F H o fun u H'' => u = v ∧ H'' = H' := by
  intro N a w Q next hh ho k
  unfold Oper.wp
  rw [h.eq hh]
  rcases h.run ho.wf with h4 | ⟨h4, h5⟩
  · obtain ⟨w', h1, h2, h3⟩ := runSym_sound _ h4 ho (by simp)
    rw [h1, Oper.upon_value]; exact k _ _ _ ⟨rfl, rfl⟩ h2 h3
  · obtain ⟨w', h1, h2, h3⟩ := runSym_sound _ h4 ho (by simp)
    rw [h1, Oper.upon_skip]; exact k _ _ _ ⟨h5.symm, rfl⟩ h2 h3

theorem Exec.opS_new {P : Program} {W0 : World} {F : Fm} {H : SHeap} {H' : Nat → SHeap} {o : Oper} {v : Nat → Value} (h : ∀ r, Exec P W0 F H o (some r) (v r) (H' r)) :
    OpS P W0 F H o fun u H'' => ∃ r, r ∉ keys H ∧ W0.heap.size ≤ r ∧ u = v r ∧ H'' = H' r := by
  intro N a w Q next hh ho k
  unfold Oper.wp
  have h' := h w.heap.size
  rw [h'.eq hh]
  have hr : w.heap.size ∉ keys H := fun hc => Nat.lt_irrefl _ (ho.lt hc)
  rcases h'.run ho.wf with h1 | ⟨h1, h5⟩
  · obtain ⟨w', h1, h2, h3⟩ := runSym_sound _ h1 ho (by simp)
    rw [h1, Oper.upon_value]; exact k _ _ _ ⟨w.heap.size, hr, ho.below.size, rfl, rfl⟩ h2 h3
  · obtain ⟨w', h1, h2, h3⟩ := runSym_sound _ h1 ho (by simp)
    rw [h1, Oper.upon_skip]; exact k _ _ _ ⟨w.heap.size, hr, ho.below.size, h5 ▸ rfl, rfl⟩ h2 h3

theorem opS_call {P : Program} {W0 : World} {F : Fm} {H : SHeap} {o : Oper} {c : Call} {x : Operand} {g : FuncId} {cap : Array Value} {vs : List Value} {R : Value → SHeap → Prop} (ho : o.op = .call c) (hc : c.callee = .value x)
    (hx : val F x = some (.func (.func g) #[] cap)) (hv : vals F c.args.toList = some vs) (hg : Callable P g) (h : AC P W0 g (vs ++ cap.toList) H R) : OpS P W0 F H o R := by
  intro N a w Q next hh hO k
  unfold Oper.wp
  rw [execOp_call ho hc (hh.val hx) hg w, Oper.upon_enter]
  have e : c.args.map a.eval ++ cap = (vs ++ cap.toList).toArray := by
    apply Array.toList_inj.1
    simp [hh.vals hv]
  rw [e]
  refine (h w hO).mono ?_
  rintro e w' ⟨v, H', rfl, hR, ho', hf⟩
  exact k v H' w' hR ho' hf

/-- The operations of a region from the i-th on, in the text's order. -/
def SR (P : Program) (W0 : World) (N : Nat) (ops : Array Oper) (i : Nat) (rest : List Oper) (F : Fm) (H : SHeap) (K : Fm → SHeap → Prop) : Prop :=
  ops.toList.drop i = rest → ∀ a w Q, Has N F a → Own W0 H w → (∀ F' H' a' w', K F' H' → Has N F' a' → Own W0 H' w' → Fr H H' w w' → Q .normal a' w') → wpOps P ops Q (List.range' i rest.length) a w

section sr
variable {P : Program} {W0 : World} {N : Nat} {ops : Array Oper} {i : Nat} {rest : List Oper} {F : Fm} {H : SHeap} {K : Fm → SHeap → Prop} {o : Oper}

theorem drop_cons (h : ops.toList.drop i = o :: rest) : ops[i]? = some o ∧ ops.toList.drop (i + 1) = rest := by
  constructor
  · have := congrArg (·[0]?) h
    simpa using this
  · have := congrArg (List.drop 1) h
    simpa [List.drop_drop, Nat.add_comm] using this

theorem sr_nil (h : K F H) : SR P W0 N ops i [] F H K := fun _ a w Q hh ho k => by
  simp only [List.length_nil, List.range'_zero, wpOps]; exact k _ _ _ _ h hh ho (Fr.refl _ _)

def gslot (ops : Array Oper) (j : Nat) : Option Tmp := (ops[j]?).bind (·.dst)

def gbool (want : Bool) : Value → Bool
  | .bool c => c == want
  | _ => false
theorem yielded_gb {a : Act} {j d : Nat} {v : Value} {want : Bool} (hj : gslot ops j = some d) (hd : a.tmps[d]? = some v) : (yielded ops a.tmps j == some want) = gbool want v := by
  unfold yielded; unfold gslot at hj; rw [hj]
  simp only [Option.bind_some, hd]
  cases v <;> simp [gbool]

/-- Is the operation wanted? -/
def Wtd (ops : Array Oper) (F : Fm) (o : Oper) (b : Bool) : Prop :=
  match o.guard with
  | none => b = true
  | some (j, want) => ∃ d v, gslot ops j = some d ∧ look d F = some v ∧ b = gbool want v
theorem wtd_none (h : o.guard = none) : Wtd ops F o true := by unfold Wtd; rw [h]
theorem wtd_yes {j d : Nat} {c : Bool} (h : o.guard = some (j, c)) (hj : gslot ops j = some d) (hd : look d F = some (.bool c)) : Wtd ops F o true := by
  unfold Wtd; rw [h]; exact ⟨d, _, hj, hd, by simp [gbool]⟩
theorem wtd_no {j d : Nat} {c b : Bool} (h : o.guard = some (j, b)) (hj : gslot ops j = some d) (hd : look d F = some (.bool c)) (hn : c = !b) : Wtd ops F o false := by
  unfold Wtd; rw [h]; exact ⟨d, _, hj, hd, by subst hn; cases b <;> rfl⟩
theorem wtd_un {j d : Nat} {b : Bool} (h : o.guard = some (j, b)) (hj : gslot ops j = some d) (hd : look d F = some undef) : Wtd ops F o false := by
  unfold Wtd; rw [h]; exact ⟨d, _, hj, hd, rfl⟩
theorem Wtd.wanted {a : Act} {b : Bool} (hh : Has N F a) (h : Wtd ops F o b) : Region.wanted o (yielded ops a.tmps) = b := by
  unfold Wtd at h; unfold Region.wanted
  split at h
  · next hg => rw [hg]; exact h.symm
  · next j want hg =>
    rw [hg]; obtain ⟨d, v, h1, h2, rfl⟩ := h
    exact yielded_gb h1 (hh.at_ d v h2)

theorem put_none (a : Act) (v : Value) : a.put none v = a := rfl

theorem sr_op {R : Value → SHeap → Prop} (hw : Wtd ops F o true) (h : OpS P W0 F H o R)
    (k : ∀ v H', R v H' → ∀ a : Act, Has N F a → ∃ F', Has N F' (a.put o.dst v) ∧ SR P W0 N ops (i + 1) rest F' H' K) : SR P W0 N ops i (o :: rest) F H K := by
  intro hd a w Q hh ho kk
  obtain ⟨h1, h2⟩ := drop_cons hd
  rw [List.length_cons, List.range'_succ]
  simp only [wpOps, h1, hw.wanted hh, if_true]
  refine .inl (h N a w Q _ hh ho fun v H' w' hR ho' hf => ?_)
  obtain ⟨F', hF', hs⟩ := k v H' hR a hh
  exact hs h2 _ _ _ hF' ho' fun F2 H2 a2 w2 hK hh2 ho2 hf2 => kk _ _ _ _ hK hh2 ho2 (hf.trans hf2)

/-- An operation with a slot. -/
theorem sr_d {R : Value → SHeap → Prop} {d : Nat} (hd : o.dst = some d) (hw : Wtd ops F o true) (hN : Nat.blt d N = true) (h : OpS P W0 F H o R)
    (k : ∀ v H', R v H' → SR P W0 N ops (i + 1) rest ((d, v) :: F) H' K) : SR P W0 N ops i (o :: rest) F H K :=
  sr_op hw h fun v H' hR a hh => ⟨_, hd ▸ hh.put hN v, k v H' hR⟩
theorem sr_0 {R : Value → SHeap → Prop} (hd : o.dst = none) (hw : Wtd ops F o true) (h : OpS P W0 F H o R)
    (k : ∀ v H', R v H' → SR P W0 N ops (i + 1) rest F H' K) : SR P W0 N ops i (o :: rest) F H K :=
  sr_op hw h fun v H' hR a hh => ⟨_, by rw [hd]; exact hh, k v H' hR⟩
theorem sr_x {d : Nat} {v : Value} {H' : SHeap} (hd : o.dst = some d) (hw : Wtd ops F o true) (hN : Nat.blt d N = true) (h : Exec P W0 F H o none v H')
    (k : SR P W0 N ops (i + 1) rest ((d, v) :: F) H' K) : SR P W0 N ops i (o :: rest) F H K :=
  sr_d hd hw hN h.opS fun u H'' ⟨h1, h2⟩ => by subst h1; subst h2; exact k
theorem sr_x0 {v : Value} {H' : SHeap} (hd : o.dst = none) (hw : Wtd ops F o true) (h : Exec P W0 F H o none v H')
    (k : SR P W0 N ops (i + 1) rest F H' K) : SR P W0 N ops i (o :: rest) F H K :=
  sr_0 hd hw h.opS fun u H'' ⟨h1, h2⟩ => by subst h1; subst h2; exact k
theorem sr_new {d : Nat} {v : Nat → Value} {H' : Nat → SHeap} (hd : o.dst = some d) (hw : Wtd ops F o true) (hN : Nat.blt d N = true) (h : ∀ r, Exec P W0 F H o (some r) (v r) (H' r))
    (k : ∀ r, r ∉ keys H → W0.heap.size ≤ r → SR P W0 N ops (i + 1) rest ((d, v r) :: F) (H' r) K) : SR P W0 N ops i (o :: rest) F H K :=
  sr_d hd hw hN (Exec.opS_new h) fun u H'' ⟨r, h0, hge, h1, h2⟩ => by subst h1; subst h2; exact k r h0 hge
/-- A comparison: both ways. -/
theorem sr_cmp {d : Nat} {p : Prop} [Decidable p] (hd : o.dst = some d) (hw : Wtd ops F o true) (hN : Nat.blt d N = true) (h : Exec P W0 F H o none (.bool (decide p)) H)
    (k1 : p → SR P W0 N ops (i + 1) rest ((d, .bool true) :: F) H K) (k2 : ¬ p → SR P W0 N ops (i + 1) rest ((d, .bool false) :: F) H K) : SR P W0 N ops i (o :: rest) F H K := by
  refine sr_x hd hw hN h ?_
  by_cases hp : p
  · rw [decide_eq_true hp]; exact k1 hp
  · rw [decide_eq_false hp]; exact k2 hp
/-- An operation that is not wanted. -/
theorem sr_skip {d : Nat} (hd : o.dst = some d) (hw : Wtd ops F o false) (hN : Nat.blt d N = true) (k : SR P W0 N ops (i + 1) rest ((d, undef) :: F) H K) : SR P W0 N ops i (o :: rest) F H K := by
  intro hd' a w Q hh ho kk
  obtain ⟨h1, h2⟩ := drop_cons hd'
  rw [List.length_cons, List.range'_succ]
  simp only [wpOps, h1, hw.wanted hh, Bool.false_eq_true, if_false]
  exact k h2 _ _ _ (hd ▸ hh.put hN undef) ho fun F2 H2 a2 w2 hK hh2 ho2 hf2 => kk _ _ _ _ hK hh2 ho2 hf2
theorem sr_skip0 (hd : o.dst = none) (hw : Wtd ops F o false) (k : SR P W0 N ops (i + 1) rest F H K) : SR P W0 N ops i (o :: rest) F H K := by
  intro hd' a w Q hh ho kk
  obtain ⟨h1, h2⟩ := drop_cons hd'
  rw [List.length_cons, List.range'_succ]
  simp only [wpOps, h1, hw.wanted hh, Bool.false_eq_true, if_false, hd]
  exact k h2 _ _ _ hh ho fun F2 H2 a2 w2 hK hh2 ho2 hf2 => kk _ _ _ _ hK hh2 ho2 hf2
/-- A part of the blocks suffices. -/
theorem sr_sub {G : SHeap} (hs : Sub G H) (k : SR P W0 N ops i rest F G K) : SR P W0 N ops i rest F H K := by
  intro hd a w Q hh ho kk
  exact k hd a w Q hh (ho.sub hs) fun F2 H2 a2 w2 hK hh2 ho2 hf2 => kk _ _ _ _ hK hh2 ho2 (hf2.of_keys hs.keys fun b hb => .inl hb)
theorem sr_keep {F' : Fm} (hs : KeepF F F') (k : SR P W0 N ops i rest F' H K) : SR P W0 N ops i rest F H K := by
  intro hd a w Q hh ho kk
  exact k hd a w Q (hh.keep hs) ho kk
end sr

/-- A piece of code. -/
def AW (P : Program) (W0 : World) (N : Nat) (c : Code) (F : Fm) (H : SHeap) (K : Exit → Fm → SHeap → Prop) : Prop :=
  ∀ a w Q, Has N F a → Own W0 H w → (∀ e F' H' a' w', K e F' H' → Has N F' a' → Own W0 H' w' → Fr H H' w w' → Q e a' w') → c.wp P Q a w

section aw
variable {P : Program} {W0 : World} {N : Nat} {F : Fm} {H : SHeap} {K : Exit → Fm → SHeap → Prop} {c x y : Code}

theorem aw_mono {K' : Exit → Fm → SHeap → Prop} (h : AW P W0 N c F H K') (hk : ∀ e F H, K' e F H → K e F H) : AW P W0 N c F H K :=
  fun a w Q hh ho kk => h a w Q hh ho fun e F' H' a' w' hK => kk e F' H' a' w' (hk _ _ _ hK)
theorem aw_sub {G : SHeap} (hs : Sub G H) (h : AW P W0 N c F G K) : AW P W0 N c F H K :=
  fun a w Q hh ho kk => h a w Q hh (ho.sub hs) fun e F' H' a' w' hK hh' ho' hf => kk e F' H' a' w' hK hh' ho' (hf.of_keys hs.keys fun b hb => .inl hb)
theorem aw_keep {F' : Fm} (hs : KeepF F F') (h : AW P W0 N c F' H K) : AW P W0 N c F H K :=
  fun a w Q hh ho kk => h a w Q (hh.keep hs) ho kk
theorem aw_region {id : Nat} {ops : Array Oper} (h : SR P W0 N ops 0 ops.toList F H (fun F' H' => K .normal F' H')) : AW P W0 N (.region id ops false) F H K := by
  intro a w Q hh ho kk
  refine wp_region ?_
  have := h rfl a w Q hh ho fun F' H' a' w' hK => kk _ _ _ _ _ hK
  rwa [Array.length_toList, ← List.range_eq_range'] at this
theorem aw_skip (h : K .normal F H) : AW P W0 N .skip F H K := fun a w Q hh ho kk => wp_skip (kk _ _ _ _ _ h hh ho (Fr.refl _ _))
theorem aw_ret (h : K .ret F H) : AW P W0 N .ret F H K := fun a w Q hh ho kk => wp_ret (kk _ _ _ _ _ h hh ho (Fr.refl _ _))
theorem aw_exit {id : Nat} (h : K (.exit id) F H) : AW P W0 N (.exit id) F H K := fun a w Q hh ho kk => wp_exit (kk _ _ _ _ _ h hh ho (Fr.refl _ _))

def thenK (K2 : Fm → SHeap → Prop) (K : Exit → Fm → SHeap → Prop) : Exit → Fm → SHeap → Prop
  | .normal, F, H => K2 F H
  | e, F, H => K e F H
theorem aw_seq (h : AW P W0 N x F H (thenK (fun F' H' => AW P W0 N y F' H' K) K)) : AW P W0 N (.seq x y) F H K := by
  intro a w Q hh ho kk
  refine wp_seq (h a w _ hh ho fun e F' H' a' w' hK hh' ho' hf => ?_)
  cases e with
  | normal => exact hK a' w' Q hh' ho' fun e F2 H2 a2 w2 hK2 hh2 ho2 hf2 => kk _ _ _ _ _ hK2 hh2 ho2 (hf.trans hf2)
  | _ => exact kk _ _ _ _ _ hK hh' ho' hf
/-- With a meeting point: what holds between x and y. -/
theorem aw_cut (M : Fm → SHeap → Prop) (h : AW P W0 N x F H (thenK M K)) (k : ∀ F' H', M F' H' → AW P W0 N y F' H' K) : AW P W0 N (.seq x y) F H K := by
  refine aw_seq (aw_mono h fun e F H hK => ?_)
  cases e with
  | normal => exact k _ _ hK
  | _ => exact hK
theorem aw_seq_region {id : Nat} {ops : Array Oper} (h : SR P W0 N ops 0 ops.toList F H (fun F' H' => AW P W0 N y F' H' K)) : AW P W0 N (.seq (.region id ops false) y) F H K :=
  aw_seq (aw_region h)
theorem aw_cond {o : Operand} {b : Bool} (hb : val F o = some (.bool b)) (h1 : b = true → AW P W0 N x F H K) (h2 : b = false → AW P W0 N y F H K) : AW P W0 N (.cond o x y) F H K := by
  intro a w Q hh ho kk
  refine wp_cond (hh.val hb) ?_
  cases b
  · exact h2 rfl a w Q hh ho kk
  · exact h1 rfl a w Q hh ho kk
theorem aw_true {o : Operand} (hb : val F o = some (.bool true)) (h1 : AW P W0 N x F H K) : AW P W0 N (.cond o x y) F H K := aw_cond hb (fun _ => h1) (fun e => by cases e)
theorem aw_false {o : Operand} (hb : val F o = some (.bool false)) (h1 : AW P W0 N y F H K) : AW P W0 N (.cond o x y) F H K := aw_cond hb (fun e => by cases e) (fun _ => h1)

def inBlockK (id : Nat) (K : Exit → Fm → SHeap → Prop) : Exit → Fm → SHeap → Prop
  | .exit id', F, H => bif Nat.beq id' id then K .normal F H else K (.exit id') F H
  | e, F, H => K e F H
theorem aw_block {id : Nat} (h : AW P W0 N c F H (inBlockK id K)) : AW P W0 N (.block id c) F H K := by
  intro a w Q hh ho kk
  refine wp_block (h a w _ hh ho fun e F' H' a' w' hK hh' ho' hf => ?_)
  cases e with
  | exit id' =>
    simp only [inBlockK, Exit.inBlock] at hK ⊢
    by_cases e : id' = id
    · subst e; rw [Nat.beq_refl] at hK; rw [if_pos rfl]; exact kk _ _ _ _ _ hK hh' ho' hf
    · have : Nat.beq id' id = false := by cases hb : Nat.beq id' id with
        | false => rfl
        | true => exact absurd (Nat.eq_of_beq_eq_true hb) e
      rw [this] at hK; rw [if_neg e]; exact kk _ _ _ _ _ hK hh' ho' hf
  | _ => exact kk _ _ _ _ _ hK hh' ho' hf

/-- A loop: a state of one's own, what it lays down of frame and blocks, and a measure. -/
theorem aw_loop {ι : Type} (Inv : ι → Prop) (Fl : ι → Fm) (Hl : ι → SHeap) (μ : ι → Nat) (s0 : ι) (h0 : Inv s0) (hF : KeepF F (Fl s0)) (hH : Sub (Hl s0) H)
    (round : ∀ s, Inv s → AW P W0 N c (Fl s) (Hl s) (thenK (fun F' H' => ∃ s', Inv s' ∧ μ s' < μ s ∧ KeepF F' (Fl s') ∧ Sub (Hl s') H') K)) : AW P W0 N (.loop c) F H K := by
  intro a w Q hh ho kk b k cs
  have key : ∀ n s a1 w1, μ s = n → Inv s → Has N (Fl s) a1 → Own W0 (Hl s) w1 → Fr H (Hl s) w w1 →
      ∃ e a' w', Q e a' w' ∧ Arrives P (lone (b.at a1 (.code c :: .inLoop c :: k)) cs w1) b k cs e a' w' := by
    intro n
    induction n using Nat.strongRecOn with
    | _ n ih =>
      intro s a1 w1 hn hI hF1 ho1 hf1
      obtain ⟨e, a2, w2, hq, harr⟩ := round s hI a1 w1 (fun e a2 w2 => (e = .normal ∧ ∃ s', Inv s' ∧ μ s' < μ s ∧ Has N (Fl s') a2 ∧ Own W0 (Hl s') w2 ∧ Fr H (Hl s') w w2) ∨ (e ≠ .normal ∧ Q e a2 w2)) hF1 ho1
        (fun e F' H' a' w' hK hh' ho' hf => by
          cases e with
          | normal =>
            obtain ⟨s', h1, h2, h3, h4⟩ := hK
            exact .inl ⟨rfl, s', h1, h2, hh'.keep h3, ho'.sub h4, (hf1.trans hf).of_keys (fun _ h => h) fun b hb => .inl (h4.keys b hb)⟩
          | _ => exact .inr ⟨by simp, kk _ _ _ _ _ hK hh' ho' (hf1.trans hf)⟩) b (.inLoop c :: k) cs
      rcases hq with ⟨rfl, s', h1, h2, h3, h4, h5⟩ | ⟨hne, hq⟩
      · obtain ⟨e₂, a₂, w₂, hq₂, harr₂⟩ := ih (μ s') (hn ▸ h2) s' a2 w2 rfl h1 h3 h4 h5
        exact ⟨e₂, a₂, w₂, hq₂, .of_steps (Steps.trans harr (.one step_inLoop)) harr₂⟩
      · cases e with
        | normal => exact absurd rfl hne
        | exit id => exact ⟨_, a2, w2, hq, .pass (x := .inLoop c) rfl (fun _ _ => .inl (by simp)) harr⟩
        | goto l => exact ⟨_, a2, w2, hq, .pass (x := .inLoop c) rfl (fun _ _ => .inl (by simp)) harr⟩
        | ret => exact ⟨_, a2, w2, hq, .pass (x := .inLoop c) rfl (fun _ _ => .inl (by simp)) harr⟩
        | panic ch => exact ⟨_, a2, w2, hq, .pass (x := .inLoop c) rfl (fun _ _ => .inl (by simp)) harr⟩
        | outgrown => exact ⟨_, a2, w2, hq, .pass (x := .inLoop c) rfl (fun _ _ => .inl (by simp)) harr⟩
  obtain ⟨e, a', w', hq, harr⟩ := key _ s0 a w rfl h0 (hh.keep hF) (ho.sub hH) ((Fr.refl H w).of_keys (fun _ h => h) fun b hb => .inl (hH.keys b hb))
  exact ⟨e, a', w', hq, .of_steps (.one step_loop) harr⟩
end aw


/-- What a call hands back. -/
def ResV (P : Program) (W0 : World) (N : Nat) (fn : Func) (F : Fm) (H : SHeap) (v : Value) : Prop :=
  ∀ a w, Has N F a → Own W0 H w → (results fn a.tmps).run P w = .ok v w
def retK (P : Program) (W0 : World) (N : Nat) (fn : Func) (R : Value → SHeap → Prop) : Exit → Fm → SHeap → Prop
  | .normal, F, H | .ret, F, H => ∃ v H2, ResV P W0 N fn F H v ∧ Sub H2 H ∧ R v H2
  | _, _, _ => False
def argF : Nat → List Value → Fm
  | _, [] => []
  | i, v :: l => (i, v) :: argF (i + 1) l
theorem look_argF (l : List Value) : ∀ i t v, look t (argF i l) = some v → i ≤ t ∧ l[t - i]? = some v := by
  induction l with
  | nil => intro i t v h; cases h
  | cons x l ih =>
    intro i t v h
    unfold argF at h
    by_cases e : i = t
    · subst e; rw [look_cons_eq] at h; cases h; simp
    · rw [look_cons_ne e] at h
      obtain ⟨h1, h2⟩ := ih _ _ _ h
      refine ⟨by omega, ?_⟩
      have : t - i = (t - (i + 1)) + 1 := by omega
      rw [this, List.getElem?_cons_succ]; exact h2

theorem ac_of {P : Program} {W0 : World} {f : FuncId} {fn : Func} {c : Code} {N : Nat} {args : List Value} {H : SHeap} {R : Value → SHeap → Prop} (hf : P.funcs[f]? = some fn) (hb : fn.body = some c) (hN : fn.ntmps = N)
    (hl : Nat.ble args.length N = true) (h : AW P W0 N c (argF 0 args) H (retK P W0 N fn R)) : AC P W0 f args H R := by
  intro w ho
  refine calls_of_wp hf hb ?_
  have hl' := Nat.le_of_ble_eq_true hl
  refine h _ w _ ⟨by simp [hN]; omega, rfl, fun t v ht => ?_⟩ ho fun e F' H' a' w' hK hh ho' hf' => ?_
  · obtain ⟨_, h2⟩ := look_argF _ _ _ _ ht
    have hlt : t < args.length := by
      rcases Nat.lt_or_ge t args.length with h | h
      · exact h
      · simp [List.getElem?_eq_none h] at h2
    simp only [Array.getElem?_append, List.size_toArray]
    rw [if_pos hlt]; simpa using h2
  · cases e <;> simp only [retK] at hK <;> first | exact hK.elim | skip
    all_goals
      obtain ⟨v, H2, h1, h2, h3⟩ := hK
      exact ⟨hh.dfr, v, h1 a' w' hh ho', v, H2, rfl, h3, ho'.sub h2, hf'.of_keys (fun _ h => h) fun b hb => .inl (h2.keys b hb)⟩

def rval (P : Program) (W0 : World) (F : Fm) (H : SHeap) : ResultVar → Value → Prop
  | .tmp t, v => look t F = some v
  | .cell a t, v => ∃ p, look a F = some (.pointer (some p)) ∧ (Wf W0 H → rdSym P W0 H (loadVar t p) = some v)
inductive rvals (P : Program) (W0 : World) (F : Fm) (H : SHeap) : List ResultVar → List Value → Prop
  | nil : rvals P W0 F H [] []
  | cons {r : ResultVar} {v : Value} {rs : List ResultVar} {vs : List Value} : rval P W0 F H r v → rvals P W0 F H rs vs → rvals P W0 F H (r :: rs) (v :: vs)
def pack : List Value → Value
  | [v] => v
  | vs => .tuple vs.toArray
def resOne (tmps : Array Value) : ResultVar → Sem Value
  | .tmp t => Pure.pure (tmps.getD t undef)
  | .cell b t => do loadVar t (← asAddr (tmps.getD b undef))
theorem resOne_run {P : Program} {W0 : World} {F : Fm} {H : SHeap} {N : Nat} {a : Act} {w : World} (hh : Has N F a) (ho : Own W0 H w) {r : ResultVar} {v : Value} (h1 : rval P W0 F H r v) : (resOne a.tmps r).run P w = .ok v w := by
  cases r with
  | tmp t => simp only [rval] at h1; simp [resOne, Array.getD_eq_getD_getElem?, hh.at_ t v h1]
  | cell b t =>
    obtain ⟨p, h3, h4⟩ := h1
    have e : a.tmps.getD b undef = .pointer (some p) := by simp [Array.getD_eq_getD_getElem?, hh.at_ b _ h3]
    simp only [resOne, e, asAddr]
    rw [Sem.run_bind, Sem.run_pure, Result.andThen_ok]
    exact rd_sound _ (h4 ho.wf) ho
theorem rvals_run {P : Program} {W0 : World} {F : Fm} {H : SHeap} {N : Nat} {a : Act} {w : World} (hh : Has N F a) (ho : Own W0 H w) {rs : List ResultVar} {vs : List Value} (h : rvals P W0 F H rs vs) :
    (rs.mapM (resOne a.tmps)).run P w = .ok vs w := by
  induction h with
  | nil => rfl
  | cons h1 h2 ih => rw [List.mapM_cons, Sem.run_bind, resOne_run hh ho h1, Result.andThen_ok, Sem.run_bind, ih]; rfl
theorem results_eq (fn : Func) (tmps : Array Value) : results fn tmps = (do
    let vs ← fn.results.mapM (resOne tmps)
    Pure.pure (if h : vs.size = 1 then vs[0] else .tuple vs)) := by
  unfold results
  congr 1
theorem resV {P : Program} {W0 : World} {N : Nat} {fn : Func} {F : Fm} {H : SHeap} {rs : List ResultVar} {vs : List Value} (hr : fn.results.toList = rs) (h : rvals P W0 F H rs vs) : ResV P W0 N fn F H (pack vs) := by
  intro a w hh ho
  have h1 := rvals_run hh ho h
  have e : fn.results = rs.toArray := by rw [← hr]
  have e2 : fn.results.mapM (resOne a.tmps) = List.toArray <$> (rs.mapM (resOne a.tmps)) := by
    rw [e, Array.mapM_eq_mapM_toList]
  rw [results_eq, e2, Sem.run_bind, Sem.run_map, h1]
  simp only [Result.andThen_ok, Sem.run_pure]
  congr 1
  match vs with
  | [] => rfl
  | [v] => rfl
  | v :: u :: l => simp [pack]
end Go.Proofs.Yteilocpjikmmdaa.Sym
