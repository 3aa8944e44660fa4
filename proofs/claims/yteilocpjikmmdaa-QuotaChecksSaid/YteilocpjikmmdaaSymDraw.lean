/- Regions whose operations may go in more than one order: the text's order tells for all, where a check on the edges holds. -/
import Derived.Test.YteilocpjikmmdaaSymOps
namespace Go.Proofs.Yteilocpjikmmdaa.Sym
open Go.RowKit (Below)
set_option linter.unusedVariables false
set_option linter.unusedSimpArgs false

abbrev Ff := Nat → Option Value
def lk (F : Fm) : Ff := fun t => look t F
def valf (f : Ff) : Operand → Option Value
  | .tmp t => f t
  | .const v => some v
  | .global g => some (.pointer (some ⟨g, 0, none⟩))
  | .func f => some (.func (.func f) #[] #[])
def evf (f : Ff) (x : Operand) : Value := (valf f x).getD undef
theorem valf_lk (F : Fm) (x : Operand) : valf (lk F) x = val F x := by cases x <;> rfl
theorem evf_lk (F : Fm) : evf (lk F) = ev F := by funext x; simp [evf, ev, valf_lk]
structure HasF (N : Nat) (f : Ff) (a : Act) : Prop where
  size : a.tmps.size = N
  dfr : a.defers = []
  at_ : ∀ t v, f t = some v → a.tmps[t]? = some v
theorem hasF {N : Nat} {F : Fm} {a : Act} : HasF N (lk F) a ↔ Has N F a := ⟨fun h => ⟨h.size, h.dfr, h.at_⟩, fun h => ⟨h.size, h.dfr, h.at_⟩⟩
def fput (f : Ff) (d : Option Tmp) (v : Value) : Ff :=
  match d with
  | some d => fun t => if t = d then some v else f t
  | none => f
theorem lk_cons (d : Nat) (v : Value) (F : Fm) : lk ((d, v) :: F) = fput (lk F) (some d) v := by
  funext t
  show look t ((d, v) :: F) = _
  by_cases e : d = t
  · subst e; rw [look_cons_eq]; simp [fput]
  · rw [look_cons_ne e]; simp [fput, lk, Ne.symm e]
theorem HasF.val {N : Nat} {f : Ff} {a : Act} (h : HasF N f a) {x : Operand} {v : Value} (hv : valf f x = some v) : a.eval x = v := by
  cases x with
  | tmp t => simp only [valf] at hv; simp [Act.eval, Array.getD_eq_getD_getElem?, h.at_ t v hv]
  | const c => simp only [valf, Option.some.injEq] at hv; exact hv
  | global g => simp only [valf, Option.some.injEq] at hv; exact hv
  | func f => simp only [valf, Option.some.injEq] at hv; exact hv
theorem HasF.put {N : Nat} {f : Ff} {a : Act} (h : HasF N f a) {d : Option Tmp} (hd : ∀ t, d = some t → t < N) (v : Value) : HasF N (fput f d v) (a.put d v) := by
  cases d with
  | none => exact h
  | some d =>
    have hd' := hd d rfl
    refine ⟨by simp [Act.put, h.size], by simp [Act.put, h.dfr], fun t u ht => ?_⟩
    by_cases e : t = d
    · subst e
      simp only [fput, if_true, Option.some.injEq] at ht; subst ht
      simp [Act.put, h.size, hd']
    · simp only [fput, if_neg e] at ht
      simp only [Act.put, Array.getElem?_setIfInBounds_ne (Ne.symm e)]
      exact h.at_ t u ht

structure ExecF (P : Program) (W0 : World) (f : Ff) (H : SHeap) (o : Oper) (ro : Option Nat) (v : Value) (H' : SHeap) : Prop where
  sel : ∀ cs b, o.op ≠ .select cs b
  opd : ∀ x ∈ o.op.operands, (valf f x).isSome
  run : Wf W0 H → (runSym P W0 (execOp (evf f) o) ro H = some (.value v, H') ∨ (runSym P W0 (execOp (evf f) o) ro H = some (.skip, H') ∧ v = undef))
theorem Exec.f {P : Program} {W0 : World} {F : Fm} {H H' : SHeap} {o : Oper} {ro : Option Nat} {v : Value} (h : Exec P W0 F H o ro v H') : ExecF P W0 (lk F) H o ro v H' :=
  ⟨h.sel, fun x hx => by rw [valf_lk]; exact h.opd x hx, by rw [evf_lk]; exact h.run⟩
theorem ExecF.eq {P : Program} {W0 : World} {f : Ff} {H H' : SHeap} {o : Oper} {ro : Option Nat} {v : Value} (h : ExecF P W0 f H o ro v H') {N : Nat} {a : Act} (hh : HasF N f a) : execOp a.eval o = execOp (evf f) o :=
  execOp_congr o h.sel fun x hx => by
    obtain ⟨u, hu⟩ := Option.isSome_iff_exists.1 (h.opd x hx)
    rw [hh.val hu]; simp [evf, hu]
theorem ExecF.uniq {P : Program} {W0 : World} {f : Ff} {H H' H'' : SHeap} {o : Oper} {ro : Option Nat} {v u : Value} (h : ExecF P W0 f H o ro v H') (k : ExecF P W0 f H o ro u H'') (hw : Wf W0 H) : v = u ∧ H' = H'' := by
  rcases h.run hw with h | ⟨h, hv⟩ <;> rcases k.run hw with k | ⟨k, hu⟩ <;> rw [h] at k <;> simp at k
  · exact k
  · exact ⟨hv.trans hu.symm, k⟩
/-- A put of a slot that the operation does not look at. -/
theorem valf_put {f : Ff} {d : Option Tmp} {v : Value} {x : Operand} (h : ∀ t, d = some t → x ≠ .tmp t) : valf (fput f d v) x = valf f x := by
  cases d with
  | none => rfl
  | some d =>
    cases x with
    | tmp t => simp only [valf, fput]; rw [if_neg (fun e : t = d => h d rfl (by rw [e]))]
    | _ => rfl
theorem ExecF.put_iff {P : Program} {W0 : World} {f : Ff} {H H' : SHeap} {o : Oper} {ro : Option Nat} {v u : Value} {ops : Array Oper} {d : Option Tmp} (h : ∀ t, d = some t → t ∉ o.looksAt ops) : ExecF P W0 (fput f d u) H o ro v H' ↔ ExecF P W0 f H o ro v H' := by
  have hx : ∀ x ∈ o.op.operands, valf (fput f d u) x = valf f x := fun x hx => valf_put fun t ht e => h t ht (by
    subst e; exact List.mem_append_left _ (List.mem_filterMap.2 ⟨.tmp t, by simpa using hx, rfl⟩))
  have he : (∀ cs b, o.op ≠ .select cs b) → execOp (evf (fput f d u)) o = execOp (evf f) o := fun hs => execOp_congr o hs fun x hm => by simp [evf, hx x hm]
  constructor
  · intro k; exact ⟨k.sel, fun x hm => by rw [← hx x hm]; exact k.opd x hm, by rw [← he k.sel]; exact k.run⟩
  · intro k; exact ⟨k.sel, fun x hm => by rw [hx x hm]; exact k.opd x hm, by rw [he k.sel]; exact k.run⟩

def OpSF (P : Program) (W0 : World) (f : Ff) (H : SHeap) (o : Oper) (R : Value → SHeap → Prop) : Prop :=
  ∀ N a w Q (next : Act → World → Prop), (∀ x ∈ o.op.operands, ∀ v, valf f x = some v → a.eval x = v) → a.defers = [] → a.tmps.size = N → Own W0 H w → (∀ v H' w', R v H' → Own W0 H' w' → Fr H H' w w' → next (a.put o.dst v) w') → o.wp P a w next Q
theorem OpSF.put_iff {P : Program} {W0 : World} {f : Ff} {H : SHeap} {o : Oper} {R : Value → SHeap → Prop} {u : Value} {ops : Array Oper} {d : Option Tmp} (h : ∀ t, d = some t → t ∉ o.looksAt ops) : OpSF P W0 (fput f d u) H o R ↔ OpSF P W0 f H o R := by
  have hx : ∀ x ∈ o.op.operands, valf (fput f d u) x = valf f x := fun x hx => valf_put fun t ht e => h t ht (by
    subst e; exact List.mem_append_left _ (List.mem_filterMap.2 ⟨.tmp t, by simpa using hx, rfl⟩))
  constructor
  · intro k N a w Q next h1; exact k N a w Q next fun x hm v hv => h1 x hm v (by rw [← hx x hm]; exact hv)
  · intro k N a w Q next h1; exact k N a w Q next fun x hm v hv => h1 x hm v (by rw [hx x hm]; exact hv)
theorem opSF_call {P : Program} {W0 : World} {f : Ff} {H : SHeap} {o : Oper} {c : Call} {x : Operand} {g : FuncId} {cap : Array Value} {vs : List Value} {R : Value → SHeap → Prop} (ho : o.op = .call c) (hc : c.callee = .value x)
    (hx : valf f x = some (.func (.func g) #[] cap)) (hv : c.args.toList.map (valf f) = vs.map some) (hg : Callable P g) (h : AC P W0 g (vs ++ cap.toList) H R) : OpSF P W0 f H o R := by
  intro N a w Q next hh hd hsz hO k
  have hopd : o.op.operands = #[x] ++ c.args := by rw [ho]; simp [Op.operands, Call.operands, hc]
  unfold Oper.wp
  rw [execOp_call ho hc (hh x (by rw [hopd]; simp) _ hx) hg w, Oper.upon_enter]
  have e : c.args.map a.eval ++ cap = (vs ++ cap.toList).toArray := by
    apply Array.toList_inj.1
    have : ∀ (l : List Operand) (us : List Value), (∀ y ∈ l, y ∈ c.args.toList) → l.map (valf f) = us.map some → l.map a.eval = us := by
      intro l
      induction l with
      | nil => intro us _ h; cases us with | nil => rfl | cons => simp at h
      | cons y l ih =>
        intro us hm h
        cases us with
        | nil => simp at h
        | cons u us =>
          simp only [List.map_cons, List.cons.injEq] at h
          rw [List.map_cons, hh y (by rw [hopd]; simp; exact .inr (by simpa using hm y List.mem_cons_self)) u h.1, ih us (fun z hz => hm z (List.mem_cons_of_mem _ hz)) h.2]
    simpa using this c.args.toList vs (fun _ h => h) hv
  rw [e]
  refine (h w hO).mono ?_
  rintro e w' ⟨v, H', rfl, hR, ho', hf⟩
  exact k v H' w' hR ho' hf

inductive Cls where
  | light | mem | alloc | call | eff
  | loc (j : Nat)

/-- What is checked of a region: the operations, which of them come ahead of which (a part of the edges' closure), and of what class each is. -/
structure Reg where
  ops : Array Oper
  n : Nat
  N : Nat
  pr : List (List Nat)
  cl : List Cls
def Reg.p (R : Reg) (i : Nat) : List Nat := (List.range R.n).filter fun j => (R.pr.getD i []).contains j
def Reg.c (R : Reg) (i : Nat) : Cls := R.cl.getD i .eff
def Reg.op (R : Reg) (i : Nat) : Oper := R.ops.getD i default

structure DS where
  f : Ff
  H : SHeap
  N : Nat → SHeap
def upN (N : Nat → SHeap) (i : Nat) (E : SHeap) : Nat → SHeap := fun k => if k = i then E else N k
def DS.all (R : Reg) (X : SHeap) (s : DS) : SHeap := (List.range R.n).flatMap s.N ++ (s.H ++ X)
def DS.view (R : Reg) (s : DS) (i : Nat) : SHeap := (R.p i).flatMap s.N ++ s.H
def clearN (R : Reg) (i : Nat) (N : Nat → SHeap) : Nat → SHeap := fun k => if k ∈ R.p i then [] else N k

def WantedF (R : Reg) (f : Ff) (o : Oper) (b : Bool) : Prop :=
  match o.guard with
  | none => b = true
  | some (j, want) => ∃ d v, gslot R.ops j = some d ∧ f d = some v ∧ b = gbool want v
theorem WantedF.wanted {R : Reg} {f : Ff} {o : Oper} {b : Bool} {N : Nat} {a : Act} (hh : HasF N f a) (h : WantedF R f o b) : Region.wanted o (yielded R.ops a.tmps) = b := by
  unfold WantedF at h; unfold Region.wanted
  split at h
  · next hg => rw [hg]; exact h.symm
  · next j want hg =>
    rw [hg]; obtain ⟨d, v, h1, h2, rfl⟩ := h
    exact yielded_gb h1 (hh.at_ d v h2)
theorem WantedF.uniq {R : Reg} {f : Ff} {o : Oper} {b c : Bool} (h : WantedF R f o b) (k : WantedF R f o c) : b = c := by
  unfold WantedF at h k
  split at h
  · next hg => rw [hg] at k; rw [h, k]
  · next j want hg =>
    rw [hg] at k
    obtain ⟨d, c1, h1, h2, rfl⟩ := h; obtain ⟨d', c2, h3, h4, rfl⟩ := k
    rw [h1] at h3; cases h3; rw [h2] at h4; cases h4; rfl
theorem WantedF.put_iff {R : Reg} {f : Ff} {o : Oper} {b : Bool} {d : Option Tmp} {u : Value} (h : ∀ t, d = some t → t ∉ o.looksAt R.ops) : WantedF R (fput f d u) o b ↔ WantedF R f o b := by
  unfold WantedF
  split
  · exact Iff.rfl
  · next j want hg =>
    have : ∀ t, gslot R.ops j = some t → fput f d u t = f t := by
      intro t ht
      cases d with
      | none => rfl
      | some d =>
        simp only [fput]
        rw [if_neg]
        rintro rfl
        refine h t rfl ?_
        unfold gslot at ht
        simp [Oper.looksAt, hg, ht]
    constructor
    · rintro ⟨t, c, h1, h2, h3⟩; exact ⟨t, c, h1, by rw [← this t h1]; exact h2, h3⟩
    · rintro ⟨t, c, h1, h2, h3⟩; exact ⟨t, c, h1, by rw [this t h1]; exact h2, h3⟩

inductive EC where
  | undef | light | mem | alloc | call | eff
  | loc (j : Nat)
def ecOf (c : Cls) (b : Bool) : EC :=
  match b, c with
  | false, _ => .undef
  | true, .light => .light
  | true, .mem => .mem
  | true, .alloc => .alloc
  | true, .call => .call
  | true, .eff => .eff
  | true, .loc j => .loc j

/-- A call's end can be had with new blocks that shun any numbers. -/
def FreshE (W0 : World) (Φ : Value → SHeap → Prop) : Prop := ∀ L : List Nat, ∃ v E, Φ v E ∧ (keys E).Nodup ∧ ∀ b ∈ keys E, W0.heap.size ≤ b ∧ b ∉ L
def FreshH (W0 : World) (V : SHeap) (Φ : Value → SHeap → Prop) : Prop := Wf W0 V → ∀ L : List Nat, ∃ v H', Φ v H' ∧ (keys H').Nodup ∧ ∀ b ∈ keys H', b ∈ keys V ∨ (W0.heap.size ≤ b ∧ b ∉ L)

section
variable (P : Program) (W0 : World) (R : Reg) (X : SHeap)

def putS (s : DS) (i : Nat) (v : Value) (N' : Nat → SHeap) : DS := ⟨fput s.f (R.op i).dst v, s.H, N'⟩
/-- Steps that can come out in one way alone. -/
def DtE (e : EC) (i : Nat) (s : DS) (v : Value) (N' : Nat → SHeap) : Prop :=
  match e with
  | .undef => v = undef ∧ N' = s.N
  | .light => ExecF P W0 s.f X (R.op i) none v X ∧ N' = s.N
  | .mem => ExecF P W0 s.f (s.view R i) (R.op i) none v (s.view R i) ∧ N' = s.N
  | .loc j => ∃ E, ExecF P W0 s.f (s.N j) (R.op i) none v E ∧ keys E = keys (s.N j) ∧ N' = upN s.N j E
  | _ => False
def StepE (e : EC) (i : Nat) (s : DS) (k : DS → Prop) : Prop :=
  match e with
  | .alloc => ∃ (v : Nat → Value) (o : Obj), (∀ r : Nat, ExecF P W0 s.f [] (R.op i) (some r) (v r) [(r, o)]) ∧ ∀ r, Wf W0 ((r, o) :: s.all R X) → k (putS R s i (v r) (upN s.N i [(r, o)]))
  | .call => ∃ Φ : Value → SHeap → Prop, OpSF P W0 s.f (s.view R i) (R.op i) (fun v H' => ∃ E, Φ v E ∧ H' = E ++ s.view R i) ∧ FreshE W0 Φ ∧
        ∀ v E, Φ v E → Wf W0 (E ++ s.all R X) → k (putS R s i v (upN s.N i E))
  | .eff => ∃ Φ : Value → SHeap → Prop, OpSF P W0 s.f (s.view R i) (R.op i) Φ ∧ FreshH W0 (s.view R i) Φ ∧
        ∀ v H', Φ v H' → Wf W0 ((List.range R.n).flatMap (clearN R i s.N) ++ (H' ++ X)) → k ⟨fput s.f (R.op i).dst v, H', clearN R i s.N⟩
  | e => ∃ v N', DtE P W0 R X e i s v N' ∧ k (putS R s i v N')
/-- One step of the region. -/
def Step (i : Nat) (s : DS) (k : DS → Prop) : Prop := ∃ b, WantedF R s.f (R.op i) b ∧ StepE P W0 R X (ecOf (R.c i) b) i s k
def DRun : List Nat → DS → (DS → Prop) → Prop
  | [], s, k => k s
  | i :: l, s, k => Step P W0 R X i s fun s' => DRun l s' k

def Det : EC → Prop
  | .alloc | .call | .eff => False
  | _ => True
variable {P W0 R X}
theorem stepE_det {e : EC} (he : Det e) {i : Nat} {s : DS} {k : DS → Prop} : StepE P W0 R X e i s k ↔ ∃ v N', DtE P W0 R X e i s v N' ∧ k (putS R s i v N') := by
  cases e <;> first | (exact he.elim) | (simp only [StepE])

/-- Two operations that the edges leave open, and that may change places. -/
structure Ok (x y : Nat) : Prop where
  ne : x ≠ y
  ax : ∀ t, (R.op x).dst = some t → t ∉ (R.op y).looksAt R.ops
  ay : ∀ t, (R.op y).dst = some t → t ∉ (R.op x).looksAt R.ops
  dd : ∀ t, (R.op x).dst = some t → (R.op y).dst ≠ some t
  xy : x ∉ R.p y
  yx : y ∉ R.p x

theorem fput_comm {f : Ff} {d d' : Option Tmp} {u v : Value} (h : ∀ t, d = some t → d' ≠ some t) : fput (fput f d u) d' v = fput (fput f d' v) d u := by
  cases d with
  | none => rfl
  | some a =>
    cases d' with
    | none => rfl
    | some b =>
      have hne : a ≠ b := fun e => h a rfl (by rw [e])
      funext t
      simp only [fput]
      by_cases h1 : t = a <;> by_cases h2 : t = b <;> simp [h1, h2]
      · exact absurd (h1.symm.trans h2) hne
      · intro e; exact absurd e hne
      · intro e; exact absurd e.symm hne
theorem upN_comm {N : Nat → SHeap} {i j : Nat} {E E' : SHeap} (h : i ≠ j) : upN (upN N i E) j E' = upN (upN N j E') i E := by
  funext k
  simp only [upN]
  by_cases h1 : k = i <;> by_cases h2 : k = j <;> simp [h1, h2]
  · exact absurd (h1.symm.trans h2) h
  · intro e; exact absurd e h
  · intro e; exact absurd e.symm h
theorem flat_up {l : List Nat} {N : Nat → SHeap} {i : Nat} {E : SHeap} (h : i ∉ l) : l.flatMap (upN N i E) = l.flatMap N := by
  induction l with
  | nil => rfl
  | cons a l ih =>
    simp only [List.mem_cons, not_or] at h
    simp only [List.flatMap_cons, ih h.2]
    congr 1; simp only [upN]; rw [if_neg (Ne.symm h.1)]
theorem keys_flat_up {l : List Nat} {N : Nat → SHeap} {i : Nat} {E : SHeap} (h : keys E = keys (N i)) : keys (l.flatMap (upN N i E)) = keys (l.flatMap N) := by
  induction l with
  | nil => rfl
  | cons a l ih =>
    simp only [List.flatMap_cons, keys_append, ih]
    congr 1; simp only [upN]; split
    · next e => subst e; exact h
    · rfl
theorem keys_cong {A B H : SHeap} (h : Sym.keys A = Sym.keys B) : Sym.keys (A ++ H) = Sym.keys (B ++ H) := by rw [keys_append, keys_append, h]
theorem wf_keys {H G : SHeap} (h : keys H = keys G) : Wf W0 H ↔ Wf W0 G := by unfold Wf; rw [h]
theorem DtE.keys {e : EC} {i : Nat} {s : DS} {v : Value} {N' : Nat → SHeap} (h : DtE P W0 R X e i s v N') (l : List Nat) : Sym.keys (l.flatMap N') = Sym.keys (l.flatMap s.N) := by
  cases e <;> simp only [DtE] at h <;> first | exact h.elim | (rw [h.2]; done) | skip
  obtain ⟨E, _, h2, rfl⟩ := h
  exact keys_flat_up h2
theorem DtE.wf {e : EC} {i : Nat} {s : DS} {v : Value} {N' : Nat → SHeap} (h : DtE P W0 R X e i s v N') : Wf W0 ((putS R s i v N').all R X) ↔ Wf W0 (s.all R X) := by
  refine wf_keys ?_
  show Sym.keys ((List.range R.n).flatMap N' ++ (s.H ++ X)) = Sym.keys ((List.range R.n).flatMap s.N ++ (s.H ++ X))
  exact keys_cong (h.keys _)
theorem wf_sub {H G : SHeap} (h : Sub G H) (hw : Wf W0 H) : Wf W0 G := by
  obtain ⟨F, hF⟩ := h
  have h1 : (keys (G ++ F)).Nodup := (hF.map _).nodup_iff.2 hw.1
  rw [keys_append, List.nodup_append] at h1
  exact ⟨h1.1, fun b hb => hw.2 b ((hF.map _).mem_iff.1 (by show b ∈ keys (G ++ F); rw [keys_append]; exact List.mem_append_left _ hb))⟩
theorem sub_flat {l l' : List Nat} {N : Nat → SHeap} {H : SHeap} (h : l.Sublist l') : Sub (l.flatMap N ++ H) (l'.flatMap N ++ H) := by
  obtain ⟨F, hF⟩ : ∃ F, (l.flatMap N ++ F).Perm (l'.flatMap N) := by
    induction h with
    | slnil => exact ⟨[], by simp⟩
    | cons a h ih =>
      rename_i l1 l2
      obtain ⟨F, hF⟩ := ih
      refine ⟨F ++ N a, ?_⟩
      rw [List.flatMap_cons, ← List.append_assoc]
      exact (hF.append_right _).trans List.perm_append_comm
    | cons_cons a h ih =>
      rename_i l1 l2
      obtain ⟨F, hF⟩ := ih
      refine ⟨F, ?_⟩
      rw [List.flatMap_cons, List.flatMap_cons, List.append_assoc]
      exact hF.append_left _
  refine ⟨F, ?_⟩
  rw [List.append_assoc]
  refine (List.Perm.append_left _ List.perm_append_comm).trans ?_
  rw [← List.append_assoc]
  exact hF.append_right _
theorem sub_x {A B : SHeap} (h : Sub A B) : Sub A (B ++ X) := h.trans ⟨X, List.Perm.refl _⟩
theorem view_sub (s : DS) (i : Nat) : Sub (s.view R i) (s.all R X) := by
  show Sub _ ((List.range R.n).flatMap s.N ++ (s.H ++ X))
  rw [← List.append_assoc]
  exact sub_x (sub_flat List.filter_sublist)
theorem fix_sub (s : DS) : Sub X (s.all R X) := by
  show Sub _ ((List.range R.n).flatMap s.N ++ (s.H ++ X))
  rw [← List.append_assoc]
  exact ⟨(List.range R.n).flatMap s.N ++ s.H, List.perm_append_comm⟩
theorem nj_sub {s : DS} {j : Nat} (hj : j < R.n) : Sub (s.N j) (s.all R X) := by
  have : Sub ([j].flatMap s.N ++ s.H) (s.all R X) := by
    show Sub _ ((List.range R.n).flatMap s.N ++ (s.H ++ X))
    rw [← List.append_assoc]
    exact sub_x (sub_flat (List.singleton_sublist.2 (List.mem_range.2 hj)))
  refine Sub.trans ⟨s.H, by simp⟩ this
theorem DtE.uniq {e : EC} {i : Nat} {s : DS} {v u : Value} {N' N'' : Nat → SHeap} (h : DtE P W0 R X e i s v N') (k : DtE P W0 R X e i s u N'') (hw : Wf W0 (s.all R X)) (hl : ∀ j, e = .loc j → j < R.n) : v = u ∧ N' = N'' := by
  cases e <;> simp only [DtE] at h k <;> first | exact h.elim | skip
  · exact ⟨h.1.trans k.1.symm, h.2.trans k.2.symm⟩
  · exact ⟨(h.1.uniq k.1 (wf_sub (fix_sub s) hw)).1, h.2.trans k.2.symm⟩
  · exact ⟨(h.1.uniq k.1 (wf_sub (view_sub s i) hw)).1, h.2.trans k.2.symm⟩
  · rename_i j
    obtain ⟨E, h1, h2, rfl⟩ := h; obtain ⟨E', k1, k2, rfl⟩ := k
    have := h1.uniq k1 (wf_sub (nj_sub (hl j rfl)) hw)
    exact ⟨this.1, by rw [this.2]⟩

theorem not_mem_view {s : DS} {x y : Nat} (h : x ∉ R.p y) {E : SHeap} {f : Ff} : (⟨f, s.H, upN s.N x E⟩ : DS).view R y = s.view R y := by
  unfold DS.view; rw [flat_up h]

/-- What a step of class e may do to what another operation sees. -/
def SeesNot (R : Reg) (e : EC) (x y : Nat) : Prop :=
  match e with
  | .loc j => j ∉ R.p y
  | _ => True
def TakesNot (R : Reg) (e : EC) (x : Nat) (y : Nat) : Prop :=   -- y is no change of what x, of class e, reads
  match e with
  | .loc j => j ≠ y
  | _ => True
theorem DtE.view {e : EC} {x y : Nat} {s : DS} {v : Value} {N' : Nat → SHeap} (h : DtE P W0 R X e x s v N') (hs : SeesNot R e x y) : (putS R s x v N').view R y = s.view R y := by
  show (R.p y).flatMap N' ++ s.H = (R.p y).flatMap s.N ++ s.H
  cases e with
  | loc j => obtain ⟨E, _, _, rfl⟩ := h; rw [flat_up hs]
  | alloc => exact h.elim
  | call => exact h.elim
  | eff => exact h.elim
  | undef => rw [h.2]
  | light => rw [h.2]
  | mem => rw [h.2]
def ovr (e : EC) (A B : Nat → SHeap) (k : Nat) : SHeap :=
  match e with
  | .loc j => if k = j then A j else B k
  | _ => B k
/-- x's own way is the same in a state that differs where x does not look. -/
theorem DtE.move {e : EC} {x : Nat} {s s' : DS} {v : Value} {d : Option Tmp} {u : Value} (hd : ∀ t, d = some t → t ∉ (R.op x).looksAt R.ops) (hf : s'.f = fput s.f d u)
    (hv : e = .mem → s'.view R x = s.view R x) (hl : ∀ j, e = .loc j → s'.N j = s.N j) {N' : Nat → SHeap} (h : DtE P W0 R X e x s v N') :
    ∃ N'', DtE P W0 R X e x s' v N'' ∧ (∀ k, N'' k = ovr e N' s'.N k) := by
  cases e <;> simp only [DtE] at h ⊢ <;> first | exact h.elim | skip
  · exact ⟨s'.N, ⟨h.1, rfl⟩, fun k => rfl⟩
  · exact ⟨s'.N, ⟨by rw [hf]; exact (ExecF.put_iff hd).2 h.1, rfl⟩, fun k => rfl⟩
  · exact ⟨s'.N, ⟨by rw [hf, hv rfl]; exact (ExecF.put_iff hd).2 h.1, rfl⟩, fun k => rfl⟩
  · rename_i j
    obtain ⟨E, h1, h2, rfl⟩ := h
    refine ⟨upN s'.N j E, ⟨E, by rw [hf, hl j rfl]; exact (ExecF.put_iff hd).2 h1, by rw [hl j rfl]; exact h2, rfl⟩, fun k => ?_⟩
    simp only [ovr, upN, if_true]
theorem DtE.shape {e : EC} {x : Nat} {s : DS} {v : Value} {N' : Nat → SHeap} (h : DtE P W0 R X e x s v N') : ∀ k, N' k = ovr e N' s.N k := by
  intro k
  cases e with
  | loc j => obtain ⟨E, _, _, rfl⟩ := h; simp only [ovr, upN, if_true]
  | alloc => exact h.elim
  | call => exact h.elim
  | eff => exact h.elim
  | undef => rw [h.2]; rfl
  | light => rw [h.2]; rfl
  | mem => rw [h.2]; rfl

theorem ds_ext {s t : DS} (h1 : s.f = t.f) (h2 : s.H = t.H) (h3 : ∀ k, s.N k = t.N k) : s = t := by
  cases s; cases t; simp only at h1 h2 h3; subst h1; subst h2; congr 1; funext k; exact h3 k

/-- det, det -/
theorem swap_dd {ex ey : EC} {x y : Nat} {s : DS} {k : DS → Prop} (ho : Ok (R := R) x y)
    (h1 : ey = .mem → SeesNot R ex x y) (h2 : ex = .mem → SeesNot R ey y x) (h3 : ∀ i j, ex = .loc i → ey = .loc j → i ≠ j)
    {vx vy : Value} {Nx Ny : Nat → SHeap} (hx : DtE P W0 R X ex x s vx Nx) (hy : DtE P W0 R X ey y (putS R s x vx Nx) vy Ny) (hk : k (putS R (putS R s x vx Nx) y vy Ny)) :
    ∃ Ny', DtE P W0 R X ey y s vy Ny' ∧ ∃ Nx', DtE P W0 R X ex x (putS R s y vy Ny') vx Nx' ∧ k (putS R (putS R s y vy Ny') x vx Nx') := by
  have hback : DtE P W0 R X ey y (putS R s x vx Nx) vy Ny → ∃ Ny', DtE P W0 R X ey y s vy Ny' ∧ (∀ k, Ny' k = ovr ey Ny s.N k) := by
    intro hy
    cases ey with
    | alloc => exact hy.elim
    | call => exact hy.elim
    | eff => exact hy.elim
    | undef => exact ⟨s.N, ⟨hy.1, rfl⟩, fun k => rfl⟩
    | light => exact ⟨s.N, ⟨(ExecF.put_iff ho.ax).1 hy.1, rfl⟩, fun k => rfl⟩
    | mem =>
      refine ⟨s.N, ⟨?_, rfl⟩, fun k => rfl⟩
      have := hy.1
      rw [hx.view (h1 rfl)] at this
      exact (ExecF.put_iff ho.ax).1 this
    | loc j =>
      obtain ⟨E, g1, g2, rfl⟩ := hy
      have hN : (putS R s x vx Nx).N j = s.N j := by
        show Nx j = s.N j
        rw [hx.shape j]
        cases ex with
        | loc i => simp only [ovr]; rw [if_neg (fun e => h3 i j rfl rfl e.symm)]
        | _ => rfl
      rw [hN] at g1 g2
      refine ⟨upN s.N j E, ⟨E, (ExecF.put_iff ho.ax).1 g1, g2, rfl⟩, fun k => ?_⟩
      simp only [ovr, upN, if_true]
  obtain ⟨Ny', g1, g2⟩ := hback hy
  obtain ⟨Nx', g3, g4⟩ := hx.move (s' := putS R s y vy Ny') (d := (R.op y).dst) (u := vy) ho.ay rfl (fun e => g1.view (h2 e)) (fun j e => by
    show Ny' j = s.N j
    rw [g2 j]
    cases ey with
    | loc i => simp only [ovr]; rw [if_neg (fun e' => h3 j i e rfl e')]
    | _ => rfl)
  refine ⟨Ny', g1, Nx', g3, ?_⟩
  have : putS R (putS R s y vy Ny') x vx Nx' = putS R (putS R s x vx Nx) y vy Ny := by
    refine ds_ext (fput_comm fun t ht e => ho.dd t (by assumption) (by assumption)) rfl fun k => ?_
    show Nx' k = Ny k
    rw [g4 k, hy.shape k]
    show ovr ex Nx Ny' k = ovr ey Ny Nx k
    cases ex <;> cases ey <;> simp only [ovr] <;> simp only [g2 k, hx.shape k, ovr]
    rename_i i j
    by_cases e1 : k = i <;> by_cases e2 : k = j <;> simp [e1, e2]
    · exact absurd (e1.symm.trans e2) (h3 i j rfl rfl)
    · intro e; exact absurd e (h3 i j rfl rfl)
    · intro e; exact absurd e.symm (h3 i j rfl rfl)
  rw [this]; exact hk

theorem mem_sum {L : List Nat} {x : Nat} (h : x ∈ L) : x ≤ L.sum := by
  induction L with
  | nil => cases h
  | cons a L ih =>
    rw [List.sum_cons]
    rcases List.mem_cons.1 h with rfl | h
    · omega
    · have := ih h; omega
theorem fresh_nat (L : List Nat) (n : Nat) : ∃ r, n ≤ r ∧ r ∉ L := ⟨L.sum + n + 1, by omega, fun h => by have := mem_sum h; omega⟩
theorem wf_app {E G : SHeap} : Wf W0 (E ++ G) ↔ Wf W0 E ∧ Wf W0 G ∧ ∀ b ∈ keys E, b ∉ keys G := by
  unfold Wf
  rw [keys_append, List.nodup_append]
  constructor
  · rintro ⟨⟨h1, h2, h3⟩, h4⟩
    exact ⟨⟨h1, fun b hb => h4 b (List.mem_append_left _ hb)⟩, ⟨h2, fun b hb => h4 b (List.mem_append_right _ hb)⟩, fun b hb hc => h3 b hb b hc rfl⟩
  · rintro ⟨⟨h1, h4⟩, ⟨h2, h5⟩, h3⟩
    refine ⟨⟨h1, h2, fun a ha b hb e => h3 a ha (e ▸ hb)⟩, fun b hb => ?_⟩
    rcases List.mem_append.1 hb with hb | hb
    · exact h4 b hb
    · exact h5 b hb
theorem wf_perm {H G : SHeap} (h : H.Perm G) : Wf W0 H ↔ Wf W0 G := by
  unfold Wf keys
  rw [(h.map _).nodup_iff]
  exact and_congr_right fun _ => forall_congr' fun b => by rw [(h.map _).mem_iff]
/-- Keys of a state after one more part. -/
theorem flat_perm {l : List Nat} {N : Nat → SHeap} {i : Nat} {E : SHeap} (hl : l.Nodup) (hi : i ∈ l) (h0 : N i = []) : (l.flatMap (upN N i E)).Perm (E ++ l.flatMap N) := by
  induction l with
  | nil => cases hi
  | cons a l ih =>
    rw [List.nodup_cons] at hl
    rw [List.flatMap_cons, List.flatMap_cons]
    by_cases e : a = i
    · subst e
      rw [flat_up hl.1, h0]; simp [upN]
    · have hi' : i ∈ l := (List.mem_cons.1 hi).resolve_left (fun h => e h.symm)
      have : upN N i E a = N a := by simp only [upN]; rw [if_neg e]
      rw [this]
      refine (List.Perm.append_left _ (ih hl.2 hi')).trans ?_
      rw [← List.append_assoc, ← List.append_assoc]
      exact List.Perm.append_right _ List.perm_append_comm
theorem all_up {s : DS} {i : Nat} {E : SHeap} {v : Value} (hi : i < R.n) (h0 : s.N i = []) : ((putS R s i v (upN s.N i E)).all R X).Perm (E ++ s.all R X) := by
  show ((List.range R.n).flatMap (upN s.N i E) ++ (s.H ++ X)).Perm (E ++ ((List.range R.n).flatMap s.N ++ (s.H ++ X)))
  rw [← List.append_assoc E]
  exact List.Perm.append_right _ (flat_perm List.nodup_range (List.mem_range.2 hi) h0)

variable {x y : Nat} {s : DS} {k : DS → Prop} {vx : Value} {Nx : Nat → SHeap}
theorem putS_comm (ho : Ok (R := R) x y) {u v : Value} {N : Nat → SHeap} {A B : Nat → SHeap} : putS R (putS R s x u A) y v N = putS R (putS R s y v B) x u N :=
  ds_ext (fput_comm fun t h1 h2 => ho.dd t h1 h2) rfl fun _ => rfl

variable {ex ey : EC}
theorem view_up {s : DS} {i j : Nat} {u : Value} {E : SHeap} (h : i ∉ R.p j) : (putS R s i u (upN s.N i E)).view R j = s.view R j := by
  show (R.p j).flatMap (upN s.N i E) ++ s.H = (R.p j).flatMap s.N ++ s.H
  rw [flat_up h]
/-- As 'move', between states in which x's operation is alike. -/
theorem DtE.to {s s' : DS} {v : Value} (hf : ∀ H H' v, ExecF P W0 s.f H (R.op x) none v H' → ExecF P W0 s'.f H (R.op x) none v H')
    (hv : ex = .mem → s'.view R x = s.view R x) (hl : ∀ j, ex = .loc j → s'.N j = s.N j) {N' : Nat → SHeap} (h : DtE P W0 R X ex x s v N') :
    ∃ N'', DtE P W0 R X ex x s' v N'' ∧ ∀ k, N'' k = ovr ex N' s'.N k := by
  cases ex with
  | alloc => exact h.elim
  | call => exact h.elim
  | eff => exact h.elim
  | undef => exact ⟨s'.N, ⟨h.1, rfl⟩, fun k => rfl⟩
  | light => exact ⟨s'.N, ⟨hf _ _ _ h.1, rfl⟩, fun k => rfl⟩
  | mem => exact ⟨s'.N, ⟨by rw [hv rfl]; exact hf _ _ _ h.1, rfl⟩, fun k => rfl⟩
  | loc j =>
    obtain ⟨E, h1, h2, rfl⟩ := h
    refine ⟨upN s'.N j E, ⟨E, by rw [hl j rfl]; exact hf _ _ _ h1, by rw [hl j rfl]; exact h2, rfl⟩, fun k => ?_⟩
    simp only [ovr, upN, if_true]
/-- x's det step, over y's new part. -/
theorem DtE.up (ho : Ok (R := R) x y) (ht : ∀ j, ex = .loc j → j ≠ y) (h : DtE P W0 R X ex x s vx Nx) (u : Value) (E : SHeap) :
    DtE P W0 R X ex x (putS R s y u (upN s.N y E)) vx (upN Nx y E) := by
  obtain ⟨N'', h1, h2⟩ := h.to (s' := putS R s y u (upN s.N y E)) (fun H H' v hE => (ExecF.put_iff ho.ay).2 hE) (fun _ => view_up ho.yx) (fun j e => by
    show upN s.N y E j = s.N j
    simp only [upN]; rw [if_neg (ht j e)])
  have : N'' = upN Nx y E := by
    funext k
    rw [h2 k]
    have hs := h.shape k
    cases ex with
    | loc j =>
      simp only [ovr] at hs ⊢
      by_cases e : k = j
      · subst e; simp only [upN, if_true]; rw [if_neg (ht k rfl)]
      · rw [if_neg e]; rw [if_neg e] at hs
        show upN s.N y E k = _
        simp only [upN, hs]
    | _ => simp only [ovr] at hs ⊢; show upN s.N y E k = _; simp only [upN, hs]
  rw [← this]; exact h1
/-- y's det step, without x's new part. -/
theorem DtE.down (ho : Ok (R := R) x y) (ht : ∀ j, ey = .loc j → j ≠ x) {u : Value} {E : SHeap} {vy : Value} {Ny : Nat → SHeap} (h : DtE P W0 R X ey y (putS R s x u (upN s.N x E)) vy Ny) :
    ∃ N'', DtE P W0 R X ey y s vy N'' ∧ Ny = upN N'' x E := by
  have hN : ∀ j, ey = .loc j → (putS R s x u (upN s.N x E)).N j = s.N j := fun j e => by
    show upN s.N x E j = s.N j
    simp only [upN]; rw [if_neg (ht j e)]
  obtain ⟨N'', h1, h2⟩ := h.to (s' := s) (fun H H' v hE => (ExecF.put_iff ho.ax).1 hE) (fun _ => (view_up ho.xy).symm) (fun j e => (hN j e).symm)
  refine ⟨N'', h1, ?_⟩
  funext k
  rw [h.shape k]
  show ovr ey Ny (upN s.N x E) k = upN N'' x E k
  cases ey with
  | loc j =>
    simp only [ovr, upN]
    rw [h2 k]
    simp only [ovr]
    by_cases e : k = j
    · subst e; simp only [if_true]; rw [if_neg (ht k rfl)]
    · rw [if_neg e, if_neg e]
  | _ =>
    simp only [ovr, upN]
    rw [h2 k]; rfl

theorem StepE.ofDet (he : Det ex) {k : DS → Prop} {v : Value} {N' : Nat → SHeap} (h : DtE P W0 R X ex x s v N') (hk : k (putS R s x v N')) : StepE P W0 R X ex x s k :=
  (stepE_det he).2 ⟨v, N', h, hk⟩
theorem Det.of (h : DtE P W0 R X ex x s vx Nx) : Det ex := by
  cases ex <;> first | trivial | exact h.elim

theorem swap_da (ho : Ok (R := R) x y) (ht : ∀ j, ex = .loc j → j ≠ y) (hx : DtE P W0 R X ex x s vx Nx) (h : StepE P W0 R X .alloc y (putS R s x vx Nx) k) : StepE P W0 R X .alloc y s fun s' => StepE P W0 R X ex x s' k := by
  obtain ⟨v, o, h1, h2⟩ := h
  refine ⟨v, o, fun r => (ExecF.put_iff ho.ax).1 (h1 r), fun r hw => ?_⟩
  refine StepE.ofDet (Det.of hx) (hx.up ho ht _ _) ?_
  have := h2 r ((wf_keys (by rw [keys_cons, keys_cons]; congr 1; show keys ((List.range R.n).flatMap Nx ++ (s.H ++ X)) = keys ((List.range R.n).flatMap s.N ++ (s.H ++ X)); exact keys_cong (hx.keys _))).2 hw)
  rw [putS_comm (A := Nx) (B := upN s.N y [(r, o)]) ho] at this
  exact this
theorem swap_dc (ho : Ok (R := R) x y) (ht : ∀ j, ex = .loc j → j ≠ y) (hs : SeesNot R ex x y) (hx : DtE P W0 R X ex x s vx Nx) (h : StepE P W0 R X .call y (putS R s x vx Nx) k) : StepE P W0 R X .call y s fun s' => StepE P W0 R X ex x s' k := by
  obtain ⟨Φ, h1, h2, h3⟩ := h
  rw [hx.view hs] at h1
  refine ⟨Φ, (OpSF.put_iff ho.ax).1 h1, h2, fun v E hΦ hw => ?_⟩
  refine StepE.ofDet (Det.of hx) (hx.up ho ht _ _) ?_
  have := h3 v E hΦ ((wf_keys (by rw [keys_append, keys_append]; congr 1; show keys ((List.range R.n).flatMap Nx ++ (s.H ++ X)) = keys ((List.range R.n).flatMap s.N ++ (s.H ++ X)); exact keys_cong (hx.keys _))).2 hw)
  rw [putS_comm (A := Nx) (B := upN s.N y E) ho] at this
  exact this
theorem swap_de (ho : Ok (R := R) x y) (hl : ex = .undef ∨ ex = .light) (hx : DtE P W0 R X ex x s vx Nx) (h : StepE P W0 R X .eff y (putS R s x vx Nx) k) : StepE P W0 R X .eff y s fun s' => StepE P W0 R X ex x s' k := by
  obtain ⟨Φ, h1, h2, h3⟩ := h
  have hN : Nx = s.N := by rcases hl with rfl | rfl <;> exact hx.2
  subst hN
  refine ⟨Φ, (OpSF.put_iff ho.ax).1 h1, h2, fun v H' hΦ hw => ?_⟩
  have h4 := h3 v H' hΦ hw
  obtain ⟨N'', g1, g2⟩ := hx.to (s' := ⟨fput s.f (R.op y).dst v, H', clearN R y s.N⟩) (fun H H' v hE => (ExecF.put_iff ho.ay).2 hE) (fun e => by rcases hl with rfl | rfl <;> cases e) (fun j e => by rcases hl with rfl | rfl <;> cases e)
  refine StepE.ofDet (Det.of hx) g1 ?_
  have : putS R ⟨fput s.f (R.op y).dst v, H', clearN R y s.N⟩ x vx N'' = ⟨fput (putS R s x vx s.N).f (R.op y).dst v, H', clearN R y s.N⟩ :=
    ds_ext (fput_comm fun t a b => ho.dd t b a) rfl fun k => by
      show N'' k = _
      rw [g2 k]; rcases hl with rfl | rfl <;> rfl
  rw [this]; exact h4
theorem swap_ad (ho : Ok (R := R) x y) (hw : Wf W0 (s.all R X)) (ht : ∀ j, ey = .loc j → j ≠ x ∧ j < R.n) (he : Det ey) (h : StepE P W0 R X .alloc x s fun s' => StepE P W0 R X ey y s' k) : StepE P W0 R X ey y s fun s' => StepE P W0 R X .alloc x s' k := by
  obtain ⟨v, o, h1, h2⟩ := h
  have key : ∀ r, Wf W0 ((r, o) :: s.all R X) → ∃ vy N'', DtE P W0 R X ey y s vy N'' ∧ k (putS R (putS R s y vy N'') x (v r) (upN N'' x [(r, o)])) := fun r hr => by
    obtain ⟨vy, Ny, g1, g2⟩ := (stepE_det he).1 (h2 r hr)
    obtain ⟨N'', g3, rfl⟩ := g1.down ho (fun j e => (ht j e).1)
    rw [putS_comm (A := upN s.N x [(r, o)]) (B := N'') ho] at g2
    exact ⟨vy, N'', g3, g2⟩
  obtain ⟨r0, hr1, hr2⟩ := fresh_nat (keys (s.all R X)) W0.heap.size
  have hwf : ∀ r, W0.heap.size ≤ r → r ∉ keys (s.all R X) → Wf W0 ((r, o) :: s.all R X) := fun r a b => by
    refine (wf_app (E := [(r, o)])).2 ⟨⟨by simp [keys], fun c hc => ?_⟩, hw, fun c hc => ?_⟩ <;> simp [keys] at hc <;> subst hc <;> assumption
  obtain ⟨vy, N'', g1, _⟩ := key r0 (hwf r0 hr1 hr2)
  refine StepE.ofDet he g1 ⟨v, o, fun r => (ExecF.put_iff ho.ay).2 (h1 r), fun r hr => ?_⟩
  have hr' : Wf W0 ((r, o) :: s.all R X) := (wf_keys (by rw [keys_cons, keys_cons]; congr 1; show keys ((List.range R.n).flatMap N'' ++ (s.H ++ X)) = keys ((List.range R.n).flatMap s.N ++ (s.H ++ X)); exact keys_cong (g1.keys _))).1 hr
  obtain ⟨vy', M, g3, g4⟩ := key r hr'
  obtain ⟨rfl, rfl⟩ := g1.uniq g3 hw (fun j e => (ht j e).2)
  exact g4
theorem swap_cd (ho : Ok (R := R) x y) (hw : Wf W0 (s.all R X)) (ht : ∀ j, ey = .loc j → j ≠ x ∧ j < R.n) (hs : SeesNot R ey y x) (he : Det ey) (h : StepE P W0 R X .call x s fun s' => StepE P W0 R X ey y s' k) : StepE P W0 R X ey y s fun s' => StepE P W0 R X .call x s' k := by
  obtain ⟨Φ, h1, h2, h3⟩ := h
  have key : ∀ v E, Φ v E → Wf W0 (E ++ s.all R X) → ∃ vy N'', DtE P W0 R X ey y s vy N'' ∧ k (putS R (putS R s y vy N'') x v (upN N'' x E)) := fun v E hΦ hr => by
    obtain ⟨vy, Ny, g1, g2⟩ := (stepE_det he).1 (h3 v E hΦ hr)
    obtain ⟨N'', g3, rfl⟩ := g1.down ho (fun j e => (ht j e).1)
    rw [putS_comm (A := upN s.N x E) (B := N'') ho] at g2
    exact ⟨vy, N'', g3, g2⟩
  obtain ⟨v0, E0, hΦ0, hn0, hk0⟩ := h2 (keys (s.all R X))
  obtain ⟨vy, N'', g1, _⟩ := key v0 E0 hΦ0 (wf_app.2 ⟨⟨hn0, fun b hb => (hk0 b hb).1⟩, hw, fun b hb => (hk0 b hb).2⟩)
  refine StepE.ofDet he g1 ⟨Φ, ?_, h2, fun v E hΦ hr => ?_⟩
  · rw [g1.view hs]; exact (OpSF.put_iff ho.ay).2 h1
  · have hr' : Wf W0 (E ++ s.all R X) := (wf_keys (by rw [keys_append, keys_append]; congr 1; show keys ((List.range R.n).flatMap N'' ++ (s.H ++ X)) = keys ((List.range R.n).flatMap s.N ++ (s.H ++ X)); exact keys_cong (g1.keys _))).1 hr
    obtain ⟨vy', M, g3, g4⟩ := key v E hΦ hr'
    obtain ⟨rfl, rfl⟩ := g1.uniq g3 hw (fun j e => (ht j e).2)
    exact g4
theorem clear_perm0 {x : Nat} : ((List.range R.n).flatMap (clearN R x s.N) ++ (R.p x).flatMap s.N).Perm ((List.range R.n).flatMap s.N) := by
  have key2 : ∀ l : List Nat, (∀ j ∈ l, j < R.n) → (l.flatMap (clearN R x s.N) ++ (l.filter fun j => (R.pr.getD x []).contains j).flatMap s.N).Perm (l.flatMap s.N) := by
    intro l
    induction l with
    | nil => intro _; exact List.Perm.refl _
    | cons a l ih =>
      intro hl'
      have ih' := ih fun j hj => hl' j (List.mem_cons_of_mem _ hj)
      have ha : a ∈ R.p x ↔ (R.pr.getD x []).contains a = true := by
        unfold Reg.p; rw [List.mem_filter]; exact and_iff_right (List.mem_range.2 (hl' a List.mem_cons_self))
      rw [List.flatMap_cons, List.flatMap_cons, List.filter_cons]
      by_cases hc : (R.pr.getD x []).contains a = true
      · have e1 : clearN R x s.N a = [] := by simp only [clearN]; rw [if_pos (ha.2 hc)]
        rw [if_pos hc, e1, List.nil_append, List.flatMap_cons]
        refine (List.perm_append_comm_assoc _ _ _).trans ?_
        exact List.Perm.append_left _ ih'
      · have e1 : clearN R x s.N a = s.N a := by simp only [clearN]; rw [if_neg (fun h => hc (ha.1 h))]
        rw [if_neg hc, e1, List.append_assoc]
        exact List.Perm.append_left _ ih'
  exact key2 _ fun j hj => List.mem_range.1 hj
theorem clear_perm {x : Nat} : ((List.range R.n).flatMap (clearN R x s.N) ++ (s.view R x ++ X)).Perm (s.all R X) := by
  show ((List.range R.n).flatMap (clearN R x s.N) ++ ((R.p x).flatMap s.N ++ s.H ++ X)).Perm ((List.range R.n).flatMap s.N ++ (s.H ++ X))
  rw [List.append_assoc _ s.H, ← List.append_assoc]
  exact List.Perm.append_right _ clear_perm0
theorem mid_perm {A B C : SHeap} : ((A ++ C) ++ B).Perm (A ++ (B ++ C)) := by
  rw [List.append_assoc]
  exact List.Perm.append_left _ List.perm_append_comm
theorem eff_wf {H' : SHeap} (hw : Wf W0 (s.all R X)) (hn : (keys H').Nodup) (hk : ∀ b ∈ keys H', b ∈ keys (s.view R x) ∨ (W0.heap.size ≤ b ∧ b ∉ keys (s.all R X))) : Wf W0 ((List.range R.n).flatMap (clearN R x s.N) ++ (H' ++ X)) := by
  have hp : (((List.range R.n).flatMap (clearN R x s.N) ++ X) ++ s.view R x).Perm (s.all R X) := mid_perm.trans clear_perm
  obtain ⟨w1, w2, w3⟩ := wf_app.1 ((wf_perm hp).2 hw)
  refine (wf_perm mid_perm).1 (wf_app.2 ⟨w1, ⟨hn, fun b hb => ?_⟩, fun b hb hc => ?_⟩)
  · rcases hk b hb with h | h
    · exact w2.2 b h
    · exact h.1
  · rcases hk b hc with h | h
    · exact w3 b hb h
    · refine h.2 ?_
      refine (hp.map _).mem_iff.1 ?_
      show b ∈ keys (_ ++ _)
      rw [keys_append]; exact List.mem_append_left _ hb
theorem swap_ed (ho : Ok (R := R) x y) (hw : Wf W0 (s.all R X)) (hl : ey = .undef ∨ ey = .light) (h : StepE P W0 R X .eff x s fun s' => StepE P W0 R X ey y s' k) : StepE P W0 R X ey y s fun s' => StepE P W0 R X .eff x s' k := by
  have he : Det ey := by rcases hl with rfl | rfl <;> trivial
  obtain ⟨Φ, h1, h2, h3⟩ := h
  have key : ∀ v H', Φ v H' → Wf W0 ((List.range R.n).flatMap (clearN R x s.N) ++ (H' ++ X)) → ∃ vy, DtE P W0 R X ey y s vy s.N ∧ k ⟨fput (putS R s y vy s.N).f (R.op x).dst v, H', clearN R x s.N⟩ := fun v H' hΦ hr => by
    obtain ⟨vy, Ny, g1, g2⟩ := (stepE_det he).1 (h3 v H' hΦ hr)
    obtain ⟨N'', g3, g4⟩ := g1.to (s' := s) (fun H H' v hE => (ExecF.put_iff ho.ax).1 hE) (fun e => by rcases hl with rfl | rfl <;> cases e) (fun j e => by rcases hl with rfl | rfl <;> cases e)
    have e1 : N'' = s.N := by rcases hl with rfl | rfl <;> exact g3.2
    subst e1
    have e2 : Ny = clearN R x s.N := by rcases hl with rfl | rfl <;> exact g1.2
    subst e2
    refine ⟨vy, g3, ?_⟩
    have : (⟨fput (putS R s y vy s.N).f (R.op x).dst v, H', clearN R x s.N⟩ : DS) = putS R ⟨fput s.f (R.op x).dst v, H', clearN R x s.N⟩ y vy (clearN R x s.N) :=
      ds_ext (fput_comm fun t a b => ho.dd t b a) rfl fun _ => rfl
    rw [this]; exact g2
  have hsub := fun H' => eff_wf (R := R) (X := X) (x := x) (H' := H') hw
  obtain ⟨v0, E0, hΦ0, hn0, hk0⟩ := h2 (wf_sub (view_sub s x) hw) (keys (s.all R X))
  obtain ⟨vy, g1, _⟩ := key v0 E0 hΦ0 (hsub E0 hn0 hk0)
  refine StepE.ofDet he g1 ⟨Φ, (OpSF.put_iff ho.ay).2 h1, h2, fun v E hΦ hr => ?_⟩
  obtain ⟨vy', g3, g4⟩ := key v E hΦ hr
  obtain ⟨rfl, _⟩ := g1.uniq g3 hw (fun j e => by rcases hl with rfl | rfl <;> cases e)
  exact g4
theorem fresh_wf {G : SHeap} (hw : Wf W0 G) : ∃ r, ∀ o, Wf W0 ((r, o) :: G) := by
  obtain ⟨r, h1, h2⟩ := fresh_nat (keys G) W0.heap.size
  refine ⟨r, fun o => (wf_app (E := [(r, o)])).2 ⟨⟨by simp [keys], fun c hc => ?_⟩, hw, fun c hc => ?_⟩⟩ <;> simp [keys] at hc <;> subst hc <;> assumption
theorem wf_one (r : Nat) (f : Ff) {o : Oper} {v u : Nat → Value} {p q : Obj} (h : ∀ r, ExecF P W0 f [] o (some r) (v r) [(r, p)]) (k : ∀ r, ExecF P W0 f [] o (some r) (u r) [(r, q)]) : v r = u r ∧ p = q := by
  have := (h r).uniq (k r) ⟨by simp [keys], by simp [keys]⟩
  exact ⟨this.1, by simpa using this.2⟩
theorem swap_aa (ho : Ok (R := R) x y) (hw : Wf W0 (s.all R X)) (hx0 : s.N x = []) (hy0 : s.N y = []) (hnx : x < R.n) (hny : y < R.n) (h : StepE P W0 R X .alloc x s fun s' => StepE P W0 R X .alloc y s' k) : StepE P W0 R X .alloc y s fun s' => StepE P W0 R X .alloc x s' k := by
  obtain ⟨v, o, h1, h2⟩ := h
  obtain ⟨r0, hr0⟩ := fresh_wf (W0 := W0) hw
  obtain ⟨v', o', g1, _⟩ := h2 r0 (hr0 o)
  have g1' : ∀ r', ExecF P W0 s.f [] (R.op y) (some r') (v' r') [(r', o')] := fun r' => (ExecF.put_iff ho.ax).1 (g1 r')
  refine ⟨v', o', g1', fun r' hr' => ⟨v, o, fun r => (ExecF.put_iff ho.ay).2 (h1 r), fun r hr => ?_⟩⟩
  have hp1 := all_up (R := R) (X := X) (s := s) (i := y) (E := [(r', o')]) (v := v' r') hny hy0
  have hr2 : Wf W0 ((r, o) :: ((r', o') :: s.all R X)) := (wf_perm (List.Perm.cons _ hp1)).1 hr
  have hr3 : Wf W0 ((r', o') :: ((r, o) :: s.all R X)) := (wf_perm (List.Perm.swap _ _ _)).1 hr2
  have hr4 : Wf W0 ((r, o) :: s.all R X) := (wf_app (E := [(r', o')])).1 hr3 |>.2.1
  have hp2 := all_up (R := R) (X := X) (s := s) (i := x) (E := [(r, o)]) (v := v r) hnx hx0
  obtain ⟨v2, o2, g3, g4⟩ := h2 r hr4
  obtain ⟨e1, e2⟩ := wf_one (W0 := W0) r' s.f (fun q => (ExecF.put_iff ho.ax).1 (g3 q)) g1'
  subst e2
  have := g4 r' ((wf_perm (List.Perm.cons _ hp2.symm)).1 hr3)
  rw [e1] at this
  rw [putS_comm (A := upN s.N x [(r, o)]) (B := upN s.N y [(r', o2)]) ho] at this
  rw [show (putS R s x (v r) (upN s.N x [(r, o)])).N = upN s.N x [(r, o)] from rfl, upN_comm ho.ne] at this
  exact this
theorem swap_ca (ho : Ok (R := R) x y) (hw : Wf W0 (s.all R X)) (hx0 : s.N x = []) (hy0 : s.N y = []) (hnx : x < R.n) (hny : y < R.n) (h : StepE P W0 R X .call x s fun s' => StepE P W0 R X .alloc y s' k) : StepE P W0 R X .alloc y s fun s' => StepE P W0 R X .call x s' k := by
  obtain ⟨Φ, h1, h2, h3⟩ := h
  obtain ⟨v0, E0, hΦ0, hn0, hk0⟩ := h2 (keys (s.all R X))
  obtain ⟨v', o', g1, _⟩ := h3 v0 E0 hΦ0 (wf_app.2 ⟨⟨hn0, fun b hb => (hk0 b hb).1⟩, hw, fun b hb => (hk0 b hb).2⟩)
  have g1' : ∀ r', ExecF P W0 s.f [] (R.op y) (some r') (v' r') [(r', o')] := fun r' => (ExecF.put_iff ho.ax).1 (g1 r')
  refine ⟨v', o', g1', fun r' hr' => ⟨Φ, ?_, h2, fun v E hΦ hr => ?_⟩⟩
  · rw [view_up ho.yx]; exact (OpSF.put_iff ho.ay).2 h1
  have hp1 := all_up (R := R) (X := X) (s := s) (i := y) (E := [(r', o')]) (v := v' r') hny hy0
  have hr2 : Wf W0 (E ++ ((r', o') :: s.all R X)) := (wf_perm (List.Perm.append_left _ hp1)).1 hr
  have hr3 : Wf W0 ((r', o') :: (E ++ s.all R X)) := (wf_perm List.perm_middle).1 hr2
  have hr4 : Wf W0 (E ++ s.all R X) := (wf_app (E := [(r', o')])).1 hr3 |>.2.1
  have hp2 := all_up (R := R) (X := X) (s := s) (i := x) (E := E) (v := v) hnx hx0
  obtain ⟨v2, o2, g3, g4⟩ := h3 v E hΦ hr4
  obtain ⟨e1, e2⟩ := wf_one (W0 := W0) r' s.f (fun q => (ExecF.put_iff ho.ax).1 (g3 q)) g1'
  subst e2
  have := g4 r' ((wf_perm (List.Perm.cons _ hp2.symm)).1 hr3)
  rw [e1] at this
  rw [putS_comm (A := upN s.N x E) (B := upN s.N y [(r', o2)]) ho] at this
  rw [show (putS R s x v (upN s.N x E)).N = upN s.N x E from rfl, upN_comm ho.ne] at this
  exact this
theorem clear_up {N : Nat → SHeap} {E : SHeap} (h : y ∉ R.p x) : clearN R x (upN N y E) = upN (clearN R x N) y E := by
  funext k
  simp only [clearN, upN]
  by_cases e : k = y
  · subst e; rw [if_neg h]; simp
  · simp [e]
theorem clear_nil {N : Nat → SHeap} (h : N y = []) : clearN R x N y = [] := by
  simp only [clearN]; split
  · rfl
  · exact h
theorem swap_ea (ho : Ok (R := R) x y) (hw : Wf W0 (s.all R X)) (hy0 : s.N y = []) (hny : y < R.n) (h : StepE P W0 R X .eff x s fun s' => StepE P W0 R X .alloc y s' k) : StepE P W0 R X .alloc y s fun s' => StepE P W0 R X .eff x s' k := by
  obtain ⟨Φ, h1, h2, h3⟩ := h
  obtain ⟨v0, H0, hΦ0, hn0, hk0⟩ := h2 (wf_sub (view_sub s x) hw) (keys (s.all R X))
  have hw0 := eff_wf hw hn0 hk0
  obtain ⟨v', o', g1, _⟩ := h3 v0 H0 hΦ0 hw0
  have g1' : ∀ r', ExecF P W0 s.f [] (R.op y) (some r') (v' r') [(r', o')] := fun r' => (ExecF.put_iff ho.ax).1 (g1 r')
  refine ⟨v', o', g1', fun r' hr' => ⟨Φ, ?_, ?_, fun v H' hΦ hr => ?_⟩⟩
  · rw [view_up ho.yx]; exact (OpSF.put_iff ho.ay).2 h1
  · rw [view_up ho.yx]; exact h2
  have hr1 : Wf W0 ((List.range R.n).flatMap (upN (clearN R x s.N) y [(r', o')]) ++ (H' ++ X)) := by rw [← clear_up ho.yx]; exact hr
  have hp : ((List.range R.n).flatMap (upN (clearN R x s.N) y [(r', o')]) ++ (H' ++ X)).Perm ((r', o') :: ((List.range R.n).flatMap (clearN R x s.N) ++ (H' ++ X))) :=
    List.Perm.append_right (H' ++ X) (flat_perm List.nodup_range (List.mem_range.2 hny) (clear_nil hy0))
  have hr2 := (wf_perm hp).1 hr1
  obtain ⟨v2, o2, g3, g4⟩ := h3 v H' hΦ ((wf_app (E := [(r', o')])).1 hr2 |>.2.1)
  obtain ⟨e1, e2⟩ := wf_one (W0 := W0) r' s.f (fun q => (ExecF.put_iff ho.ax).1 (g3 q)) g1'
  subst e2
  have := g4 r' hr2
  rw [e1] at this
  have e : (⟨fput (putS R s y (v' r') (upN s.N y [(r', o2)])).f (R.op x).dst v, H', clearN R x (putS R s y (v' r') (upN s.N y [(r', o2)])).N⟩ : DS) = putS R ⟨fput s.f (R.op x).dst v, H', clearN R x s.N⟩ y (v' r') (upN (clearN R x s.N) y [(r', o2)]) :=
    ds_ext (fput_comm fun t a b => ho.dd t b a) rfl fun k => by
      show clearN R x (upN s.N y [(r', o2)]) k = _
      rw [clear_up ho.yx]; rfl
  rw [e]; exact this

/-- Which pairs may change places. -/
def CE (R : Reg) (ex ey : EC) (x y : Nat) : Prop :=
  match ex, ey with
  | .alloc, .alloc => True
  | .call, .alloc => True
  | .eff, .alloc => True
  | .alloc, .call | .alloc, .eff | .call, .call | .call, .eff | .eff, .call | .eff, .eff => False
  | .alloc, e => ∀ j, e = .loc j → j ≠ x ∧ j < R.n
  | .call, e => (∀ j, e = .loc j → j ≠ x ∧ j < R.n) ∧ SeesNot R e y x
  | .eff, e => e = .undef ∨ e = .light
  | e, .alloc => ∀ j, e = .loc j → j ≠ y
  | e, .call => (∀ j, e = .loc j → j ≠ y) ∧ SeesNot R e x y
  | e, .eff => e = .undef ∨ e = .light
  | ex, ey => (ey = .mem → SeesNot R ex x y) ∧ (ex = .mem → SeesNot R ey y x) ∧ (∀ i j, ex = .loc i → ey = .loc j → i ≠ j)

theorem swapE (ho : Ok (R := R) x y) (hw : Wf W0 (s.all R X)) (hx0 : s.N x = []) (hy0 : s.N y = []) (hnx : x < R.n) (hny : y < R.n) (hl : ∀ j, ey = .loc j → j < R.n) (hc : CE R ex ey x y) (h : StepE P W0 R X ex x s fun s' => StepE P W0 R X ey y s' k) : StepE P W0 R X ey y s fun s' => StepE P W0 R X ex x s' k := by
  by_cases hdx : Det ex
  · by_cases hdy : Det ey
    · have hc' : (ey = .mem → SeesNot R ex x y) ∧ (ex = .mem → SeesNot R ey y x) ∧ (∀ i j, ex = .loc i → ey = .loc j → i ≠ j) := by
        cases ex <;> cases ey <;> first | exact hdx.elim | exact hdy.elim | exact hc
      obtain ⟨vx, Nx, h1, h2⟩ := (stepE_det hdx).1 h
      obtain ⟨vy, Ny, h3, h4⟩ := (stepE_det hdy).1 h2
      obtain ⟨Ny', g1, Nx', g2, g3⟩ := swap_dd ho hc'.1 hc'.2.1 hc'.2.2 h1 h3 h4
      exact StepE.ofDet hdy g1 (StepE.ofDet hdx g2 g3)
    · obtain ⟨vx, Nx, h1, h2⟩ := (stepE_det hdx).1 h
      cases ey <;> first | exact absurd trivial hdy | skip
      · exact swap_da ho (by cases ex <;> first | exact hdx.elim | exact hc) h1 h2
      · have hc' : (∀ j, ex = .loc j → j ≠ y) ∧ SeesNot R ex x y := by cases ex <;> first | exact hdx.elim | exact hc
        exact swap_dc ho hc'.1 hc'.2 h1 h2
      · exact swap_de ho (by cases ex <;> first | exact hdx.elim | exact hc) h1 h2
  · by_cases hdy : Det ey
    · cases ex <;> first | exact absurd trivial hdx | skip
      · exact swap_ad ho hw (by cases ey <;> first | exact hdy.elim | exact hc) hdy h
      · have hc' : (∀ j, ey = .loc j → j ≠ x ∧ j < R.n) ∧ SeesNot R ey y x := by cases ey <;> first | exact hdy.elim | exact hc
        exact swap_cd ho hw hc'.1 hc'.2 hdy h
      · exact swap_ed ho hw (by cases ey <;> first | exact hdy.elim | exact hc) h
    · cases ex <;> cases ey <;> first | exact absurd trivial hdx | exact absurd trivial hdy | exact hc.elim | skip
      · exact swap_aa ho hw hx0 hy0 hnx hny h
      · exact swap_ca ho hw hx0 hy0 hnx hny h
      · exact swap_ea ho hw hy0 hny h

/-- What is known behind a step. -/
theorem stepE_mono {k' : DS → Prop} {e : EC} {i : Nat} (hw : Wf W0 (s.all R X)) (hi0 : s.N i = []) (hni : i < R.n) (hl : ∀ j, e = .loc j → j ∈ R.p i)
    (hk : ∀ s', (∃ u, s'.f = fput s.f (R.op i).dst u) → Wf W0 (s'.all R X) → (∀ j, j ≠ i → j ∉ R.p i → s'.N j = s.N j) → k s' → k' s') (h : StepE P W0 R X e i s k) : StepE P W0 R X e i s k' := by
  by_cases hd : Det e
  · obtain ⟨v, N', h1, h2⟩ := (stepE_det hd).1 h
    refine StepE.ofDet hd h1 (hk _ ⟨v, rfl⟩ (h1.wf.2 hw) (fun j hj hp => ?_) h2)
    show N' j = s.N j
    rw [h1.shape j]
    cases e with
    | loc m => simp only [ovr]; rw [if_neg]; rintro rfl; exact hp (hl _ rfl)
    | _ => rfl
  · cases e <;> first | exact absurd trivial hd | skip
    · obtain ⟨v, o, h1, h2⟩ := h
      refine ⟨v, o, h1, fun r hr => hk _ ⟨_, rfl⟩ ((wf_perm (all_up hni hi0)).2 hr) (fun j hj hp => ?_) (h2 r hr)⟩
      show upN s.N i _ j = _; simp only [upN]; rw [if_neg hj]
    · obtain ⟨Φ, h1, h2, h3⟩ := h
      refine ⟨Φ, h1, h2, fun v E hΦ hr => hk _ ⟨_, rfl⟩ ((wf_perm (all_up hni hi0)).2 hr) (fun j hj hp => ?_) (h3 v E hΦ hr)⟩
      show upN s.N i _ j = _; simp only [upN]; rw [if_neg hj]
    · obtain ⟨Φ, h1, h2, h3⟩ := h
      refine ⟨Φ, h1, h2, fun v E hΦ hr => hk _ ⟨_, rfl⟩ hr (fun j hj hp => ?_) (h3 v E hΦ hr)⟩
      show clearN R i s.N j = _; simp only [clearN]; rw [if_neg hp]
theorem stepE_wit {e : EC} {i : Nat} (hw : Wf W0 (s.all R X)) (h : StepE P W0 R X e i s k) : ∃ s', (∃ u, s'.f = fput s.f (R.op i).dst u) ∧ k s' := by
  by_cases hd : Det e
  · obtain ⟨v, N', h1, h2⟩ := (stepE_det hd).1 h
    exact ⟨_, ⟨v, rfl⟩, h2⟩
  · cases e <;> first | exact absurd trivial hd | skip
    · obtain ⟨v, o, h1, h2⟩ := h
      obtain ⟨r, hr⟩ := fresh_wf (W0 := W0) hw
      exact ⟨_, ⟨_, rfl⟩, h2 r (hr o)⟩
    · obtain ⟨Φ, h1, h2, h3⟩ := h
      obtain ⟨v0, E0, hΦ0, hn0, hk0⟩ := h2 (keys (s.all R X))
      exact ⟨_, ⟨_, rfl⟩, h3 v0 E0 hΦ0 (wf_app.2 ⟨⟨hn0, fun b hb => (hk0 b hb).1⟩, hw, fun b hb => (hk0 b hb).2⟩)⟩
    · obtain ⟨Φ, h1, h2, h3⟩ := h
      obtain ⟨v0, E0, hΦ0, hn0, hk0⟩ := h2 (wf_sub (view_sub s i) hw) (keys (s.all R X))
      exact ⟨_, ⟨_, rfl⟩, h3 v0 E0 hΦ0 (eff_wf hw hn0 hk0)⟩

theorem swapS (ho : Ok (R := R) x y) (hw : Wf W0 (s.all R X)) (hx0 : s.N x = []) (hy0 : s.N y = []) (hnx : x < R.n) (hny : y < R.n) (hlx : ∀ j, R.c x = .loc j → j ∈ R.p x) (hly : ∀ j, R.c y = .loc j → j ∈ R.p y)
    (hc : ∀ bx b, CE R (ecOf (R.c x) bx) (ecOf (R.c y) b) x y) (h : Step P W0 R X x s fun s' => Step P W0 R X y s' k) : Step P W0 R X y s fun s' => Step P W0 R X x s' k := by
  have hloc : ∀ i b j, ecOf (R.c i) b = .loc j → R.c i = .loc j := fun i b j e => by
    cases b <;> cases hi : R.c i <;> rw [hi] at e <;> simp [ecOf] at e ⊢ <;> exact e
  have hpn : ∀ i j, j ∈ R.p i → j < R.n := fun i j hj => List.mem_range.1 (List.mem_filter.1 hj).1
  obtain ⟨bx, wx, h⟩ := h
  obtain ⟨s1, ⟨u, hu⟩, ⟨b, wy, _⟩⟩ := stepE_wit hw h
  have wy' : WantedF R s.f (R.op y) b := by rw [hu] at wy; exact (WantedF.put_iff ho.ax).1 wy
  have h2 : StepE P W0 R X (ecOf (R.c x) bx) x s fun s' => StepE P W0 R X (ecOf (R.c y) b) y s' k := by
    refine stepE_mono hw hx0 hnx (fun j e => hlx j (hloc _ _ _ e)) (fun s' ⟨u', hu'⟩ _ _ ⟨b', w', hs'⟩ => ?_) h
    rw [hu'] at w'
    have := WantedF.uniq ((WantedF.put_iff ho.ax).1 w') wy'
    subst this; exact hs'
  have h3 := swapE ho hw hx0 hy0 hnx hny (fun j e => hpn y j (hly j (hloc _ _ _ e))) (hc bx b) h2
  refine ⟨b, wy', stepE_mono hw hy0 hny (fun j e => hly j (hloc _ _ _ e)) (fun s' ⟨u', hu'⟩ _ _ hs' => ⟨bx, ?_, hs'⟩) h3⟩
  rw [hu']; exact (WantedF.put_iff ho.ay).2 wx
end
end Go.Proofs.Yteilocpjikmmdaa.Sym
