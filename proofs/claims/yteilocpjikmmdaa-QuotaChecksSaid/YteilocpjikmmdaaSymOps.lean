/- What each operation comes to, by reckoning over what is owned. -/
import Derived.Test.YteilocpjikmmdaaSymWp
namespace Go.Proofs.Yteilocpjikmmdaa.Sym
open Go.RowKit (Below)
set_option linter.unusedVariables false
set_option linter.unusedSimpArgs false

section
variable {P : Program} {W0 : World} {F : Fm} {H : SHeap} {ro : Option Nat} {d : Option Tmp} {ty : TypeId} {pos : String} {af : Array Edge} {g : Option (Nat × Bool)}

theorem ev_of {x : Operand} {v : Value} (h : val F x = some v) : ev F x = v := by simp [ev, h]
theorem some_of {x : Operand} {v : Value} (h : val F x = some v) : (val F x).isSome = true := by simp [h]

/-- An operation that only reads. -/
structure Rd (P : Program) (W0 : World) (F : Fm) (H : SHeap) (o : Oper) (v : Value) : Prop where
  sel : ∀ cs b, o.op ≠ .select cs b
  opd : ∀ x ∈ o.op.operands, (val F x).isSome
  run : Wf W0 H → rdSym P W0 H (execOp (ev F) o) = some (.value v)
theorem Rd.x {o : Oper} {v : Value} (h : Rd P W0 F H o v) : Exec P W0 F H o ro v H := ⟨h.sel, h.opd, fun hw => .inl (rd_run _ (h.run hw))⟩
theorem exec_rd {o : Oper} {v : Value} (sel : ∀ cs b, o.op ≠ .select cs b) (opd : ∀ x ∈ o.op.operands, (val F x).isSome) (h : Wf W0 H → rdSym P W0 H (execOp (ev F) o) = some (.value v)) : Rd P W0 F H o v := ⟨sel, opd, h⟩

theorem rd_map {α β : Type} (s : Sem α) (f : α → β) : rdSym P W0 H (f <$> s) = (rdSym P W0 H s).map f := by
  show rdSym P W0 H (s >>= fun x => Pure.pure (f x)) = _
  rw [rd_bind]; cases rdSym P W0 H s <;> rfl
theorem rd_program : rdSym P W0 H program = some P := rfl
theorem rd_underlying {t : TypeId} {k : TypeDesc} (h : P.underlying t = some k) : rdSym P W0 H (underlying t) = some k := by
  unfold underlying; rw [rd_bind, rd_program]; simp [h]; rfl
def szOf (P : Program) (t : TypeId) : Option Nat := (P.info? t).map (·.size)
theorem rd_sizeOf {t : TypeId} {n : Nat} (h : szOf P t = some n) : rdSym P W0 H (sizeOf t) = some n := by
  unfold szOf at h
  obtain ⟨i, h1, h2⟩ := Option.map_eq_some_iff.1 h
  unfold sizeOf typeInfo; rw [rd_bind, rd_bind, rd_program]; simp [h1, rd_pure, h2]
def zeroOf (P : Program) (t : TypeId) : Option Value := (P.info? t).bind (·.zero)
theorem rd_zero {t : TypeId} {v : Value} (h : zeroOf P t = some v) : rdSym P W0 H (zeroValue t) = some v := by
  unfold zeroOf at h
  obtain ⟨i, h1, h2⟩ := Option.bind_eq_some_iff.1 h
  unfold zeroValue typeInfo; rw [rd_bind, rd_bind, rd_program]; simp [h1, rd_pure, h2]
def aggOf (P : Program) (t : TypeId) : Option Bool := (P.underlying t).map fun | .struct _ | .array _ _ => true | _ => false
theorem rd_isAgg {t : TypeId} {b : Bool} (h : aggOf P t = some b) : rdSym P W0 H (isAgg t) = some b := by
  unfold aggOf at h
  obtain ⟨k, h1, h2⟩ := Option.map_eq_some_iff.1 h
  unfold isAgg; rw [rd_bind, rd_underlying h1]; subst h2; cases k <;> rfl

/-! ### without memory -/
theorem x_move {x : Operand} {v : Value} (h : val F x = some v) : Rd P W0 F H ⟨d, .move x, ty, pos, af, g⟩ v :=
  exec_rd (by simp) (by simp [Op.operands, some_of h]) fun _ => by simp only [execOp, ev_of h]; rfl
theorem x_assign {x : Operand} {v : Value} (h : val F x = some v) : Rd P W0 F H ⟨d, .assign x, ty, pos, af, g⟩ v :=
  exec_rd (by simp) (by simp [Op.operands, some_of h]) fun _ => by simp only [execOp, ev_of h]; rfl
theorem x_pick_t {c a b : Operand} {v u : Value} (h : val F c = some (.bool true)) (ha : val F a = some v) (hb : val F b = some u) : Rd P W0 F H ⟨d, .pick c a b, ty, pos, af, g⟩ v :=
  exec_rd (by simp) (by simp [Op.operands, some_of h, some_of ha, some_of hb]) fun _ => by simp only [execOp, ev_of h, ev_of ha, asBool]; rfl
theorem x_pick_f {c a b : Operand} {v u : Value} (h : val F c = some (.bool false)) (ha : val F a = some u) (hb : val F b = some v) : Rd P W0 F H ⟨d, .pick c a b, ty, pos, af, g⟩ v :=
  exec_rd (by simp) (by simp [Op.operands, some_of h, some_of ha, some_of hb]) fun _ => by simp only [execOp, ev_of h, ev_of hb, asBool]; rfl

theorem exec_bin {op : BinOp} {t t' : TypeId} {x y : Operand} {k k' : IntKind} {a b : Int} {v : Value} (hx : val F x = some (.int k a)) (hy : val F y = some (.int k' b))
    (h : rdSym P W0 H (binOp op t (.int k a) (.int k' b)) = some v) : Rd P W0 F H ⟨d, .binOp op t x y t', ty, pos, af, g⟩ v :=
  exec_rd (by simp) (by simp [Op.operands, some_of hx, some_of hy]) fun _ => by
    have hg : eqGuard op t x y (.int k a) (.int k' b) = Pure.pure () := by unfold eqGuard; cases op <;> rfl
    simp only [execOp, ev_of hx, ev_of hy, hg, rd_bind, rd_pure, Option.bind_some, h]

section ints
variable {t t' : TypeId} {x y : Operand} {k : IntKind} {a b : Int}
theorem x_add (hx : val F x = some (.int k a)) (hy : val F y = some (.int k b)) : Rd P W0 F H ⟨d, .binOp .add t x y t', ty, pos, af, g⟩ (.int k (k.wrap (a + b))) := exec_bin hx hy (by simp [binOp, Op.intArith, rd_pure])
theorem x_sub (hx : val F x = some (.int k a)) (hy : val F y = some (.int k b)) : Rd P W0 F H ⟨d, .binOp .sub t x y t', ty, pos, af, g⟩ (.int k (k.wrap (a - b))) := exec_bin hx hy (by simp [binOp, Op.intArith, rd_pure])
theorem x_mul (hx : val F x = some (.int k a)) (hy : val F y = some (.int k b)) : Rd P W0 F H ⟨d, .binOp .mul t x y t', ty, pos, af, g⟩ (.int k (k.wrap (a * b))) := exec_bin hx hy (by simp [binOp, Op.intArith, rd_pure])
theorem x_quo (hx : val F x = some (.int k a)) (hy : val F y = some (.int k b)) (hb : b ≠ 0) : Rd P W0 F H ⟨d, .binOp .quo t x y t', ty, pos, af, g⟩ (.int k (k.wrap (a.tdiv b))) := exec_bin hx hy (by simp [binOp, Op.intDiv, hb, rd_pure])
theorem x_rem (hx : val F x = some (.int k a)) (hy : val F y = some (.int k b)) (hb : b ≠ 0) : Rd P W0 F H ⟨d, .binOp .rem t x y t', ty, pos, af, g⟩ (.int k (a.tmod b)) := exec_bin hx hy (by simp [binOp, Op.intDiv, hb, rd_pure])
theorem x_eq (hx : val F x = some (.int k a)) (hy : val F y = some (.int k b)) : Rd P W0 F H ⟨d, .binOp .eql t x y t', ty, pos, af, g⟩ (.bool (decide (a = b))) := exec_bin hx hy (by simp [binOp, Op.intCmp, rd_pure]; rfl)
theorem x_ne (hx : val F x = some (.int k a)) (hy : val F y = some (.int k b)) : Rd P W0 F H ⟨d, .binOp .neq t x y t', ty, pos, af, g⟩ (.bool (decide (a ≠ b))) := exec_bin hx hy (by simp [binOp, Op.intCmp, rd_pure, bne]; rfl)
theorem x_lt (hx : val F x = some (.int k a)) (hy : val F y = some (.int k b)) : Rd P W0 F H ⟨d, .binOp .lss t x y t', ty, pos, af, g⟩ (.bool (decide (a < b))) := exec_bin hx hy (by simp [binOp, Op.intCmp, rd_pure])
theorem x_le (hx : val F x = some (.int k a)) (hy : val F y = some (.int k b)) : Rd P W0 F H ⟨d, .binOp .leq t x y t', ty, pos, af, g⟩ (.bool (decide (a ≤ b))) := exec_bin hx hy (by simp [binOp, Op.intCmp, rd_pure])
theorem x_gt (hx : val F x = some (.int k a)) (hy : val F y = some (.int k b)) : Rd P W0 F H ⟨d, .binOp .gtr t x y t', ty, pos, af, g⟩ (.bool (decide (b < a))) := exec_bin hx hy (by simp [binOp, Op.intCmp, rd_pure])
theorem x_ge (hx : val F x = some (.int k a)) (hy : val F y = some (.int k b)) : Rd P W0 F H ⟨d, .binOp .geq t x y t', ty, pos, af, g⟩ (.bool (decide (b ≤ a))) := exec_bin hx hy (by simp [binOp, Op.intCmp, rd_pure])
theorem x_shr {k' : IntKind} (hx : val F x = some (.int k a)) (hy : val F y = some (.int k' b)) (hb : 0 ≤ b) : Rd P W0 F H ⟨d, .binOp .shr t x y t', ty, pos, af, g⟩ (.int k (a.fdiv (2 ^ (min b.toNat k.bits)))) :=
  exec_bin hx hy (by simp [binOp, Op.shift, rd_pure, show ¬ b < 0 by omega])
theorem x_shl {k' : IntKind} (hx : val F x = some (.int k a)) (hy : val F y = some (.int k' b)) (hb : 0 ≤ b) : Rd P W0 F H ⟨d, .binOp .shl t x y t', ty, pos, af, g⟩ (.int k (k.wrap (a * 2 ^ (min b.toNat k.bits)))) :=
  exec_bin hx hy (by simp [binOp, Op.shift, rd_pure, show ¬ b < 0 by omega])
theorem x_and (hx : val F x = some (.int k a)) (hy : val F y = some (.int k b)) : Rd P W0 F H ⟨d, .binOp .and t x y t', ty, pos, af, g⟩ (.int k (k.wrap (BitVec.ofInt k.bits a &&& BitVec.ofInt k.bits b).toNat)) := exec_bin hx hy (by simp [binOp, Op.intBits, rd_pure])
theorem x_or (hx : val F x = some (.int k a)) (hy : val F y = some (.int k b)) : Rd P W0 F H ⟨d, .binOp .or t x y t', ty, pos, af, g⟩ (.int k (k.wrap (BitVec.ofInt k.bits a ||| BitVec.ofInt k.bits b).toNat)) := exec_bin hx hy (by simp [binOp, Op.intBits, rd_pure])
theorem x_xor (hx : val F x = some (.int k a)) (hy : val F y = some (.int k b)) : Rd P W0 F H ⟨d, .binOp .xor t x y t', ty, pos, af, g⟩ (.int k (k.wrap (BitVec.ofInt k.bits a ^^^ BitVec.ofInt k.bits b).toNat)) := exec_bin hx hy (by simp [binOp, Op.intBits, rd_pure])
theorem x_andNot (hx : val F x = some (.int k a)) (hy : val F y = some (.int k b)) : Rd P W0 F H ⟨d, .binOp .andNot t x y t', ty, pos, af, g⟩ (.int k (k.wrap (BitVec.ofInt k.bits a &&& ~~~ BitVec.ofInt k.bits b).toNat)) := exec_bin hx hy (by simp [binOp, Op.intBits, rd_pure])
theorem x_neg (hx : val F x = some (.int k a)) : Rd P W0 F H ⟨d, .unOp .neg t x, ty, pos, af, g⟩ (.int k (k.wrap (0 - a))) :=
  exec_rd (by simp) (by simp [Op.operands, some_of hx]) fun _ => by simp [execOp, ev_of hx, Op.unary, Op.intArith, rd_bind, rd_pure]
theorem x_conv {t2 : TypeId} {k2 : IntKind} {t1 : TypeId} {d1 : TypeDesc} (h1 : P.underlying t1 = some d1) (h2 : P.underlying t2 = some (.int k2)) (hx : val F x = some (.int k a)) : Rd P W0 F H ⟨d, .convert t1 t2 x, ty, pos, af, g⟩ (.int k2 (k2.wrap a)) :=
  exec_rd (by simp) (by simp [Op.operands, some_of hx]) fun _ => by
    simp only [execOp, ev_of hx, convert, rd_bind, rd_underlying h1, rd_underlying h2, Option.bind_some]
    cases d1 <;> rfl
end ints

section bools
variable {t t' : TypeId} {x y : Operand} {a b : Bool}
theorem x_not (hx : val F x = some (.bool a)) : Rd P W0 F H ⟨d, .unOp .not t x, ty, pos, af, g⟩ (.bool (!a)) :=
  exec_rd (by simp) (by simp [Op.operands, some_of hx]) fun _ => by simp [execOp, ev_of hx, Op.unary, rd_bind, rd_pure]
theorem exec_eql {u v : Value} {c : Bool} (hx : val F x = some u) (hy : val F y = some v)
    (hg : rdSym P W0 H (eqGuard .eql t x y u v) = some ()) (hb : binOp .eql t u v = (do Pure.pure (.bool (← Op.equal t u v)))) (h : rdSym P W0 H (Op.equal t u v) = some c) :
    Rd P W0 F H ⟨d, .binOp .eql t x y t', ty, pos, af, g⟩ (.bool c) :=
  exec_rd (by simp) (by simp [Op.operands, some_of hx, some_of hy]) fun _ => by
    simp only [execOp, ev_of hx, ev_of hy, rd_bind, hg, Option.bind_some, hb, h, rd_pure]
theorem exec_neq {u v : Value} {c : Bool} (hx : val F x = some u) (hy : val F y = some v)
    (hg : rdSym P W0 H (eqGuard .neq t x y u v) = some ()) (hb : binOp .neq t u v = (do Pure.pure (.bool (!(← Op.equal t u v))))) (h : rdSym P W0 H (Op.equal t u v) = some c) :
    Rd P W0 F H ⟨d, .binOp .neq t x y t', ty, pos, af, g⟩ (.bool (!c)) :=
  exec_rd (by simp) (by simp [Op.operands, some_of hx, some_of hy]) fun _ => by
    simp only [execOp, ev_of hx, ev_of hy, rd_bind, hg, Option.bind_some, hb, h, rd_pure]
theorem eqGuard_bool {op : BinOp} : eqGuard op t x y (.bool a) (.bool b) = Pure.pure () := by unfold eqGuard; cases op <;> rfl
theorem rd_equal_bool (h : P.underlying t = some .bool) : rdSym P W0 H (Op.equal t (.bool a) (.bool b)) = some (a == b) := by
  unfold Op.equal Op.maxDepth Op.equalIn; rw [rd_bind, rd_underlying h]; rfl
theorem x_eqb (h : P.underlying t = some .bool) (hx : val F x = some (.bool a)) (hy : val F y = some (.bool b)) : Rd P W0 F H ⟨d, .binOp .eql t x y t', ty, pos, af, g⟩ (.bool (a == b)) :=
  exec_eql hx hy (by rw [eqGuard_bool]; rfl) rfl (rd_equal_bool h)
theorem x_neb (h : P.underlying t = some .bool) (hx : val F x = some (.bool a)) (hy : val F y = some (.bool b)) : Rd P W0 F H ⟨d, .binOp .neq t x y t', ty, pos, af, g⟩ (.bool (!(a == b))) :=
  exec_neq hx hy (by rw [eqGuard_bool]; rfl) rfl (rd_equal_bool h)
end bools

section ptrs
variable {t t' : TypeId} {x y : Operand}
theorem x_nilCheck {a : Addr} (hx : val F x = some (.pointer (some a))) : Rd P W0 F H ⟨d, .nilCheck x, ty, pos, af, g⟩ (.pointer (some a)) :=
  exec_rd (by simp) (by simp [Op.operands, some_of hx]) fun _ => by simp only [execOp, ev_of hx]; rfl
theorem rd_equal_ptr_nil {e : TypeId} {q : Option Addr} (h : P.underlying t = some (.pointer e)) : rdSym P W0 H (Op.equal t (.pointer q) (.pointer none)) = some q.isNone := by
  unfold Op.equal Op.maxDepth Op.equalIn; rw [rd_bind, rd_underlying h]; cases q <;> rfl
theorem x_eqnil {e : TypeId} {q : Option Addr} (h : P.underlying t = some (.pointer e)) (hx : val F x = some (.pointer q)) (hy : val F y = some (.pointer none)) : Rd P W0 F H ⟨d, .binOp .eql t x y t', ty, pos, af, g⟩ (.bool q.isNone) :=
  exec_eql hx hy rfl (by cases q <;> rfl) (rd_equal_ptr_nil h)
theorem x_nenil {e : TypeId} {q : Option Addr} (h : P.underlying t = some (.pointer e)) (hx : val F x = some (.pointer q)) (hy : val F y = some (.pointer none)) : Rd P W0 F H ⟨d, .binOp .neq t x y t', ty, pos, af, g⟩ (.bool (!q.isNone)) :=
  exec_neq hx hy rfl (by cases q <;> rfl) (rd_equal_ptr_nil h)
theorem rd_equal_slice_nil {e : TypeId} {q : Option Addr} {n c : Nat} (h : P.underlying t = some (.slice e)) : rdSym P W0 H (Op.equal t (.slice q n c) (.slice none 0 0)) = some q.isNone := by
  unfold Op.equal Op.maxDepth Op.equalIn; rw [rd_bind, rd_underlying h]; cases q <;> rfl
theorem x_eqnils {e : TypeId} {q : Option Addr} {n c : Nat} (h : P.underlying t = some (.slice e)) (hx : val F x = some (.slice q n c)) (hy : val F y = some (.slice none 0 0)) : Rd P W0 F H ⟨d, .binOp .eql t x y t', ty, pos, af, g⟩ (.bool q.isNone) :=
  exec_eql hx hy rfl (by cases q <;> rfl) (rd_equal_slice_nil h)
theorem x_nenils {e : TypeId} {q : Option Addr} {n c : Nat} (h : P.underlying t = some (.slice e)) (hx : val F x = some (.slice q n c)) (hy : val F y = some (.slice none 0 0)) : Rd P W0 F H ⟨d, .binOp .neq t x y t', ty, pos, af, g⟩ (.bool (!q.isNone)) :=
  exec_neq hx hy rfl (by cases q <;> rfl) (rd_equal_slice_nil h)

/-- A struct's field: its place, its type, its size. -/
def fldOf (P : Program) (t : TypeId) (i : Nat) : Option (Nat × TypeId × Nat) :=
  match P.underlying t with
  | some (.struct fs) => (fs[i]?).bind fun f => (szOf P f.type).bind fun n => if n = 0 then none else some (f.offset, f.type, n)
  | _ => none
theorem fldOf_some {i off n : Nat} {tf : TypeId} (h : fldOf P t i = some (off, tf, n)) : ∃ fs f, P.underlying t = some (.struct fs) ∧ fs[i]? = some f ∧ f.offset = off ∧ f.type = tf ∧ szOf P tf = some n ∧ n ≠ 0 := by
  unfold fldOf at h
  split at h
  · next fs hu =>
    obtain ⟨f, h1, h2⟩ := Option.bind_eq_some_iff.1 h
    obtain ⟨m, h3, h4⟩ := Option.bind_eq_some_iff.1 h2
    split at h4
    · cases h4
    · cases h4; exact ⟨fs, f, hu, h1, rfl, rfl, h3, by assumption⟩
  · cases h
theorem add_at (b off n : Nat) : (⟨b, off, none⟩ : Addr).add n = ⟨b, off + n, none⟩ := by
  unfold Addr.add; split
  · next h => subst h; rfl
  · rfl
theorem x_fieldAddr {i b off fo n : Nat} {tf : TypeId} (hf : fldOf P t i = some (fo, tf, n)) (hx : val F x = some (.pointer (some ⟨b, off, none⟩))) : Rd P W0 F H ⟨d, .fieldAddr t x i, ty, pos, af, g⟩ (.pointer (some ⟨b, off + fo, none⟩)) := by
  obtain ⟨fs, f, h1, h2, h3, h4, h5, h6⟩ := fldOf_some hf
  subst h4
  refine exec_rd (by simp) (by simp [Op.operands, some_of hx]) fun _ => ?_
  simp only [execOp, ev_of hx, Instr.fieldAt, rd_bind, rd_underlying h1, Option.bind_some, h2, Instr.sureAddr, rd_pure, fieldPlace, rd_sizeOf h5, h6, if_false, h3, add_at]

/-- What lies in memory from a place on. -/
def Cells (W0 : World) (H : SHeap) (b off : Nat) (vs : List Value) : Prop :=
  ∃ c e fz, (Wf W0 H → objAt W0 H b = some (.cells c e fz)) ∧ ∀ i v, vs[i]? = some v → c[off + i]? = some v
inductive Ext : List Value → Nat → Nat → List Value → Prop
  | done {cs : List Value} : Ext cs 0 0 []
  | take {v : Value} {cs vs : List Value} {n : Nat} : Ext cs 0 n vs → Ext (v :: cs) 0 (n + 1) (v :: vs)
  | skip {v : Value} {cs vs : List Value} {k n : Nat} : Ext cs k n vs → Ext (v :: cs) (k + 1) n vs
theorem Ext.get {cs vs : List Value} {k n : Nat} (h : Ext cs k n vs) : vs.length = n ∧ ∀ i v, vs[i]? = some v → cs[k + i]? = some v := by
  induction h with
  | done => exact ⟨rfl, by simp⟩
  | take _ ih =>
    refine ⟨by simp [ih.1], fun i v hv => ?_⟩
    cases i with
    | zero => simpa using hv
    | succ i => have := ih.2 i v (by simpa using hv); simpa [Nat.zero_add] using this
  | skip _ ih =>
    refine ⟨ih.1, fun i v hv => ?_⟩
    have := ih.2 i v hv
    rw [show ∀ k, k + 1 + i = (k + i) + 1 from fun k => by omega, List.getElem?_cons_succ]; exact this
theorem cells_ext {b off n : Nat} {cs vs : List Value} {e : TypeId} {fz : Nat × Nat} (hm : (b, Obj.cells cs.toArray e fz) ∈ H) (hx : Ext cs off n vs) : Cells W0 H b off vs :=
  ⟨_, e, fz, fun hw => hw.obj hm, fun i v hv => by simpa using hx.get.2 i v hv⟩
theorem cells_own {b off : Nat} {pre vs post : List Value} {e : TypeId} {fz : Nat × Nat} (hm : (b, Obj.cells (pre ++ (vs ++ post)).toArray e fz) ∈ H) (hp : pre.length = off) : Cells W0 H b off vs :=
  ⟨_, e, fz, fun hw => hw.obj hm, fun i v hv => by
    have hlt : i < vs.length := by
      rcases Nat.lt_or_ge i vs.length with h | h
      · exact h
      · simp [List.getElem?_eq_none h] at hv
    subst hp
    simp only [List.getElem?_toArray]
    rw [List.getElem?_append_right (by omega), show pre.length + i - pre.length = i by omega, List.getElem?_append_left hlt]; exact hv⟩
theorem cells_base {b off : Nat} {vs : List Value} {c : Array Value} {e : TypeId} {fz : Nat × Nat} (hb : b < W0.heap.size) (ho : W0.heap[b]? = some (.cells c e fz)) (h : ∀ i v, vs[i]? = some v → c[off + i]? = some v) : Cells W0 H b off vs :=
  ⟨c, e, fz, fun _ => by unfold objAt; rw [if_pos hb]; exact ho, h⟩
theorem Cells.sub {b off k n : Nat} {vs : List Value} (h : Cells W0 H b off vs) : Cells W0 H b (off + k) ((vs.drop k).take n) := by
  obtain ⟨c, e, fz, h1, h2⟩ := h
  refine ⟨c, e, fz, h1, fun i v hv => ?_⟩
  have hv' : (vs.drop k)[i]? = some v := by
    rw [List.getElem?_take] at hv; split at hv
    · exact hv
    · cases hv
  rw [List.getElem?_drop] at hv'
  rw [Nat.add_assoc]; exact h2 _ _ hv'

theorem rd_load {b off : Nat} {v : Value} {vs : List Value} (hw : Wf W0 H) (h : Cells W0 H b off vs) {i : Nat} (hi : vs[i]? = some v) : rdSym P W0 H (load ⟨b, off + i, none⟩) = some v := by
  obtain ⟨c, e, fz, h1, h2⟩ := h
  simp only [load, rdSym, h1 hw, Option.bind_some, cellOf]
  simp [h2 i v hi]
theorem rd_loadCellsFrom {b off : Nat} {vs : List Value} (hw : Wf W0 H) (h : Cells W0 H b off vs) : ∀ (n i : Nat) (acc : Array Value), i + n = vs.length → rdSym P W0 H (loadCellsFrom ⟨b, off, none⟩ i n acc) = some (acc ++ (vs.drop i).toArray) := by
  intro n
  induction n with
  | zero => intro i acc hi; unfold loadCellsFrom; rw [List.drop_eq_nil_of_le (by omega)]; simp [rd_pure]
  | succ n ih =>
    intro i acc hi
    unfold loadCellsFrom
    have hlt : i < vs.length := by omega
    rw [rd_bind, add_at, rd_load hw h (List.getElem?_eq_getElem hlt), Option.bind_some, ih (i + 1) _ (by omega)]
    rw [List.drop_eq_getElem_cons hlt]; simp
theorem rd_loadCells {b off n : Nat} {vs : List Value} (hw : Wf W0 H) (h : Cells W0 H b off vs) (hn : vs.length = n) : rdSym P W0 H (loadCells ⟨b, off, none⟩ n) = some vs.toArray := by
  unfold loadCells; rw [rd_loadCellsFrom hw h n 0 #[] (by omega)]; simp
theorem rd_loadVar1 {b off : Nat} {v : Value} (ha : aggOf P t = some false) (hw : Wf W0 H) (h : Cells W0 H b off [v]) : rdSym P W0 H (loadVar t ⟨b, off, none⟩) = some v := by
  unfold loadVar; rw [rd_bind, rd_isAgg ha, Option.bind_some]
  exact rd_load (i := 0) hw h rfl
theorem rd_loadVarN {b off n : Nat} {vs : List Value} (ha : aggOf P t = some true) (hs : szOf P t = some n) (hw : Wf W0 H) (h : Cells W0 H b off vs) (hn : vs.length = n) : rdSym P W0 H (loadVar t ⟨b, off, none⟩) = some (.agg vs.toArray) := by
  unfold loadVar; rw [rd_bind, rd_isAgg ha, Option.bind_some]
  simp only [if_true, rd_bind, rd_sizeOf hs, Option.bind_some, rd_loadCells hw h hn, rd_pure]
theorem x_load {b off : Nat} {v : Value} (ha : aggOf P t = some false) (hx : val F x = some (.pointer (some ⟨b, off, none⟩))) (h : Cells W0 H b off [v]) : Rd P W0 F H ⟨d, .load t x, ty, pos, af, g⟩ v :=
  exec_rd (by simp) (by simp [Op.operands, some_of hx]) fun hw => by
    simp only [execOp, ev_of hx, Instr.loadAt, Instr.sureAddr, rd_bind, rd_pure, Option.bind_some, rd_loadVar1 ha hw h]
theorem x_loadN {b off n : Nat} {vs : List Value} (ha : aggOf P t = some true) (hs : szOf P t = some n) (hx : val F x = some (.pointer (some ⟨b, off, none⟩))) (h : Cells W0 H b off vs) (hn : vs.length = n) : Rd P W0 F H ⟨d, .load t x, ty, pos, af, g⟩ (.agg vs.toArray) :=
  exec_rd (by simp) (by simp [Op.operands, some_of hx]) fun hw => by
    simp only [execOp, ev_of hx, Instr.loadAt, Instr.sureAddr, rd_bind, rd_pure, Option.bind_some, rd_loadVarN ha hs hw h hn]

/-- A list written over from a place on. -/
inductive Spl : List Value → Nat → List Value → List Value → Prop
  | done {cs : List Value} : Spl cs 0 [] cs
  | put {v u : Value} {cs vs cs' : List Value} : Spl cs 0 vs cs' → Spl (u :: cs) 0 (v :: vs) (v :: cs')
  | skip {u : Value} {cs vs cs' : List Value} {k : Nat} : Spl cs k vs cs' → Spl (u :: cs) (k + 1) vs (u :: cs')
def wrCells (c : Array Value) (off : Nat) : List Value → Array Value
  | [] => c
  | v :: vs => wrCells (c.setIfInBounds off v) (off + 1) vs
theorem Spl.wr {cs vs cs' : List Value} {k : Nat} (h : Spl cs k vs cs') : ∀ (pre : List Value), wrCells (pre ++ cs).toArray (pre.length + k) vs = (pre ++ cs').toArray ∧ k + vs.length ≤ cs.length := by
  induction h with
  | done => intro pre; exact ⟨rfl, by simp⟩
  | put h ih =>
    rename_i v u cs vs cs'
    intro pre
    obtain ⟨h1, h2⟩ := ih (pre ++ [v])
    refine ⟨?_, by simp at h2 ⊢; omega⟩
    unfold wrCells
    simp only [List.length_append, List.length_singleton, List.append_assoc, List.cons_append, List.nil_append, Nat.add_zero] at h1 ⊢
    rw [← h1]; congr 1
    apply Array.toList_inj.1; simp [List.set_append]
  | skip h ih =>
    rename_i u cs vs cs' k
    intro pre
    obtain ⟨h1, h2⟩ := ih (pre ++ [u])
    refine ⟨?_, by simp at h2 ⊢; omega⟩
    simp only [List.length_append, List.length_singleton, List.append_assoc, List.cons_append, List.nil_append] at h1
    rw [← h1]; congr 1; omega
theorem wr_size (vs : List Value) : ∀ (c : Array Value) (off : Nat), (wrCells c off vs).size = c.size := by
  induction vs with
  | nil => intro c off; rfl
  | cons v vs ih => intro c off; unfold wrCells; rw [ih]; simp
theorem upd_upd (b : Nat) (o o' : Obj) : ∀ H : SHeap, upd b o (upd b o' H) = upd b o H
  | [] => rfl
  | (c, p) :: H => by
    unfold upd
    by_cases h : c = b
    · simp [h, upd]
    · simp [h, upd, upd_upd b o o' H]
theorem upd_same {b : Nat} {o : Obj} : ∀ {H : SHeap}, (keys H).Nodup → (b, o) ∈ H → upd b o H = H
  | (c, p) :: H, hn, hm => by
    rw [keys_cons, List.nodup_cons] at hn
    unfold upd
    rcases List.mem_cons.1 hm with h | h
    · cases h; simp
    · have : c ≠ b := fun e => hn.1 (e ▸ mem_keys h)
      rw [if_neg this, upd_same hn.2 h]
theorem find_upd {b : Nat} {o p : Obj} : ∀ {H : SHeap}, find b H = some p → find b (upd b o H) = some o
  | (c, q) :: H, h => by
    unfold find at h; unfold upd
    by_cases hc : c = b
    · simp [hc, find]
    · rw [if_neg hc] at h; simp [hc, find, find_upd h]
theorem run_storeCells {b off : Nat} {e : TypeId} (hb : W0.heap.size ≤ b) : ∀ (vs : List Value) (i : Nat) (c : Array Value) (H : SHeap), find b H = some (.cells c e (0, 0)) → (keys H).Nodup → (∀ v ∈ vs, oneCell v = true) → off + i + vs.length ≤ c.size →
    runSym P W0 (storeCells ⟨b, off, none⟩ vs i) none H = some ((), upd b (.cells (wrCells c (off + i) vs) e (0, 0)) H) := by
  intro vs
  induction vs with
  | nil => intro i c H hf hn _ _; unfold storeCells wrCells; rw [upd_same hn (find_mem hf)]; rfl
  | cons v vs ih =>
    intro i c H hf hn hv hl
    unfold storeCells
    have hlt : off + i < c.size := by simp at hl; omega
    have hv1 : oneCell v = true := hv v List.mem_cons_self
    have hcell : cellOf (.cells c e (0, 0)) ⟨b, off + i, none⟩ = some c[off + i] := by simp [cellOf, hlt]
    have hs : runSym P W0 (store ⟨b, off + i, none⟩ v) none H = some ((), upd b (.cells (c.setIfInBounds (off + i) v) e (0, 0)) H) := by
      simp only [store, runSym, hf]
      rw [if_neg (by omega), hcell]; simp [hv1, frozenOf]
    rw [add_at, runSym_bind _ hs, ih (i + 1) _ _ (find_upd hf) (by rw [keys_upd]; exact hn) (fun u hu => hv u (List.mem_cons_of_mem _ hu)) (by simp at hl ⊢; omega), upd_upd]
    rfl
/-- A store into a block that is owned. -/
theorem x_store {y : Operand} {b off n : Nat} {v : Value} {cs vs cs' : List Value} {e : TypeId} {H' : SHeap} (hs : szOf P t = some n) (hx : val F x = some (.pointer (some ⟨b, off, none⟩))) (hy : val F y = some v)
    (hv : v.cells = vs.toArray) (hn : vs.length = n) (h1 : vs.all oneCell = true) (hr : Repl b (.cells cs.toArray e (0, 0)) (.cells cs'.toArray e (0, 0)) H H') (hsp : Spl cs off vs cs') :
    Exec P W0 F H ⟨d, .store t x y, ty, pos, af, g⟩ ro undef H' := by
  refine ⟨by simp, by simp [Op.operands, some_of hx, some_of hy], fun hw => .inr ⟨?_, rfl⟩⟩
  have hge := hw.2 b (mem_keys hr.mem)
  have hst := run_storeCells (P := P) (W0 := W0) (b := b) (off := off) (e := e) hge vs 0 cs.toArray H (find_of_mem hw.1 hr.mem) hw.1 (by simpa using h1) (by have := (hsp.wr []).2; simpa using this)
  have hwr : wrCells cs.toArray off vs = cs'.toArray := by have := (hsp.wr []).1; simpa using this
  rw [Nat.add_zero, hwr, hr.upd hw.1] at hst
  have hsv : runSym P W0 (storeVar t ⟨b, off, none⟩ v) none H = some ((), H') := by
    unfold storeVar
    rw [runSym_bind _ (rd_run _ (rd_sizeOf hs))]
    simp only [hv, List.size_toArray, hn, ne_eq, not_true_eq_false, if_false]
    exact hst
  simp only [execOp, ev_of hx, ev_of hy, Instr.storeAt, Instr.sureAddr]
  have hsv2 : runSym P W0 (do let a ← (Pure.pure ⟨b, off, none⟩ : Sem Addr); storeVar t a v) none H = some ((), H') := by
    rw [runSym_bind _ (rd_run _ (rd_pure _))]; exact hsv
  rw [runSym_bind _ hsv2]; rfl

/-- New memory. -/
theorem x_alloc {z : Value} {cs : List Value} (hz : zeroOf P t = some z) (hc : z.cells = cs.toArray) (r : Nat) : Exec P W0 F H ⟨d, .alloc t, ty, pos, af, g⟩ (some r) (.pointer (some ⟨r, 0, none⟩)) ((r, .cells cs.toArray t (0, 0)) :: H) := by
  refine ⟨by simp, by simp [Op.operands], fun hw => .inl (runSym_map _ _ ?_)⟩
  unfold Instr.alloc
  rw [runSym_bind _ (rd_run _ (rd_zero hz))]
  simp only [newVar, newRow, newObj, hc]; rfl
theorem x_box {v : Value} {cs : List Value} (hx : val F x = some v) (hc : v.cells = cs.toArray) (r : Nat) : Exec P W0 F H ⟨d, .box t x, ty, pos, af, g⟩ (some r) (.pointer (some ⟨r, 0, none⟩)) ((r, .cells cs.toArray t (0, 0)) :: H) := by
  refine ⟨by simp, by simp [Op.operands, some_of hx], fun hw => .inl (runSym_map _ _ ?_)⟩
  simp only [Instr.box, newVar, newRow, newObj, ev_of hx, hc]; rfl

theorem x_extract {i : Nat} {vs : Array Value} {v : Value} (hx : val F x = some (.tuple vs)) (hv : vs[i]? = some v) : Rd P W0 F H ⟨d, .extract x i, ty, pos, af, g⟩ v :=
  exec_rd (by simp) (by simp [Op.operands, some_of hx]) fun hw => by
    simp only [execOp, ev_of hx, Instr.extract, hv]; rfl
theorem rd_part1 {cs : Array Value} {off : Nat} {v : Value} {u : TypeId} (ha : aggOf P u = some false) (hv : cs[off]? = some v) : rdSym P W0 H (part u cs off) = some v := by
  unfold part; rw [rd_bind, rd_isAgg ha]; simp [hv, rd_pure]
theorem rd_partN {cs : List Value} {off n : Nat} {vs : List Value} {u : TypeId} (ha : aggOf P u = some true) (hs : szOf P u = some n) (hv : (cs.drop off).take n = vs) : rdSym P W0 H (part u cs.toArray off) = some (.agg vs.toArray) := by
  unfold part; rw [rd_bind, rd_isAgg ha]
  simp only [Option.bind_some, if_true, rd_bind, rd_sizeOf hs, rd_pure]
  congr 2; apply Array.toList_inj.1; simp [← hv, List.extract_eq_take_drop]
theorem x_field {i fo n : Nat} {tf : TypeId} {cs : List Value} {v : Value} (hf : fldOf P t i = some (fo, tf, n)) (ha : aggOf P tf = some false) (hx : val F x = some (.agg cs.toArray)) (hv : cs[fo]? = some v) : Rd P W0 F H ⟨d, .field t x i, ty, pos, af, g⟩ v := by
  obtain ⟨fs, f, h1, h2, h3, h4, h5, h6⟩ := fldOf_some hf
  subst h4
  refine exec_rd (by simp) (by simp [Op.operands, some_of hx]) fun _ => ?_
  simp only [execOp, ev_of hx, Instr.field, rd_bind, rd_underlying h1, Option.bind_some, h2, asAgg, rd_pure, h3, rd_part1 ha (show cs.toArray[fo]? = some v by simpa using hv)]
theorem x_fieldN {i fo n : Nat} {tf : TypeId} {cs vs : List Value} (hf : fldOf P t i = some (fo, tf, n)) (ha : aggOf P tf = some true) (hx : val F x = some (.agg cs.toArray)) (hv : (cs.drop fo).take n = vs) : Rd P W0 F H ⟨d, .field t x i, ty, pos, af, g⟩ (.agg vs.toArray) := by
  obtain ⟨fs, f, h1, h2, h3, h4, h5, h6⟩ := fldOf_some hf
  subst h4
  refine exec_rd (by simp) (by simp [Op.operands, some_of hx]) fun _ => ?_
  simp only [execOp, ev_of hx, Instr.field, rd_bind, rd_underlying h1, Option.bind_some, h2, asAgg, rd_pure, h3, rd_partN ha h5 hv]

/-- Elements of a slice, of an array behind a pointer, of an array by value. -/
theorem x_indexAddr {e : TypeId} {b off len cap n : Nat} {k : IntKind} {i : Int} (h : P.underlying t = some (.slice e)) (hs : szOf P e = some n) (hx : val F x = some (.slice (some ⟨b, off, none⟩) len cap)) (hy : val F y = some (.int k i)) (h0 : 0 ≤ i) (hi : i < len) :
    Rd P W0 F H ⟨d, .indexAddr t x y, ty, pos, af, g⟩ (.pointer (some ⟨b, off + i.toNat * n, none⟩)) :=
  exec_rd (by simp) (by simp [Op.operands, some_of hx, some_of hy]) fun _ => by
    simp only [execOp, ev_of hx, ev_of hy, Instr.indexAt, asIntOf, rd_bind, rd_pure, Option.bind_some, rd_underlying h, h0, hi, and_self, if_true, rd_sizeOf hs, add_at]
theorem x_indexAddrA {e : TypeId} {b off len n : Nat} {k : IntKind} {i : Int} (h : P.underlying t = some (.array len e)) (hs : szOf P e = some n) (hx : val F x = some (.pointer (some ⟨b, off, none⟩))) (hy : val F y = some (.int k i)) (h0 : 0 ≤ i) (hi : i < len) :
    Rd P W0 F H ⟨d, .indexAddr t x y, ty, pos, af, g⟩ (.pointer (some ⟨b, off + i.toNat * n, none⟩)) :=
  exec_rd (by simp) (by simp [Op.operands, some_of hx, some_of hy]) fun _ => by
    simp only [execOp, ev_of hx, ev_of hy, Instr.indexAt, asIntOf, rd_bind, rd_pure, Option.bind_some, rd_underlying h, Instr.sureAddr, h0, hi, and_self, if_true, rd_sizeOf hs, add_at]
theorem x_index {e : TypeId} {len n : Nat} {k : IntKind} {i : Int} {cs : List Value} {v : Value} (h : P.underlying t = some (.array len e)) (hs : szOf P e = some n) (ha : aggOf P e = some false) (hx : val F x = some (.agg cs.toArray)) (hy : val F y = some (.int k i)) (h0 : 0 ≤ i) (hi : i < len) (hv : cs[i.toNat * n]? = some v) :
    Rd P W0 F H ⟨d, .index t x y, ty, pos, af, g⟩ v :=
  exec_rd (by simp) (by simp [Op.operands, some_of hx, some_of hy]) fun _ => by
    simp only [execOp, ev_of hx, ev_of hy, Instr.index, asIntOf, rd_bind, rd_pure, Option.bind_some, rd_underlying h, h0, hi, and_self, if_true, rd_sizeOf hs, rd_part1 ha (show cs.toArray[i.toNat * n]? = some v by simpa using hv)]
theorem x_indexS {k : IntKind} {i : Int} {s : ByteArray} {c : UInt8} (h : P.underlying t = some .string) (hx : val F x = some (.string s)) (hy : val F y = some (.int k i)) (h0 : 0 ≤ i) (hc : s[i.toNat]? = some c) :
    Rd P W0 F H ⟨d, .index t x y, ty, pos, af, g⟩ (.int .u8 c.toNat) :=
  exec_rd (by simp) (by simp [Op.operands, some_of hx, some_of hy]) fun _ => by
    simp only [execOp, ev_of hx, ev_of hy, Instr.index, asIntOf, rd_bind, rd_pure, Option.bind_some, rd_underlying h, h0, if_true, hc]

/-! ### the built-in functions -/
theorem rd_builtin {b : Builtin} {c : Call} {x1 : Operand} {v : Value} {v1 : Value} (hc : c.callee = .builtin b) (ha : c.args = #[x1]) (hx : ev F x1 = v1)
    (h : rdSym P W0 H (builtin b c.argTypes ty (c.args.map fun | .const _ => true | _ => false) #[v1]) = some (.value v)) : rdSym P W0 H (execOp (ev F) ⟨d, .call c, ty, pos, af, g⟩) = some (.value v) := by
  simp only [execOp, resolve, hc, rd_bind, rd_pure, Option.bind_some, invoke]
  rw [show c.args.map (ev F) = #[v1] by rw [ha]; simp [hx]]
  exact h
theorem x_lenSlice {e : TypeId} {a : Option Addr} {n cap : Nat} (h : P.underlying t = some (.slice e)) (hx : val F x = some (.slice a n cap)) : Rd P W0 F H ⟨d, .call ⟨.builtin .len, #[x], #[t]⟩, ty, pos, af, g⟩ (.int .i64 n) :=
  exec_rd (by simp) (by simp [Op.operands, Call.operands, some_of hx]) fun _ => rd_builtin rfl rfl (ev_of hx) (by
    simp only [builtin, Builtin.len_, rd_bind, rd_underlying h, Option.bind_some, rd_pure, goInt]
    simp [rd_bind, rd_underlying h, rd_pure])
theorem x_lenStr {s : ByteArray} (h : P.underlying t = some .string) (hx : val F x = some (.string s)) : Rd P W0 F H ⟨d, .call ⟨.builtin .len, #[x], #[t]⟩, ty, pos, af, g⟩ (.int .i64 s.size) :=
  exec_rd (by simp) (by simp [Op.operands, Call.operands, some_of hx]) fun _ => rd_builtin rfl rfl (ev_of hx) (by
    simp only [builtin, Builtin.len_, rd_bind, rd_underlying h, Option.bind_some, rd_pure, goInt]
    simp [rd_bind, rd_underlying h, rd_pure])
theorem rd_builtin2 {b : Builtin} {c : Call} {x1 x2 : Operand} {v : Value} {v1 v2 : Value} (hc : c.callee = .builtin b) (ha : c.args = #[x1, x2]) (hx : ev F x1 = v1) (hy : ev F x2 = v2)
    (h : rdSym P W0 H (builtin b c.argTypes ty (c.args.map fun | .const _ => true | _ => false) #[v1, v2]) = some (.value v)) : rdSym P W0 H (execOp (ev F) ⟨d, .call c, ty, pos, af, g⟩) = some (.value v) := by
  simp only [execOp, resolve, hc, rd_bind, rd_pure, Option.bind_some, invoke]
  rw [show c.args.map (ev F) = #[v1, v2] by rw [ha]; simp [hx, hy]]
  exact h
theorem x_min {ts : Array TypeId} {k : IntKind} {a b : Int} (hx : val F x = some (.int k a)) (hy : val F y = some (.int k b)) : Rd P W0 F H ⟨d, .call ⟨.builtin .min, #[x, y], ts⟩, ty, pos, af, g⟩ (.int k (min a b)) :=
  exec_rd (by simp) (by simp [Op.operands, Call.operands, some_of hx, some_of hy]) fun _ => rd_builtin2 rfl rfl (ev_of hx) (ev_of hy) (by
    have : (if b < a then b else a) = min a b := by omega
    simp [builtin, Builtin.min_, Builtin.min2, rd_bind, rd_pure, this])
theorem x_max {ts : Array TypeId} {k : IntKind} {a b : Int} (hx : val F x = some (.int k a)) (hy : val F y = some (.int k b)) : Rd P W0 F H ⟨d, .call ⟨.builtin .max, #[x, y], ts⟩, ty, pos, af, g⟩ (.int k (max a b)) :=
  exec_rd (by simp) (by simp [Op.operands, Call.operands, some_of hx, some_of hy]) fun _ => rd_builtin2 rfl rfl (ev_of hx) (ev_of hy) (by
    have : (if b > a then b else a) = max a b := by omega
    simp [builtin, Builtin.max_, Builtin.max2, rd_bind, rd_pure, this])

/-! ### slicing -/
theorem x_sliceHi {e : TypeId} {n len cap : Nat} {a : Option Addr} {k : IntKind} {i : Int} (h : P.underlying t = some (.slice e)) (hs : szOf P e = some n) (hx : val F x = some (.slice a len cap)) (hy : val F y = some (.int k i)) (h0 : 0 ≤ i) (hi : i ≤ cap) :
    Rd P W0 F H ⟨d, .slice t x none (some y) none, ty, pos, af, g⟩ (.slice a i.toNat cap) :=
  exec_rd (by simp) (by simp [Op.operands, some_of hx, some_of hy]) fun _ => by
    simp only [execOp, ev_of hx, ev_of hy, Option.map_none, Option.map_some, Instr.sliceAt, rd_bind, rd_underlying h, Option.bind_some, Instr.slice, Instr.sliceBounds, rd_pure, Instr.sliceBound, asIntOf, h0, hi, and_self, if_true, rd_sizeOf hs]
    have e0 : (a.map fun q => q.add (0 * n)) = a := by cases a <;> simp [Addr.add]
    simp only [e0, Nat.sub_zero]; split <;> rfl
theorem x_sliceLo {e : TypeId} {n len cap b off : Nat} {k : IntKind} {i : Int} (h : P.underlying t = some (.slice e)) (hs : szOf P e = some n) (hx : val F x = some (.slice (some ⟨b, off, none⟩) len cap)) (hy : val F y = some (.int k i)) (h0 : 0 ≤ i) (hi : i ≤ len) (hlc : len ≤ cap) :
    Rd P W0 F H ⟨d, .slice t x (some y) none none, ty, pos, af, g⟩ (.slice (some ⟨b, if cap = i.toNat then off else off + i.toNat * n, none⟩) (len - i.toNat) (cap - i.toNat)) :=
  exec_rd (by simp) (by simp [Op.operands, some_of hx, some_of hy]) fun _ => by
    simp only [execOp, ev_of hx, ev_of hy, Option.map_none, Option.map_some, Instr.sliceAt, rd_bind, rd_underlying h, Option.bind_some, Instr.slice, Instr.sliceBounds, rd_pure, Instr.sliceBound, asIntOf, h0, hi, and_self, if_true, rd_sizeOf hs, add_at]
    split <;> simp_all
theorem x_sliceLoHi {e : TypeId} {z : Operand} {n len cap b off : Nat} {k k' : IntKind} {i j : Int} (h : P.underlying t = some (.slice e)) (hs : szOf P e = some n) (hx : val F x = some (.slice (some ⟨b, off, none⟩) len cap)) (hy : val F y = some (.int k i)) (hz : val F z = some (.int k' j)) (h0 : 0 ≤ i) (hij : i ≤ j) (hj : j ≤ cap) :
    Rd P W0 F H ⟨d, .slice t x (some y) (some z) none, ty, pos, af, g⟩ (.slice (some ⟨b, if cap = i.toNat then off else off + i.toNat * n, none⟩) (j.toNat - i.toNat) (cap - i.toNat)) :=
  exec_rd (by simp) (by simp [Op.operands, some_of hx, some_of hy, some_of hz]) fun _ => by
    have hj0 : 0 ≤ j := by omega
    have e1 : i ≤ (j.toNat : Int) := by omega
    simp only [execOp, ev_of hx, ev_of hy, ev_of hz, Option.map_none, Option.map_some, Instr.sliceAt, rd_bind, rd_underlying h, Option.bind_some, Instr.slice, Instr.sliceBounds, rd_pure, Instr.sliceBound, asIntOf, h0, hj0, hj, e1, and_self, if_true, rd_sizeOf hs, add_at]
    split <;> simp_all
theorem x_sliceStr {lo hi : Option Operand} {s : ByteArray} {i j : Nat} (h : P.underlying t = some .string) (hx : val F x = some (.string s)) (hlo : match lo with | some y => ∃ k, val F y = some (.int k (i : Int)) | none => i = 0) (hhi : match hi with | some y => ∃ k, val F y = some (.int k (j : Int)) | none => j = s.size) (hij : i ≤ j) (hj : j ≤ s.size) :
    Rd P W0 F H ⟨d, .slice t x lo hi none, ty, pos, af, g⟩ (.string (s.extract i j)) := by
  have hopd : ∀ y ∈ (Op.slice t x lo hi none).operands, (val F y).isSome := by
    intro y hy
    simp only [Op.operands, Option.toArray_none, Array.append_empty, Array.mem_append, Array.mem_singleton] at hy
    rcases hy with (rfl | hy) | hy
    · exact some_of hx
    · cases lo with
      | none => simp at hy
      | some z => obtain ⟨k, hz⟩ := hlo; simp at hy; subst hy; exact some_of hz
    · cases hi with
      | none => simp at hy
      | some z => obtain ⟨k, hz⟩ := hhi; simp at hy; subst hy; exact some_of hz
  refine exec_rd (by simp) hopd fun _ => ?_
  have i1 : (0 : Int) ≤ i := by omega
  have j1 : (0 : Int) ≤ j := by omega
  have i2 : (i : Int) ≤ j := by omega
  have j2 : (j : Int) ≤ s.size := by omega
  cases lo <;> cases hi <;> simp only at hlo hhi
  · subst hlo; subst hhi
    simp [execOp, ev_of hx, Instr.sliceAt, rd_bind, rd_underlying h, Instr.slice, Instr.sliceBounds, rd_pure]
  · subst hlo; obtain ⟨k, hz⟩ := hhi
    simp [execOp, ev_of hx, ev_of hz, Instr.sliceAt, rd_bind, rd_underlying h, Instr.slice, Instr.sliceBounds, rd_pure, Instr.sliceBound, asIntOf, j2, hj, rd_map]
  · subst hhi; obtain ⟨k, hz⟩ := hlo
    simp [execOp, ev_of hx, ev_of hz, Instr.sliceAt, rd_bind, rd_underlying h, Instr.slice, Instr.sliceBounds, rd_pure, Instr.sliceBound, asIntOf, j2, i2, hj, hij, rd_map]
  · obtain ⟨k, hz⟩ := hlo; obtain ⟨k', hz'⟩ := hhi
    simp [execOp, ev_of hx, ev_of hz, ev_of hz', Instr.sliceAt, rd_bind, rd_underlying h, Instr.slice, Instr.sliceBounds, rd_pure, Instr.sliceBound, asIntOf, j2, i2, hj, hij, rd_map]
end ptrs
end
end Go.Proofs.Yteilocpjikmmdaa.Sym
