/- Traces: few, Counts, Busy. -/
import Derived.Test.YtonpnkekcipmlaaPdmc
import Derived.Test.YtonpnkekcipmlaaSymSort
import Derived.Test.YtonpnkekcipmlaaSymPlace
import Derived.Test.YtonpnkekcipmlaaDepLaw
namespace Go.Proofs.Ytonpnkekcipmlaa
open Go.Proofs.Ytonpnkekcipmlaa.Sym
open Go.RowKit (Below)
set_option linter.unusedVariables false
set_option linter.unusedSimpArgs false
structure Rq where
  kind : Int
  id : Int
  user : Int
  width : Int
  limit : Int
  prio : Int
  held : Bool
  node : Int
  by_ : Int
@[reducible] def Rq.cells (j : Rq) : List Value := [.int .i64 j.kind, .int .i64 j.id, .int .i64 j.user, .int .i64 j.width, .int .i64 j.limit, .int .i64 j.prio, .bool j.held, .int .i64 j.node, .int .i64 j.by_]
@[reducible] def Rq.v (j : Rq) : Value := .agg (Rq.cells j).toArray
def Rq.Wf (j : Rq) : Prop := (IntKind.min .i64 ≤ j.kind ∧ j.kind ≤ IntKind.max .i64) ∧ (IntKind.min .i64 ≤ j.id ∧ j.id ≤ IntKind.max .i64) ∧ (IntKind.min .i64 ≤ j.user ∧ j.user ≤ IntKind.max .i64) ∧ (IntKind.min .i64 ≤ j.width ∧ j.width ≤ IntKind.max .i64) ∧ (IntKind.min .i64 ≤ j.limit ∧ j.limit ≤ IntKind.max .i64) ∧ (IntKind.min .i64 ≤ j.prio ∧ j.prio ≤ IntKind.max .i64) ∧ (IntKind.min .i64 ≤ j.node ∧ j.node ≤ IntKind.max .i64) ∧ (IntKind.min .i64 ≤ j.by_ ∧ j.by_ ≤ IntKind.max .i64)
structure Rp where
  err : Int
  id : Int
  state : Int
  start : Int
  end_ : Int
  plan : Int
  a : Int
  b : Int
  c : Int
@[reducible] def Rp.cells (j : Rp) : List Value := [.int .i64 j.err, .int .i64 j.id, .int .i64 j.state, .int .i64 j.start, .int .i64 j.end_, .int .i64 j.plan, .int .i64 j.a, .int .i64 j.b, .int .i64 j.c]
@[reducible] def Rp.v (j : Rp) : Value := .agg (Rp.cells j).toArray
def Rp.Wf (j : Rp) : Prop := (IntKind.min .i64 ≤ j.err ∧ j.err ≤ IntKind.max .i64) ∧ (IntKind.min .i64 ≤ j.id ∧ j.id ≤ IntKind.max .i64) ∧ (IntKind.min .i64 ≤ j.state ∧ j.state ≤ IntKind.max .i64) ∧ (IntKind.min .i64 ≤ j.start ∧ j.start ≤ IntKind.max .i64) ∧ (IntKind.min .i64 ≤ j.end_ ∧ j.end_ ≤ IntKind.max .i64) ∧ (IntKind.min .i64 ≤ j.plan ∧ j.plan ≤ IntKind.max .i64) ∧ (IntKind.min .i64 ≤ j.a ∧ j.a ≤ IntKind.max .i64) ∧ (IntKind.min .i64 ≤ j.b ∧ j.b ≤ IntKind.max .i64) ∧ (IntKind.min .i64 ≤ j.c ∧ j.c ≤ IntKind.max .i64)
structure Cho where
  id : Int
  at_ : Int
@[reducible] def Cho.cells (j : Cho) : List Value := [.int .i64 j.id, .int .i64 j.at_]
@[reducible] def Cho.v (j : Cho) : Value := .agg (Cho.cells j).toArray
def Cho.Wf (j : Cho) : Prop := (IntKind.min .i64 ≤ j.id ∧ j.id ≤ IntKind.max .i64) ∧ (IntKind.min .i64 ≤ j.at_ ∧ j.at_ ≤ IntKind.max .i64)
structure Ev where
  step : Int
  kind : Int
  task : Int
  req : Rq
  rep : Rp
  cho : Cho
  ok : Bool
@[reducible] def Ev.cells (j : Ev) : List Value := [.int .i64 j.step, .int .i64 j.kind, .int .i64 j.task, .int .i64 j.req.kind, .int .i64 j.req.id, .int .i64 j.req.user, .int .i64 j.req.width, .int .i64 j.req.limit, .int .i64 j.req.prio, .bool j.req.held, .int .i64 j.req.node, .int .i64 j.req.by_, .int .i64 j.rep.err, .int .i64 j.rep.id, .int .i64 j.rep.state, .int .i64 j.rep.start, .int .i64 j.rep.end_, .int .i64 j.rep.plan, .int .i64 j.rep.a, .int .i64 j.rep.b, .int .i64 j.rep.c, .int .i64 j.cho.id, .int .i64 j.cho.at_, .bool j.ok]
@[reducible] def Ev.v (j : Ev) : Value := .agg (Ev.cells j).toArray
def Ev.Wf (j : Ev) : Prop := (IntKind.min .i64 ≤ j.step ∧ j.step ≤ IntKind.max .i64) ∧ (IntKind.min .i64 ≤ j.kind ∧ j.kind ≤ IntKind.max .i64) ∧ (IntKind.min .i64 ≤ j.task ∧ j.task ≤ IntKind.max .i64) ∧ j.req.Wf ∧ j.rep.Wf ∧ j.cho.Wf
section
variable {P : Program} {W0 : World} {F : Fm} {H : SHeap} {d : Option Tmp} {ty : TypeId} {pos : String} {af : Array Edge} {g : Option (Nat × Bool)} {t kt et : TypeId} {x : Operand} {es : List MapEntry} {r clk : Nat}
theorem x_lenMap (h : P.underlying t = some (.map kt et)) (hx : val F x = some (.map (some r))) (hm : MapAt W0 H r es clk) : Rd P W0 F H ⟨d, .call ⟨.builtin .len, #[x], #[t]⟩, ty, pos, af, g⟩ (.int .i64 es.length) :=
  exec_rd (by simp) (by simp [Op.operands, Call.operands, some_of hx]) fun hw => rd_builtin rfl rfl (ev_of hx) (by
    have e1 : rdSym P W0 H (getObj r) = some (.map es.toArray clk) := by simp only [getObj, rdSym, hm hw, Option.bind_some]
    simp only [builtin, Builtin.len_, rd_bind, rd_underlying h, Option.bind_some, rd_pure, goInt]
    simp [rd_bind, rd_underlying h, e1, rd_pure])
end
theorem all_oneV (xs : List Ev) : (xs.flatMap Ev.cells).all oneCell = true := all_flat (fun _ => rfl) xs
structure Cn where
  calls : Int
  told : Int
  errs : Int
  tried : Int
  taken : Int
  passes : Int
@[reducible] def Cn.cells (c : Cn) : List Value := [.int .i64 c.calls, .int .i64 c.told, .int .i64 c.errs, .int .i64 c.tried, .int .i64 c.taken, .int .i64 c.passes]
@[reducible] def Cn.v (c : Cn) : Value := .agg (Cn.cells c).toArray
def cnF (c : Cn) (e : Ev) : Cn :=
  if e.kind = 1 then ⟨c.calls + 1, c.told, c.errs, c.tried, c.taken, c.passes⟩
  else if e.kind = 3 then (if e.rep.err = 0 then ⟨c.calls, c.told + 1, c.errs, c.tried, c.taken, c.passes⟩ else ⟨c.calls, c.told + 1, c.errs + 1, c.tried, c.taken, c.passes⟩)
  else if e.kind = 4 then (if e.ok = true then ⟨c.calls, c.told, c.errs, c.tried + 1, c.taken + 1, c.passes⟩ else ⟨c.calls, c.told, c.errs, c.tried + 1, c.taken, c.passes⟩)
  else if e.kind = 5 then ⟨c.calls, c.told, c.errs, c.tried, c.taken, c.passes + 1⟩
  else c
def cnL (L : List Ev) : Cn := L.foldl cnF ⟨0, 0, 0, 0, 0, 0⟩
theorem cnL_take {L : List Ev} {k : Nat} {e : Ev} (he : L[k]? = some e) : cnL (L.take (k + 1)) = cnF (cnL (L.take k)) e := by unfold cnL; rw [takeS he, List.foldl_append]; rfl
def CnB (c : Cn) (B : Int) : Prop := (0 ≤ c.calls ∧ c.calls ≤ B) ∧ (0 ≤ c.told ∧ c.told ≤ B) ∧ (0 ≤ c.errs ∧ c.errs ≤ B) ∧ (0 ≤ c.tried ∧ c.tried ≤ B) ∧ (0 ≤ c.taken ∧ c.taken ≤ B) ∧ (0 ≤ c.passes ∧ c.passes ≤ B)
theorem cnB_step {c : Cn} {B : Int} {e : Ev} (h : CnB c B) : CnB (cnF c e) (B + 1) := by
  obtain ⟨h1, h2, h3, h4, h5, h6⟩ := h
  unfold cnF
  split
  · exact ⟨by dsimp only; omega, by dsimp only; omega, by dsimp only; omega, by dsimp only; omega, by dsimp only; omega, by dsimp only; omega⟩
  · split
    · split <;> exact ⟨by dsimp only; omega, by dsimp only; omega, by dsimp only; omega, by dsimp only; omega, by dsimp only; omega, by dsimp only; omega⟩
    · split
      · split <;> exact ⟨by dsimp only; omega, by dsimp only; omega, by dsimp only; omega, by dsimp only; omega, by dsimp only; omega, by dsimp only; omega⟩
      · split
        · exact ⟨by dsimp only; omega, by dsimp only; omega, by dsimp only; omega, by dsimp only; omega, by dsimp only; omega, by dsimp only; omega⟩
        · exact ⟨by omega, by omega, by omega, by omega, by omega, by omega⟩
theorem cnB_fold : ∀ (L : List Ev) (c : Cn) (B : Int), CnB c B → CnB (L.foldl cnF c) (B + L.length)
  | [], c, B, h => by simpa using h
  | e :: L, c, B, h => by
    have := cnB_fold L (cnF c e) (B + 1) (cnB_step h)
    rw [List.foldl_cons, List.length_cons]
    rwa [show B + ((L.length + 1 : Nat) : Int) = B + 1 + L.length by omega]
theorem cnL_bd (L : List Ev) : CnB (cnL L) L.length := by
  have := cnB_fold L ⟨0, 0, 0, 0, 0, 0⟩ 0 ⟨⟨Int.le_refl _, Int.le_refl _⟩, ⟨Int.le_refl _, Int.le_refl _⟩, ⟨Int.le_refl _, Int.le_refl _⟩, ⟨Int.le_refl _, Int.le_refl _⟩, ⟨Int.le_refl _, Int.le_refl _⟩, ⟨Int.le_refl _, Int.le_refl _⟩⟩
  rwa [Int.zero_add] at this
structure Bz where
  n : Int
  m : Int
def bzN (n : Int) (e : Ev) : Int := if e.kind = 1 then n + 1 else if e.kind = 3 then n - 1 else n
def bzF (b : Bz) (e : Ev) : Bz := ⟨bzN b.n e, max b.m (bzN b.n e)⟩
def bzL (L : List Ev) : Bz := L.foldl bzF ⟨0, 0⟩
theorem bzL_take {L : List Ev} {k : Nat} {e : Ev} (he : L[k]? = some e) : bzL (L.take (k + 1)) = bzF (bzL (L.take k)) e := by unfold bzL; rw [takeS he, List.foldl_append]; rfl
theorem bz_fold : ∀ (L : List Ev) (b : Bz) (B : Int), (-B ≤ b.n ∧ b.n ≤ B ∧ 0 ≤ b.m ∧ b.m ≤ B) → (-(B + L.length) ≤ (L.foldl bzF b).n ∧ (L.foldl bzF b).n ≤ B + L.length ∧ 0 ≤ (L.foldl bzF b).m ∧ (L.foldl bzF b).m ≤ B + L.length)
  | [], b, B, h => by simpa using h
  | e :: L, b, B, h => by
    have hs : -(B + 1) ≤ (bzF b e).n ∧ (bzF b e).n ≤ B + 1 ∧ 0 ≤ (bzF b e).m ∧ (bzF b e).m ≤ B + 1 := by
      unfold bzF bzN
      split
      · dsimp only; omega
      · split <;> (dsimp only; omega)
    have := bz_fold L (bzF b e) (B + 1) hs
    rw [List.foldl_cons, List.length_cons]
    rwa [show B + ((L.length + 1 : Nat) : Int) = B + 1 + L.length by omega]
theorem bzL_bd (L : List Ev) : -(L.length : Int) ≤ (bzL L).n ∧ (bzL L).n ≤ L.length ∧ 0 ≤ (bzL L).m ∧ (bzL L).m ≤ L.length := by
  have := bz_fold L ⟨0, 0⟩ 0 (by dsimp only; omega)
  rwa [Int.zero_add] at this
structure FwG where
  k : Nat
  X : List Ev
  a : Option Addr
  c : Nat
  E : SHeap
structure TcG where
  k : Nat
  c : Cn
  n : Int
  m : Int
structure BzG where
  k : Nat
  n : Int
  m : Int
/-- A request's life; its task is small. -/
structure Ln where
  task : Fin 1000
  kind : Int
  call : Int
  turn : Int
  tell : Int
  err : Int
instance : Inhabited Ln := ⟨⟨0, 0, 0, 0, 0, 0⟩⟩
@[reducible] def Ln.cells (j : Ln) : List Value := [.int .i64 (j.task.val : Int), .int .i64 j.kind, .int .i64 j.call, .int .i64 j.turn, .int .i64 j.tell, .int .i64 j.err]
@[reducible] def Ln.v (j : Ln) : Value := .agg (Ln.cells j).toArray
def lnC (x y : Ln) : Int := (x.task.val : Int) - (y.task.val : Int)
theorem lnSwo : Swo lnC := ⟨fun x => by unfold lnC; omega, fun {x y z} h k => by unfold lnC at *; omega, fun {x y z} h k => by unfold lnC at *; omega⟩
structure LnG where
  k : Nat
  D : List Ln
  a : Option Addr
  c : Nat
  E : SHeap
def kn1 (L : List Ev) : Nat := (L.filter (fun e => decide (e.kind = 1))).length
theorem kn1_take {L : List Ev} {k : Nat} {e : Ev} (he : L[k]? = some e) : kn1 (L.take (k + 1)) = kn1 (L.take k) + if e.kind = 1 then 1 else 0 := by
  unfold kn1
  rw [takeS he, List.filter_append, List.length_append]
  by_cases h : e.kind = 1
  · rw [if_pos h, List.filter_cons_of_pos (by simpa using h)]; rfl
  · rw [if_neg h, List.filter_cons_of_neg (by simpa using h)]; rfl
theorem kn1_le (L : List Ev) : kn1 L ≤ L.length := List.length_filter_le _ _
theorem ln_set {b c i : Nat} {D : List Ln} {l : Ln} {post : List Value} (hp : post.length = (c - D.length) * 6) (hn : D.length ≤ c) (hc : c ≤ 9223372036854775807) : OwnVec 6 79 (.slice (some ⟨b, 0, none⟩) (D.set i l).length c) (D.set i l).length ((D.set i l).flatMap Ln.cells) [(b, .cells ((D.set i l).flatMap Ln.cells ++ post).toArray 79 (0, 0))] :=
  .mk (flat_len (n := 6) (enc := Ln.cells) (fun _ => rfl) _) (by rw [List.length_set]; exact hp) (by rw [List.length_set]; exact hn) hc
/-- Turns otherwise than called. -/
structure SwS where
  T : List Int
  es : List MapEntry
  clk : Nat
  n : Int
def cntGt (T : List Int) (p : Int) : Int := ((T.filter (fun x => decide (p < x))).length : Int)
theorem cntGt_take {T : List Int} {k : Nat} {x p : Int} (hx : T[k]? = some x) : cntGt (T.take (k + 1)) p = cntGt (T.take k) p + if p < x then 1 else 0 := by
  unfold cntGt
  rw [takeS hx, List.filter_append, List.length_append]
  by_cases h : p < x
  · rw [if_pos h, List.filter_cons_of_pos (by simpa using h)]; rfl
  · rw [if_neg h, List.filter_cons_of_neg (by simpa using h)]; rfl
theorem cntGt_bd (T : List Int) (p : Int) : 0 ≤ cntGt T p ∧ cntGt T p ≤ T.length := by
  unfold cntGt
  have := List.length_filter_le (fun x => decide (p < x)) T
  omega
def spF (s : SwS) (e : Ev) : SwS :=
  if e.kind = 1 then ⟨s.T, mset .i64 e.task (.int .i64 s.es.length) s.clk s.es, mclk e.task s.es s.clk, s.n⟩
  else match mget e.task s.es with
    | some (.int .i64 p) => ⟨s.T ++ [p], s.es, s.clk, s.n + cntGt s.T p⟩
    | _ => s
def swL (L : List Ev) : SwS := L.foldl spF ⟨[], [], 0, 0⟩
theorem swL_take {L : List Ev} {k : Nat} {e : Ev} (he : L[k]? = some e) : swL (L.take (k + 1)) = spF (swL (L.take k)) e := by unfold swL; rw [takeS he, List.foldl_append]; rfl
structure SwG where
  k : Nat
  T : List Int
  a : Option Addr
  c : Nat
  E : SHeap
  es : List MapEntry
  clk : Nat
  n : Int
/-- What Swaps needs of the events: all that have a turn were called. -/
def SwH (L : List Ev) : Prop := (∀ i e, L[i]? = some e → e.kind = 1 ∨ (e.kind = 2 ∧ ∃ p : Int, mget e.task (swL (L.take i)).es = some (.int .i64 p) ∧ 0 ≤ p ∧ p ≤ 1000))
@[reducible] def evA (k t : Int) : Ev := ⟨0, k, t, ⟨0, 0, 0, 0, 0, 0, false, 0, 0⟩, ⟨0, 0, 0, 0, 0, 0, 0, 0, 0⟩, ⟨0, 0⟩, false⟩
def evs : List Ev := [evA 1 1, evA 1 2, evA 2 2, evA 2 1]
theorem evs_sw : SwH evs := fun i e he => by
  match i, he with
  | 0, he => cases he; exact .inl rfl
  | 1, he => cases he; exact .inl rfl
  | 2, he => cases he; exact .inr ⟨rfl, 1, rfl, by decide, by decide⟩
  | 3, he => cases he; exact .inr ⟨rfl, 0, rfl, by decide, by decide⟩
  | i + 4, he => simp [evs] at he
theorem evs_n : (swL evs).n = 1 := rfl
theorem evs_bz : (bzL evs).m = 2 := by decide
theorem evs_kn : kn1 evs = 2 := by decide
theorem evs_rng : ∀ e ∈ evs, (e.kind = 1 ∨ e.kind = 2) ∧ 0 ≤ e.task ∧ e.task < 1000 := by
  intro e he
  simp [evs] at he
  rcases he with rfl | rfl | rfl | rfl <;> decide
theorem ag25 : aggOf Try.prog 25 = some true := by kernel_rfl
theorem ag28 : aggOf Try.prog 28 = some false := by kernel_rfl
theorem ag34 : aggOf Try.prog 34 = some true := by kernel_rfl
theorem ag4 : aggOf Try.prog 4 = some false := by kernel_rfl
theorem by34 : bytesOf Try.prog 34 = some 192 := by kernel_rfl
theorem fd25_0 : fldOf Try.prog 25 0 = some (0, 3, 1) := by kernel_rfl
theorem fd25_1 : fldOf Try.prog 25 1 = some (1, 3, 1) := by kernel_rfl
theorem fd25_2 : fldOf Try.prog 25 2 = some (2, 3, 1) := by kernel_rfl
theorem fd25_3 : fldOf Try.prog 25 3 = some (3, 3, 1) := by kernel_rfl
theorem fd25_4 : fldOf Try.prog 25 4 = some (4, 3, 1) := by kernel_rfl
theorem fd25_5 : fldOf Try.prog 25 5 = some (5, 3, 1) := by kernel_rfl
theorem fd30_0 : fldOf Try.prog 30 0 = some (0, 28, 1) := by kernel_rfl
theorem fd34_0 : fldOf Try.prog 34 0 = some (0, 3, 1) := by kernel_rfl
theorem fd34_1 : fldOf Try.prog 34 1 = some (1, 3, 1) := by kernel_rfl
theorem fd34_2 : fldOf Try.prog 34 2 = some (2, 3, 1) := by kernel_rfl
theorem fd34_4 : fldOf Try.prog 34 4 = some (12, 30, 9) := by kernel_rfl
theorem fd34_6 : fldOf Try.prog 34 6 = some (23, 4, 1) := by kernel_rfl
theorem sz25 : szOf Try.prog 25 = some 6 := by kernel_rfl
theorem sz34 : szOf Try.prog 34 = some 24 := by kernel_rfl
theorem zr25 : zeroOf Try.prog 25 = some (.agg #[.int .i64 0, .int .i64 0, .int .i64 0, .int .i64 0, .int .i64 0, .int .i64 0]) := by kernel_rfl
theorem zr34 : zeroOf Try.prog 34 = some (.agg #[.int .i64 0, .int .i64 0, .int .i64 0, .int .i64 0, .int .i64 0, .int .i64 0, .int .i64 0, .int .i64 0, .int .i64 0, .bool false, .int .i64 0, .int .i64 0, .int .i64 0, .int .i64 0, .int .i64 0, .int .i64 0, .int .i64 0, .int .i64 0, .int .i64 0, .int .i64 0, .int .i64 0, .int .i64 0, .int .i64 0, .bool false]) := by kernel_rfl
section
variable {W0 : World}
set_option maxRecDepth 100000 in
set_option maxHeartbeats 1000000 in
theorem few43_s (a : Option Addr) (cap : Nat) (L : List Ev) (H : SHeap) (hs : SlV W0 H 24 Ev.cells a cap L) : AC Try.prog W0 7 [.slice a L.length cap] H (fun v H' => ∃ (X : List Ev) (a' : Option Addr) (c' : Nat) (E' : SHeap), v = .slice a' X.length c' ∧ X.length ≤ 50 ∧ OwnVec 24 34 (.slice a' X.length c') X.length (X.flatMap Ev.cells) E' ∧ H' = E' ++ H) := by
  have hle := hs.le
  have hcb := hs.capb
  refine ac_of Try.func7 rfl rfl rfl ?_
  refine aw_seq_region ?_
  refine sr_as ?_
  refine sr_nil ?_
  refine aw_kp [0, 2] ?_
  refine aw_seq_region ?_
  refine sr_as ?_
  refine sr_nil ?_
  refine aw_kp [0, 2, 3] ?_
  refine aw_seq ?_
  refine aw_seq_region ?_
  refine sr_as ?_
  refine sr_nil ?_
  refine aw_kp [0, 2, 3, 4] ?_
  refine aw_block ?_
  refine aw_loop (ι := FwG) (fun s => s.k ≤ L.length ∧ s.k ≤ 50 ∧ s.X.length = s.k ∧ OwnVec 24 34 (.slice s.a s.X.length s.c) s.X.length (s.X.flatMap Ev.cells) s.E) (fun s => [(0, .slice a L.length cap), (3, .slice s.a s.X.length s.c), (4, .int .i64 s.k)]) (fun s => s.E ++ H) (fun s => L.length - s.k) ⟨0, [], none, 0, []⟩ (⟨Nat.zero_le _, Nat.zero_le _, rfl, .nil⟩) KeepF.auto Sub.autoP ?_
  intro s hs9
  obtain ⟨k, X, a1, c1, E1⟩ := s
  dsimp only at hs9 ⊢
  obtain ⟨hk, hk5, hXl, V1⟩ := hs9
  refine aw_seq ?_
  refine aw_seq_region ?_
  refine sr_mv ?_
  refine sr_mv ?_
  refine sr_rd (x_lenSlice Try.underlying22 rfl) ?_
  refine sr_c (x_lt rfl rfl) (fun h1 => ?_) (fun h1 => ?_)
  · refine sr_mv ?_
    refine sr_ry (x_move rfl) ?_
    refine sr_cy (x_lt rfl rfl) (fun h2 => ?_) (fun h2 => ?_)
    · refine sr_rd (x_pick_t rfl rfl rfl) ?_
      refine sr_nil ?_
      refine aw_kp [0, 3, 4, 6, 7, 8, 9, 10, 11, 12, 13] ?_
      refine aw_true rfl ?_
      refine aw_skip ?_
      show AW _ _ _ _ _ _ _
      refine aw_seq ?_
      refine aw_block ?_
      refine aw_seq_region ?_
      obtain ⟨e, he⟩ := get_ex (show k < L.length by omega)
      obtain ⟨be, oe, hae, hce⟩ := hs.at_ _ _ he
      obtain ⟨tk, htk⟩ : ∃ tk, tk = Int.tmod e.task 1099511627776 := ⟨_, rfl⟩
      obtain ⟨sk, hsk⟩ : ∃ sk, sk = IntKind.i64.wrap ((BitVec.ofInt IntKind.i64.bits e.step &&& BitVec.ofInt IntKind.i64.bits 1099511627775).toNat : Nat) := ⟨_, rfl⟩
      refine sr_mv ?_
      refine sr_mv ?_
      refine sr_rd (x_indexAddrN (k) Try.underlying22 sz34 rfl hae rfl (by omega) (by omega)) ?_
      refine sr_rd (x_loadN ag34 sz34 rfl (Cells.mono hce Sub.autoR) rfl) ?_
      refine sr_new rfl (wtd_none rfl) rfl (x_alloc zr34 rfl) ?_
      intro r5_4 hr5_4 gr5_4
      refine sr_x0 rfl (wtd_none rfl) (x_store sz34 rfl rfl rfl rfl rfl Repl.auto Spl.auto) ?_
      refine sr_nil ?_
      refine aw_kp [0, 3, 4, 5, 6, 7, 8, 9, 10, 11, 12, 13, 16, 17, 18, 19] ?_
      refine aw_seq_region ?_
      refine sr_rd (x_fieldAddr fd34_2 rfl) ?_
      refine sr_rd (x_load ag3 rfl (cells_ext mauto Ext.auto)) ?_
      refine sr_rd (x_cast (u := .int .i64 tk) (x_rem rfl rfl (by omega)) (by rw [htk])) ?_
      refine sr_rd (x_fieldAddr fd34_2 rfl) ?_
      refine sr_x0 rfl (wtd_none rfl) (x_store sz3 rfl rfl rfl rfl rfl Repl.auto Spl.auto) ?_
      refine sr_nil ?_
      refine aw_kp [0, 3, 4, 5, 6, 7, 8, 9, 10, 11, 12, 13, 16, 17, 18, 19, 20, 21, 22, 23] ?_
      refine aw_seq_region ?_
      refine sr_rd (x_fieldAddr fd34_0 rfl) ?_
      refine sr_rd (x_load ag3 rfl (cells_ext mauto Ext.auto)) ?_
      refine sr_rd (x_cast (u := .int .i64 sk) (x_and rfl rfl) (by rw [hsk])) ?_
      refine sr_rd (x_fieldAddr fd34_0 rfl) ?_
      refine sr_x0 rfl (wtd_none rfl) (x_store sz3 rfl rfl rfl rfl rfl Repl.auto Spl.auto) ?_
      refine sr_nil ?_
      refine aw_kp [0, 3, 4, 5, 6, 7, 8, 9, 10, 11, 12, 13, 16, 17, 18, 19, 20, 21, 22, 23, 24, 25, 26, 27] ?_
      refine aw_region ?_
      refine sr_mv ?_
      refine sr_rd (x_loadN ag34 sz34 rfl (cells_ext mauto Ext.auto) rfl) ?_
      refine sr_new rfl (wtd_none rfl) rfl (x_buildSlice Try.underlying22 sz34 zr34 rfl rfl rfl rfl Parts.auto Fill.auto) ?_
      intro r8_2 hr8_2 gr8_2
      refine sr_d rfl (wtd_none rfl) rfl (opS_append (G := (r8_2, .cells (Ev.cells ⟨sk, e.kind, tk, e.req, e.rep, e.cho, e.ok⟩).toArray 34 (0, 0)) :: (r5_4, .cells (Ev.cells ⟨sk, e.kind, tk, e.req, e.rep, e.cho, e.ok⟩).toArray 34 (0, 0)) :: H) (N := (Ev.cells ⟨sk, e.kind, tk, e.req, e.rep, e.cho, e.ok⟩)) (m := 1) Try.underlying22 sz34 zr34 rfl by34 rfl rfl V1 Sub.autoP (.inr ⟨_, _, rfl, (cells_ext mauto Ext.auto)⟩) (rfl) rfl (by omega) (by omega)) ?_
      rintro v31 _ ⟨E31, hV31, rfl⟩
      obtain ⟨a31, cap31, rfl⟩ := hV31.isSl
      refine sr_as ?_
      refine sr_nil ?_
      show AW _ _ _ _ _ _ _
      refine aw_region ?_
      refine sr_mv ?_
      refine sr_rd (x_add' rfl rfl (i64w (by omega) (by omega))) ?_
      refine sr_as ?_
      refine sr_nil ?_
      show ∃ s', _ ∧ _ ∧ _ ∧ _
      exact ⟨⟨k + 1, X ++ [⟨sk, e.kind, tk, e.req, e.rep, e.cho, e.ok⟩], a31, cap31, E31⟩, ⟨by dsimp only; omega, by dsimp only; omega, by dsimp only; rw [List.length_append, hXl]; rfl, OwnVec.snocS hV31⟩, by dsimp only; omega, (by rw [List.length_append]; exact KeepF.auto), Sub.autoP⟩
    · refine sr_rd (x_pick_t rfl rfl rfl) ?_
      refine sr_nil ?_
      refine aw_kp [0, 3, 4, 6, 7, 8, 9, 10, 11, 12, 13] ?_
      refine aw_false rfl ?_
      refine aw_exit ?_
      show AW _ _ _ _ _ _ _
      refine aw_seq_region ?_
      refine sr_mv ?_
      refine sr_as ?_
      refine sr_nil ?_
      refine aw_kp [2] ?_
      refine aw_ret ?_
      show ∃ v H2, ResV _ _ _ _ _ _ v ∧ Sub H2 _ ∧ _
      exact ⟨_, _, resV rfl (.cons rfl .nil), Sub.autoP, ⟨X, a1, c1, E1, rfl, (by omega), V1, rfl⟩⟩
  · refine sr_mv ?_
    refine sr_sk ?_
    refine sr_sk ?_
    refine sr_rd (x_pick_f rfl rfl rfl) ?_
    refine sr_nil ?_
    refine aw_kp [0, 3, 4, 6, 7, 8, 9, 10, 11, 12, 13] ?_
    refine aw_false rfl ?_
    refine aw_exit ?_
    show AW _ _ _ _ _ _ _
    refine aw_seq_region ?_
    refine sr_mv ?_
    refine sr_as ?_
    refine sr_nil ?_
    refine aw_kp [2] ?_
    refine aw_ret ?_
    show ∃ v H2, ResV _ _ _ _ _ _ v ∧ Sub H2 _ ∧ _
    exact ⟨_, _, resV rfl (.cons rfl .nil), Sub.autoP, ⟨X, a1, c1, E1, rfl, (by omega), V1, rfl⟩⟩
set_option maxRecDepth 100000 in
set_option maxHeartbeats 2000000 in
theorem tcounts_s (a : Option Addr) (cap : Nat) (L : List Ev) (H : SHeap) (hs : SlV W0 H 24 Ev.cells a cap L) (hl : L.length ≤ 50) : AC Try.prog W0 8 [.slice a L.length cap] H (fun v H' => v = Cn.v (cnL L) ∧ H' = H) := by
  have hle := hs.le
  have hcb := hs.capb
  refine ac_of Try.func8 rfl rfl rfl ?_
  refine aw_seq_region ?_
  refine sr_new rfl (wtd_none rfl) rfl (x_alloc zr25 rfl) ?_
  intro r0_0 hr0_0 gr0_0
  refine sr_nil ?_
  refine aw_kp [0, 2] ?_
  refine aw_seq_region ?_
  refine sr_new rfl (wtd_none rfl) rfl (x_alloc zr25 rfl) ?_
  intro r1_0 hr1_0 gr1_0
  refine sr_nil ?_
  refine aw_kp [0, 2, 3] ?_
  refine aw_seq ?_
  refine aw_seq_region ?_
  refine sr_mv ?_
  refine sr_rd (x_lenSlice Try.underlying22 rfl) ?_
  refine sr_mv ?_
  refine sr_nil ?_
  refine aw_kp [2, 3, 6, 7, 8] ?_
  refine aw_block ?_
  refine aw_loop (ι := TcG) (fun s => s.k ≤ L.length ∧ s.c = cnL (L.take s.k)) (fun s => [(2, .pointer (some ⟨r0_0, 0, none⟩)), (3, .pointer (some ⟨r1_0, 0, none⟩)), (6, .slice a L.length cap), (7, .int .i64 L.length), (8, .int .i64 s.k)]) (fun s => (r1_0, .cells (Cn.cells s.c).toArray 25 (0, 0)) :: (r0_0, .cells (Cn.cells ⟨0, 0, 0, 0, 0, 0⟩).toArray 25 (0, 0)) :: H) (fun s => L.length - s.k) ⟨0, ⟨0, 0, 0, 0, 0, 0⟩, 0, 0⟩ (⟨Nat.zero_le _, rfl⟩) KeepF.auto Sub.autoP ?_
  intro s hs9
  obtain ⟨k, c, n, m⟩ := s
  dsimp only at hs9 ⊢
  obtain ⟨hk, hc⟩ := hs9
  have hbd := cnL_bd (L.take k)
  rw [← hc, List.length_take] at hbd
  obtain ⟨q1, q2, q3, q4, q5, q6⟩ := hbd
  refine aw_seq_region ?_
  refine sr_c (x_lt rfl rfl) (fun h1 => ?_) (fun h1 => ?_)
  · refine sr_nil ?_
    refine aw_kp [2, 3, 6, 7, 8, 9] ?_
    refine aw_seq ?_
    refine aw_true rfl ?_
    refine aw_skip ?_
    show AW _ _ _ _ _ _ _
    refine aw_seq ?_
    refine aw_block ?_
    refine aw_seq_region ?_
    obtain ⟨e, he⟩ := get_ex (show k < L.length by omega)
    obtain ⟨be, oe, hae, hce⟩ := hs.at_ _ _ he
    refine sr_rd (x_indexAddrN (k) Try.underlying22 sz34 rfl hae rfl (by omega) (by omega)) ?_
    refine sr_rd (x_loadN ag34 sz34 rfl (Cells.mono hce Sub.autoR) rfl) ?_
    refine sr_new rfl (wtd_none rfl) rfl (x_alloc zr34 rfl) ?_
    intro r4_2 hr4_2 gr4_2
    refine sr_x0 rfl (wtd_none rfl) (x_store sz34 rfl rfl rfl rfl rfl Repl.auto Spl.auto) ?_
    refine sr_nil ?_
    refine aw_kp [2, 3, 5, 6, 7, 8, 9, 10, 11] ?_
    refine aw_seq_region ?_
    refine sr_rd (x_fieldAddr fd34_1 rfl) ?_
    refine sr_rd (x_load ag3 rfl (cells_ext mauto Ext.auto)) ?_
    refine sr_nil ?_
    refine aw_kp [2, 3, 5, 6, 7, 8, 9, 10, 11, 12, 13] ?_
    refine aw_block ?_
    refine aw_seq_region ?_
    refine sr_c (x_eq rfl rfl) (fun h2 => ?_) (fun h2 => ?_)
    · refine sr_as ?_
      refine sr_nil ?_
      refine aw_kp [2, 3, 5, 6, 7, 8, 9, 10, 11, 12, 13, 14, 15] ?_
      refine aw_true rfl ?_
      refine aw_region ?_
      refine sr_rd (x_fieldAddr fd25_0 rfl) ?_
      refine sr_rd (x_load ag3 rfl (cells_ext mauto Ext.auto)) ?_
      refine sr_rd (x_add' rfl rfl (i64w (by omega) (by omega))) ?_
      refine sr_rd (x_fieldAddr fd25_0 rfl) ?_
      refine sr_x0 rfl (wtd_none rfl) (x_store sz3 rfl rfl rfl rfl rfl Repl.auto Spl.auto) ?_
      refine sr_nil ?_
      show AW _ _ _ _ _ _ _
      refine aw_region ?_
      refine sr_rd (x_add' rfl rfl (i64w (by omega) (by omega))) ?_
      refine sr_mv ?_
      refine sr_nil ?_
      show ∃ s', _ ∧ _ ∧ _ ∧ _
      first | exact ⟨⟨k + 1, ⟨c.calls + 1, c.told, c.errs, c.tried, c.taken, c.passes⟩, 0, 0⟩, ⟨by dsimp only; omega, (by dsimp only; rw [cnL_take he, ← hc]; unfold cnF; (repeat (first | rw [if_pos (by first | assumption | omega)] | rw [if_neg (by first | omega | simp [*])])); first | done | rfl)⟩, by dsimp only; omega, KeepF.auto, Sub.autoD⟩ | exact ⟨⟨k + 1, ⟨c.calls, c.told + 1, c.errs + 1, c.tried, c.taken, c.passes⟩, 0, 0⟩, ⟨by dsimp only; omega, (by dsimp only; rw [cnL_take he, ← hc]; unfold cnF; (repeat (first | rw [if_pos (by first | assumption | omega)] | rw [if_neg (by first | omega | simp [*])])); first | done | rfl)⟩, by dsimp only; omega, KeepF.auto, Sub.autoD⟩ | exact ⟨⟨k + 1, ⟨c.calls, c.told + 1, c.errs, c.tried, c.taken, c.passes⟩, 0, 0⟩, ⟨by dsimp only; omega, (by dsimp only; rw [cnL_take he, ← hc]; unfold cnF; (repeat (first | rw [if_pos (by first | assumption | omega)] | rw [if_neg (by first | omega | simp [*])])); first | done | rfl)⟩, by dsimp only; omega, KeepF.auto, Sub.autoD⟩ | exact ⟨⟨k + 1, ⟨c.calls, c.told, c.errs, c.tried + 1, c.taken + 1, c.passes⟩, 0, 0⟩, ⟨by dsimp only; omega, (by dsimp only; rw [cnL_take he, ← hc]; unfold cnF; (repeat (first | rw [if_pos (by first | assumption | omega)] | rw [if_neg (by first | omega | simp [*])])); first | done | rfl)⟩, by dsimp only; omega, KeepF.auto, Sub.autoD⟩ | exact ⟨⟨k + 1, ⟨c.calls, c.told, c.errs, c.tried + 1, c.taken, c.passes⟩, 0, 0⟩, ⟨by dsimp only; omega, (by dsimp only; rw [cnL_take he, ← hc]; unfold cnF; (repeat (first | rw [if_pos (by first | assumption | omega)] | rw [if_neg (by first | omega | simp [*])])); first | done | rfl)⟩, by dsimp only; omega, KeepF.auto, Sub.autoD⟩ | exact ⟨⟨k + 1, ⟨c.calls, c.told, c.errs, c.tried, c.taken, c.passes + 1⟩, 0, 0⟩, ⟨by dsimp only; omega, (by dsimp only; rw [cnL_take he, ← hc]; unfold cnF; (repeat (first | rw [if_pos (by first | assumption | omega)] | rw [if_neg (by first | omega | simp [*])])); first | done | rfl)⟩, by dsimp only; omega, KeepF.auto, Sub.autoD⟩ | exact ⟨⟨k + 1, c, 0, 0⟩, ⟨by dsimp only; omega, (by dsimp only; rw [cnL_take he, ← hc]; unfold cnF; (repeat (first | rw [if_pos (by first | assumption | omega)] | rw [if_neg (by first | omega | simp [*])])); first | done | rfl)⟩, by dsimp only; omega, KeepF.auto, Sub.autoD⟩
    · refine sr_as ?_
      refine sr_nil ?_
      refine aw_kp [2, 3, 5, 6, 7, 8, 9, 10, 11, 12, 13, 14, 15] ?_
      refine aw_false rfl ?_
      refine aw_seq_region ?_
      refine sr_c (x_eq rfl rfl) (fun h3 => ?_) (fun h3 => ?_)
      · refine sr_as ?_
        refine sr_nil ?_
        refine aw_kp [2, 3, 5, 6, 7, 8, 9, 10, 11, 12, 13, 14, 15, 20, 21] ?_
        refine aw_true rfl ?_
        refine aw_seq_region ?_
        refine sr_rd (x_fieldAddr fd25_1 rfl) ?_
        refine sr_rd (x_load ag3 rfl (cells_ext mauto Ext.auto)) ?_
        refine sr_rd (x_add' rfl rfl (i64w (by omega) (by omega))) ?_
        refine sr_rd (x_fieldAddr fd25_1 rfl) ?_
        refine sr_x0 rfl (wtd_none rfl) (x_store sz3 rfl rfl rfl rfl rfl Repl.auto Spl.auto) ?_
        refine sr_nil ?_
        refine aw_kp [2, 3, 5, 6, 7, 8, 9, 10, 11, 12, 13, 14, 15, 20, 21, 22, 23, 24, 25] ?_
        refine aw_seq_region ?_
        refine sr_rd (x_fieldAddr fd34_4 rfl) ?_
        refine sr_rd (x_fieldAddr fd30_0 rfl) ?_
        refine sr_rd (x_load ag28 rfl (cells_ext mauto Ext.auto)) ?_
        refine sr_c (x_ne rfl rfl) (fun h4 => ?_) (fun h4 => ?_)
        · refine sr_nil ?_
          refine aw_kp [2, 3, 5, 6, 7, 8, 9, 10, 11, 12, 13, 14, 15, 20, 21, 22, 23, 24, 25, 26, 27, 28, 29] ?_
          refine aw_true rfl ?_
          refine aw_region ?_
          refine sr_rd (x_fieldAddr fd25_2 rfl) ?_
          refine sr_rd (x_load ag3 rfl (cells_ext mauto Ext.auto)) ?_
          refine sr_rd (x_add' rfl rfl (i64w (by omega) (by omega))) ?_
          refine sr_rd (x_fieldAddr fd25_2 rfl) ?_
          refine sr_x0 rfl (wtd_none rfl) (x_store sz3 rfl rfl rfl rfl rfl Repl.auto Spl.auto) ?_
          refine sr_nil ?_
          show AW _ _ _ _ _ _ _
          refine aw_region ?_
          refine sr_rd (x_add' rfl rfl (i64w (by omega) (by omega))) ?_
          refine sr_mv ?_
          refine sr_nil ?_
          show ∃ s', _ ∧ _ ∧ _ ∧ _
          first | exact ⟨⟨k + 1, ⟨c.calls + 1, c.told, c.errs, c.tried, c.taken, c.passes⟩, 0, 0⟩, ⟨by dsimp only; omega, (by dsimp only; rw [cnL_take he, ← hc]; unfold cnF; (repeat (first | rw [if_pos (by first | assumption | omega)] | rw [if_neg (by first | omega | simp [*])])); first | done | rfl)⟩, by dsimp only; omega, KeepF.auto, Sub.autoD⟩ | exact ⟨⟨k + 1, ⟨c.calls, c.told + 1, c.errs + 1, c.tried, c.taken, c.passes⟩, 0, 0⟩, ⟨by dsimp only; omega, (by dsimp only; rw [cnL_take he, ← hc]; unfold cnF; (repeat (first | rw [if_pos (by first | assumption | omega)] | rw [if_neg (by first | omega | simp [*])])); first | done | rfl)⟩, by dsimp only; omega, KeepF.auto, Sub.autoD⟩ | exact ⟨⟨k + 1, ⟨c.calls, c.told + 1, c.errs, c.tried, c.taken, c.passes⟩, 0, 0⟩, ⟨by dsimp only; omega, (by dsimp only; rw [cnL_take he, ← hc]; unfold cnF; (repeat (first | rw [if_pos (by first | assumption | omega)] | rw [if_neg (by first | omega | simp [*])])); first | done | rfl)⟩, by dsimp only; omega, KeepF.auto, Sub.autoD⟩ | exact ⟨⟨k + 1, ⟨c.calls, c.told, c.errs, c.tried + 1, c.taken + 1, c.passes⟩, 0, 0⟩, ⟨by dsimp only; omega, (by dsimp only; rw [cnL_take he, ← hc]; unfold cnF; (repeat (first | rw [if_pos (by first | assumption | omega)] | rw [if_neg (by first | omega | simp [*])])); first | done | rfl)⟩, by dsimp only; omega, KeepF.auto, Sub.autoD⟩ | exact ⟨⟨k + 1, ⟨c.calls, c.told, c.errs, c.tried + 1, c.taken, c.passes⟩, 0, 0⟩, ⟨by dsimp only; omega, (by dsimp only; rw [cnL_take he, ← hc]; unfold cnF; (repeat (first | rw [if_pos (by first | assumption | omega)] | rw [if_neg (by first | omega | simp [*])])); first | done | rfl)⟩, by dsimp only; omega, KeepF.auto, Sub.autoD⟩ | exact ⟨⟨k + 1, ⟨c.calls, c.told, c.errs, c.tried, c.taken, c.passes + 1⟩, 0, 0⟩, ⟨by dsimp only; omega, (by dsimp only; rw [cnL_take he, ← hc]; unfold cnF; (repeat (first | rw [if_pos (by first | assumption | omega)] | rw [if_neg (by first | omega | simp [*])])); first | done | rfl)⟩, by dsimp only; omega, KeepF.auto, Sub.autoD⟩ | exact ⟨⟨k + 1, c, 0, 0⟩, ⟨by dsimp only; omega, (by dsimp only; rw [cnL_take he, ← hc]; unfold cnF; (repeat (first | rw [if_pos (by first | assumption | omega)] | rw [if_neg (by first | omega | simp [*])])); first | done | rfl)⟩, by dsimp only; omega, KeepF.auto, Sub.autoD⟩
        · refine sr_nil ?_
          refine aw_kp [2, 3, 5, 6, 7, 8, 9, 10, 11, 12, 13, 14, 15, 20, 21, 22, 23, 24, 25, 26, 27, 28, 29] ?_
          refine aw_false rfl ?_
          refine aw_skip ?_
          show AW _ _ _ _ _ _ _
          refine aw_region ?_
          refine sr_rd (x_add' rfl rfl (i64w (by omega) (by omega))) ?_
          refine sr_mv ?_
          refine sr_nil ?_
          show ∃ s', _ ∧ _ ∧ _ ∧ _
          first | exact ⟨⟨k + 1, ⟨c.calls + 1, c.told, c.errs, c.tried, c.taken, c.passes⟩, 0, 0⟩, ⟨by dsimp only; omega, (by dsimp only; rw [cnL_take he, ← hc]; unfold cnF; (repeat (first | rw [if_pos (by first | assumption | omega)] | rw [if_neg (by first | omega | simp [*])])); first | done | rfl)⟩, by dsimp only; omega, KeepF.auto, Sub.autoD⟩ | exact ⟨⟨k + 1, ⟨c.calls, c.told + 1, c.errs + 1, c.tried, c.taken, c.passes⟩, 0, 0⟩, ⟨by dsimp only; omega, (by dsimp only; rw [cnL_take he, ← hc]; unfold cnF; (repeat (first | rw [if_pos (by first | assumption | omega)] | rw [if_neg (by first | omega | simp [*])])); first | done | rfl)⟩, by dsimp only; omega, KeepF.auto, Sub.autoD⟩ | exact ⟨⟨k + 1, ⟨c.calls, c.told + 1, c.errs, c.tried, c.taken, c.passes⟩, 0, 0⟩, ⟨by dsimp only; omega, (by dsimp only; rw [cnL_take he, ← hc]; unfold cnF; (repeat (first | rw [if_pos (by first | assumption | omega)] | rw [if_neg (by first | omega | simp [*])])); first | done | rfl)⟩, by dsimp only; omega, KeepF.auto, Sub.autoD⟩ | exact ⟨⟨k + 1, ⟨c.calls, c.told, c.errs, c.tried + 1, c.taken + 1, c.passes⟩, 0, 0⟩, ⟨by dsimp only; omega, (by dsimp only; rw [cnL_take he, ← hc]; unfold cnF; (repeat (first | rw [if_pos (by first | assumption | omega)] | rw [if_neg (by first | omega | simp [*])])); first | done | rfl)⟩, by dsimp only; omega, KeepF.auto, Sub.autoD⟩ | exact ⟨⟨k + 1, ⟨c.calls, c.told, c.errs, c.tried + 1, c.taken, c.passes⟩, 0, 0⟩, ⟨by dsimp only; omega, (by dsimp only; rw [cnL_take he, ← hc]; unfold cnF; (repeat (first | rw [if_pos (by first | assumption | omega)] | rw [if_neg (by first | omega | simp [*])])); first | done | rfl)⟩, by dsimp only; omega, KeepF.auto, Sub.autoD⟩ | exact ⟨⟨k + 1, ⟨c.calls, c.told, c.errs, c.tried, c.taken, c.passes + 1⟩, 0, 0⟩, ⟨by dsimp only; omega, (by dsimp only; rw [cnL_take he, ← hc]; unfold cnF; (repeat (first | rw [if_pos (by first | assumption | omega)] | rw [if_neg (by first | omega | simp [*])])); first | done | rfl)⟩, by dsimp only; omega, KeepF.auto, Sub.autoD⟩ | exact ⟨⟨k + 1, c, 0, 0⟩, ⟨by dsimp only; omega, (by dsimp only; rw [cnL_take he, ← hc]; unfold cnF; (repeat (first | rw [if_pos (by first | assumption | omega)] | rw [if_neg (by first | omega | simp [*])])); first | done | rfl)⟩, by dsimp only; omega, KeepF.auto, Sub.autoD⟩
      · refine sr_as ?_
        refine sr_nil ?_
        refine aw_kp [2, 3, 5, 6, 7, 8, 9, 10, 11, 12, 13, 14, 15, 20, 21] ?_
        refine aw_false rfl ?_
        refine aw_seq_region ?_
        refine sr_c (x_eq rfl rfl) (fun h5 => ?_) (fun h5 => ?_)
        · refine sr_as ?_
          refine sr_nil ?_
          refine aw_kp [2, 3, 5, 6, 7, 8, 9, 10, 11, 12, 13, 14, 15, 20, 21, 34, 35] ?_
          refine aw_true rfl ?_
          refine aw_seq_region ?_
          refine sr_rd (x_fieldAddr fd25_3 rfl) ?_
          refine sr_rd (x_load ag3 rfl (cells_ext mauto Ext.auto)) ?_
          refine sr_rd (x_add' rfl rfl (i64w (by omega) (by omega))) ?_
          refine sr_rd (x_fieldAddr fd25_3 rfl) ?_
          refine sr_x0 rfl (wtd_none rfl) (x_store sz3 rfl rfl rfl rfl rfl Repl.auto Spl.auto) ?_
          refine sr_nil ?_
          refine aw_kp [2, 3, 5, 6, 7, 8, 9, 10, 11, 12, 13, 14, 15, 20, 21, 34, 35, 36, 37, 38, 39] ?_
          refine aw_seq_region ?_
          refine sr_rd (x_fieldAddr fd34_6 rfl) ?_
          refine sr_rd (x_load ag4 rfl (cells_ext mauto Ext.auto)) ?_
          refine sr_nil ?_
          refine aw_kp [2, 3, 5, 6, 7, 8, 9, 10, 11, 12, 13, 14, 15, 20, 21, 34, 35, 36, 37, 38, 39, 40, 41] ?_
          refine aw_cond rfl (fun hb6 => ?_) (fun hb6 => ?_)
          · refine aw_region ?_
            refine sr_rd (x_fieldAddr fd25_4 rfl) ?_
            refine sr_rd (x_load ag3 rfl (cells_ext mauto Ext.auto)) ?_
            refine sr_rd (x_add' rfl rfl (i64w (by omega) (by omega))) ?_
            refine sr_rd (x_fieldAddr fd25_4 rfl) ?_
            refine sr_x0 rfl (wtd_none rfl) (x_store sz3 rfl rfl rfl rfl rfl Repl.auto Spl.auto) ?_
            refine sr_nil ?_
            show AW _ _ _ _ _ _ _
            refine aw_region ?_
            refine sr_rd (x_add' rfl rfl (i64w (by omega) (by omega))) ?_
            refine sr_mv ?_
            refine sr_nil ?_
            show ∃ s', _ ∧ _ ∧ _ ∧ _
            first | exact ⟨⟨k + 1, ⟨c.calls + 1, c.told, c.errs, c.tried, c.taken, c.passes⟩, 0, 0⟩, ⟨by dsimp only; omega, (by dsimp only; rw [cnL_take he, ← hc]; unfold cnF; (repeat (first | rw [if_pos (by first | assumption | omega)] | rw [if_neg (by first | omega | simp [*])])); first | done | rfl)⟩, by dsimp only; omega, KeepF.auto, Sub.autoD⟩ | exact ⟨⟨k + 1, ⟨c.calls, c.told + 1, c.errs + 1, c.tried, c.taken, c.passes⟩, 0, 0⟩, ⟨by dsimp only; omega, (by dsimp only; rw [cnL_take he, ← hc]; unfold cnF; (repeat (first | rw [if_pos (by first | assumption | omega)] | rw [if_neg (by first | omega | simp [*])])); first | done | rfl)⟩, by dsimp only; omega, KeepF.auto, Sub.autoD⟩ | exact ⟨⟨k + 1, ⟨c.calls, c.told + 1, c.errs, c.tried, c.taken, c.passes⟩, 0, 0⟩, ⟨by dsimp only; omega, (by dsimp only; rw [cnL_take he, ← hc]; unfold cnF; (repeat (first | rw [if_pos (by first | assumption | omega)] | rw [if_neg (by first | omega | simp [*])])); first | done | rfl)⟩, by dsimp only; omega, KeepF.auto, Sub.autoD⟩ | exact ⟨⟨k + 1, ⟨c.calls, c.told, c.errs, c.tried + 1, c.taken + 1, c.passes⟩, 0, 0⟩, ⟨by dsimp only; omega, (by dsimp only; rw [cnL_take he, ← hc]; unfold cnF; (repeat (first | rw [if_pos (by first | assumption | omega)] | rw [if_neg (by first | omega | simp [*])])); first | done | rfl)⟩, by dsimp only; omega, KeepF.auto, Sub.autoD⟩ | exact ⟨⟨k + 1, ⟨c.calls, c.told, c.errs, c.tried + 1, c.taken, c.passes⟩, 0, 0⟩, ⟨by dsimp only; omega, (by dsimp only; rw [cnL_take he, ← hc]; unfold cnF; (repeat (first | rw [if_pos (by first | assumption | omega)] | rw [if_neg (by first | omega | simp [*])])); first | done | rfl)⟩, by dsimp only; omega, KeepF.auto, Sub.autoD⟩ | exact ⟨⟨k + 1, ⟨c.calls, c.told, c.errs, c.tried, c.taken, c.passes + 1⟩, 0, 0⟩, ⟨by dsimp only; omega, (by dsimp only; rw [cnL_take he, ← hc]; unfold cnF; (repeat (first | rw [if_pos (by first | assumption | omega)] | rw [if_neg (by first | omega | simp [*])])); first | done | rfl)⟩, by dsimp only; omega, KeepF.auto, Sub.autoD⟩ | exact ⟨⟨k + 1, c, 0, 0⟩, ⟨by dsimp only; omega, (by dsimp only; rw [cnL_take he, ← hc]; unfold cnF; (repeat (first | rw [if_pos (by first | assumption | omega)] | rw [if_neg (by first | omega | simp [*])])); first | done | rfl)⟩, by dsimp only; omega, KeepF.auto, Sub.autoD⟩
          · refine aw_skip ?_
            show AW _ _ _ _ _ _ _
            refine aw_region ?_
            refine sr_rd (x_add' rfl rfl (i64w (by omega) (by omega))) ?_
            refine sr_mv ?_
            refine sr_nil ?_
            show ∃ s', _ ∧ _ ∧ _ ∧ _
            first | exact ⟨⟨k + 1, ⟨c.calls + 1, c.told, c.errs, c.tried, c.taken, c.passes⟩, 0, 0⟩, ⟨by dsimp only; omega, (by dsimp only; rw [cnL_take he, ← hc]; unfold cnF; (repeat (first | rw [if_pos (by first | assumption | omega)] | rw [if_neg (by first | omega | simp [*])])); first | done | rfl)⟩, by dsimp only; omega, KeepF.auto, Sub.autoD⟩ | exact ⟨⟨k + 1, ⟨c.calls, c.told + 1, c.errs + 1, c.tried, c.taken, c.passes⟩, 0, 0⟩, ⟨by dsimp only; omega, (by dsimp only; rw [cnL_take he, ← hc]; unfold cnF; (repeat (first | rw [if_pos (by first | assumption | omega)] | rw [if_neg (by first | omega | simp [*])])); first | done | rfl)⟩, by dsimp only; omega, KeepF.auto, Sub.autoD⟩ | exact ⟨⟨k + 1, ⟨c.calls, c.told + 1, c.errs, c.tried, c.taken, c.passes⟩, 0, 0⟩, ⟨by dsimp only; omega, (by dsimp only; rw [cnL_take he, ← hc]; unfold cnF; (repeat (first | rw [if_pos (by first | assumption | omega)] | rw [if_neg (by first | omega | simp [*])])); first | done | rfl)⟩, by dsimp only; omega, KeepF.auto, Sub.autoD⟩ | exact ⟨⟨k + 1, ⟨c.calls, c.told, c.errs, c.tried + 1, c.taken + 1, c.passes⟩, 0, 0⟩, ⟨by dsimp only; omega, (by dsimp only; rw [cnL_take he, ← hc]; unfold cnF; (repeat (first | rw [if_pos (by first | assumption | omega)] | rw [if_neg (by first | omega | simp [*])])); first | done | rfl)⟩, by dsimp only; omega, KeepF.auto, Sub.autoD⟩ | exact ⟨⟨k + 1, ⟨c.calls, c.told, c.errs, c.tried + 1, c.taken, c.passes⟩, 0, 0⟩, ⟨by dsimp only; omega, (by dsimp only; rw [cnL_take he, ← hc]; unfold cnF; (repeat (first | rw [if_pos (by first | assumption | omega)] | rw [if_neg (by first | omega | simp [*])])); first | done | rfl)⟩, by dsimp only; omega, KeepF.auto, Sub.autoD⟩ | exact ⟨⟨k + 1, ⟨c.calls, c.told, c.errs, c.tried, c.taken, c.passes + 1⟩, 0, 0⟩, ⟨by dsimp only; omega, (by dsimp only; rw [cnL_take he, ← hc]; unfold cnF; (repeat (first | rw [if_pos (by first | assumption | omega)] | rw [if_neg (by first | omega | simp [*])])); first | done | rfl)⟩, by dsimp only; omega, KeepF.auto, Sub.autoD⟩ | exact ⟨⟨k + 1, c, 0, 0⟩, ⟨by dsimp only; omega, (by dsimp only; rw [cnL_take he, ← hc]; unfold cnF; (repeat (first | rw [if_pos (by first | assumption | omega)] | rw [if_neg (by first | omega | simp [*])])); first | done | rfl)⟩, by dsimp only; omega, KeepF.auto, Sub.autoD⟩
        · refine sr_as ?_
          refine sr_nil ?_
          refine aw_kp [2, 3, 5, 6, 7, 8, 9, 10, 11, 12, 13, 14, 15, 20, 21, 34, 35] ?_
          refine aw_false rfl ?_
          refine aw_seq_region ?_
          refine sr_c (x_eq rfl rfl) (fun h7 => ?_) (fun h7 => ?_)
          · refine sr_as ?_
            refine sr_nil ?_
            refine aw_kp [2, 3, 5, 6, 7, 8, 9, 10, 11, 12, 13, 14, 15, 20, 21, 34, 35, 46, 47] ?_
            refine aw_true rfl ?_
            refine aw_region ?_
            refine sr_rd (x_fieldAddr fd25_5 rfl) ?_
            refine sr_rd (x_load ag3 rfl (cells_ext mauto Ext.auto)) ?_
            refine sr_rd (x_add' rfl rfl (i64w (by omega) (by omega))) ?_
            refine sr_rd (x_fieldAddr fd25_5 rfl) ?_
            refine sr_x0 rfl (wtd_none rfl) (x_store sz3 rfl rfl rfl rfl rfl Repl.auto Spl.auto) ?_
            refine sr_nil ?_
            show AW _ _ _ _ _ _ _
            refine aw_region ?_
            refine sr_rd (x_add' rfl rfl (i64w (by omega) (by omega))) ?_
            refine sr_mv ?_
            refine sr_nil ?_
            show ∃ s', _ ∧ _ ∧ _ ∧ _
            first | exact ⟨⟨k + 1, ⟨c.calls + 1, c.told, c.errs, c.tried, c.taken, c.passes⟩, 0, 0⟩, ⟨by dsimp only; omega, (by dsimp only; rw [cnL_take he, ← hc]; unfold cnF; (repeat (first | rw [if_pos (by first | assumption | omega)] | rw [if_neg (by first | omega | simp [*])])); first | done | rfl)⟩, by dsimp only; omega, KeepF.auto, Sub.autoD⟩ | exact ⟨⟨k + 1, ⟨c.calls, c.told + 1, c.errs + 1, c.tried, c.taken, c.passes⟩, 0, 0⟩, ⟨by dsimp only; omega, (by dsimp only; rw [cnL_take he, ← hc]; unfold cnF; (repeat (first | rw [if_pos (by first | assumption | omega)] | rw [if_neg (by first | omega | simp [*])])); first | done | rfl)⟩, by dsimp only; omega, KeepF.auto, Sub.autoD⟩ | exact ⟨⟨k + 1, ⟨c.calls, c.told + 1, c.errs, c.tried, c.taken, c.passes⟩, 0, 0⟩, ⟨by dsimp only; omega, (by dsimp only; rw [cnL_take he, ← hc]; unfold cnF; (repeat (first | rw [if_pos (by first | assumption | omega)] | rw [if_neg (by first | omega | simp [*])])); first | done | rfl)⟩, by dsimp only; omega, KeepF.auto, Sub.autoD⟩ | exact ⟨⟨k + 1, ⟨c.calls, c.told, c.errs, c.tried + 1, c.taken + 1, c.passes⟩, 0, 0⟩, ⟨by dsimp only; omega, (by dsimp only; rw [cnL_take he, ← hc]; unfold cnF; (repeat (first | rw [if_pos (by first | assumption | omega)] | rw [if_neg (by first | omega | simp [*])])); first | done | rfl)⟩, by dsimp only; omega, KeepF.auto, Sub.autoD⟩ | exact ⟨⟨k + 1, ⟨c.calls, c.told, c.errs, c.tried + 1, c.taken, c.passes⟩, 0, 0⟩, ⟨by dsimp only; omega, (by dsimp only; rw [cnL_take he, ← hc]; unfold cnF; (repeat (first | rw [if_pos (by first | assumption | omega)] | rw [if_neg (by first | omega | simp [*])])); first | done | rfl)⟩, by dsimp only; omega, KeepF.auto, Sub.autoD⟩ | exact ⟨⟨k + 1, ⟨c.calls, c.told, c.errs, c.tried, c.taken, c.passes + 1⟩, 0, 0⟩, ⟨by dsimp only; omega, (by dsimp only; rw [cnL_take he, ← hc]; unfold cnF; (repeat (first | rw [if_pos (by first | assumption | omega)] | rw [if_neg (by first | omega | simp [*])])); first | done | rfl)⟩, by dsimp only; omega, KeepF.auto, Sub.autoD⟩ | exact ⟨⟨k + 1, c, 0, 0⟩, ⟨by dsimp only; omega, (by dsimp only; rw [cnL_take he, ← hc]; unfold cnF; (repeat (first | rw [if_pos (by first | assumption | omega)] | rw [if_neg (by first | omega | simp [*])])); first | done | rfl)⟩, by dsimp only; omega, KeepF.auto, Sub.autoD⟩
          · refine sr_as ?_
            refine sr_nil ?_
            refine aw_kp [2, 3, 5, 6, 7, 8, 9, 10, 11, 12, 13, 14, 15, 20, 21, 34, 35, 46, 47] ?_
            refine aw_false rfl ?_
            refine aw_skip ?_
            show AW _ _ _ _ _ _ _
            refine aw_region ?_
            refine sr_rd (x_add' rfl rfl (i64w (by omega) (by omega))) ?_
            refine sr_mv ?_
            refine sr_nil ?_
            show ∃ s', _ ∧ _ ∧ _ ∧ _
            first | exact ⟨⟨k + 1, ⟨c.calls + 1, c.told, c.errs, c.tried, c.taken, c.passes⟩, 0, 0⟩, ⟨by dsimp only; omega, (by dsimp only; rw [cnL_take he, ← hc]; unfold cnF; (repeat (first | rw [if_pos (by first | assumption | omega)] | rw [if_neg (by first | omega | simp [*])])); first | done | rfl)⟩, by dsimp only; omega, KeepF.auto, Sub.autoD⟩ | exact ⟨⟨k + 1, ⟨c.calls, c.told + 1, c.errs + 1, c.tried, c.taken, c.passes⟩, 0, 0⟩, ⟨by dsimp only; omega, (by dsimp only; rw [cnL_take he, ← hc]; unfold cnF; (repeat (first | rw [if_pos (by first | assumption | omega)] | rw [if_neg (by first | omega | simp [*])])); first | done | rfl)⟩, by dsimp only; omega, KeepF.auto, Sub.autoD⟩ | exact ⟨⟨k + 1, ⟨c.calls, c.told + 1, c.errs, c.tried, c.taken, c.passes⟩, 0, 0⟩, ⟨by dsimp only; omega, (by dsimp only; rw [cnL_take he, ← hc]; unfold cnF; (repeat (first | rw [if_pos (by first | assumption | omega)] | rw [if_neg (by first | omega | simp [*])])); first | done | rfl)⟩, by dsimp only; omega, KeepF.auto, Sub.autoD⟩ | exact ⟨⟨k + 1, ⟨c.calls, c.told, c.errs, c.tried + 1, c.taken + 1, c.passes⟩, 0, 0⟩, ⟨by dsimp only; omega, (by dsimp only; rw [cnL_take he, ← hc]; unfold cnF; (repeat (first | rw [if_pos (by first | assumption | omega)] | rw [if_neg (by first | omega | simp [*])])); first | done | rfl)⟩, by dsimp only; omega, KeepF.auto, Sub.autoD⟩ | exact ⟨⟨k + 1, ⟨c.calls, c.told, c.errs, c.tried + 1, c.taken, c.passes⟩, 0, 0⟩, ⟨by dsimp only; omega, (by dsimp only; rw [cnL_take he, ← hc]; unfold cnF; (repeat (first | rw [if_pos (by first | assumption | omega)] | rw [if_neg (by first | omega | simp [*])])); first | done | rfl)⟩, by dsimp only; omega, KeepF.auto, Sub.autoD⟩ | exact ⟨⟨k + 1, ⟨c.calls, c.told, c.errs, c.tried, c.taken, c.passes + 1⟩, 0, 0⟩, ⟨by dsimp only; omega, (by dsimp only; rw [cnL_take he, ← hc]; unfold cnF; (repeat (first | rw [if_pos (by first | assumption | omega)] | rw [if_neg (by first | omega | simp [*])])); first | done | rfl)⟩, by dsimp only; omega, KeepF.auto, Sub.autoD⟩ | exact ⟨⟨k + 1, c, 0, 0⟩, ⟨by dsimp only; omega, (by dsimp only; rw [cnL_take he, ← hc]; unfold cnF; (repeat (first | rw [if_pos (by first | assumption | omega)] | rw [if_neg (by first | omega | simp [*])])); first | done | rfl)⟩, by dsimp only; omega, KeepF.auto, Sub.autoD⟩
  · refine sr_nil ?_
    refine aw_kp [2, 3, 6, 7, 8, 9] ?_
    refine aw_seq ?_
    refine aw_false rfl ?_
    refine aw_exit ?_
    show AW _ _ _ _ _ _ _
    refine aw_seq_region ?_
    rw [List.take_of_length_le (by omega)] at hc
    refine sr_rd (x_loadN ag25 sz25 rfl (cells_ext mauto Ext.auto) rfl) ?_
    refine sr_x0 rfl (wtd_none rfl) (x_store sz25 rfl rfl rfl rfl rfl Repl.auto Spl.auto) ?_
    refine sr_nil ?_
    refine aw_kp [2] ?_
    refine aw_ret ?_
    show ∃ v H2, ResV _ _ _ _ _ _ v ∧ Sub H2 _ ∧ _
    exact ⟨_, H, resV rfl (.cons (⟨_, rfl, fun hw => rd_loadVarN ag25 sz25 hw (cells_ext mauto Ext.auto) rfl⟩) .nil), Sub.autoR, ⟨by rw [← hc]; rfl, rfl⟩⟩
set_option maxRecDepth 100000 in
set_option maxHeartbeats 1000000 in
theorem tbusy_s (a : Option Addr) (cap : Nat) (L : List Ev) (H : SHeap) (hs : SlV W0 H 24 Ev.cells a cap L) (hl : L.length ≤ 50) : AC Try.prog W0 9 [.slice a L.length cap] H (fun v H' => v = .int .i64 (bzL L).m ∧ H' = H) := by
  have hle := hs.le
  have hcb := hs.capb
  refine ac_of Try.func9 rfl rfl rfl ?_
  refine aw_seq_region ?_
  refine sr_as ?_
  refine sr_nil ?_
  refine aw_kp [0, 2] ?_
  refine aw_seq_region ?_
  refine sr_as ?_
  refine sr_as ?_
  refine sr_nil ?_
  refine aw_kp [0, 2, 3, 4] ?_
  refine aw_seq ?_
  refine aw_seq_region ?_
  refine sr_mv ?_
  refine sr_rd (x_lenSlice Try.underlying22 rfl) ?_
  refine sr_mv ?_
  refine sr_nil ?_
  refine aw_kp [2, 3, 4, 7, 8, 9] ?_
  refine aw_block ?_
  refine aw_loop (ι := BzG) (fun s => s.k ≤ L.length ∧ (⟨s.n, s.m⟩ : Bz) = bzL (L.take s.k)) (fun s => [(3, .int .i64 s.n), (4, .int .i64 s.m), (7, .slice a L.length cap), (8, .int .i64 L.length), (9, .int .i64 s.k)]) (fun _ => H) (fun s => L.length - s.k) ⟨0, 0, 0⟩ (⟨Nat.zero_le _, rfl⟩) KeepF.auto Sub.autoP ?_
  intro s hs9
  obtain ⟨k, n, m⟩ := s
  dsimp only at hs9 ⊢
  obtain ⟨hk, hb⟩ := hs9
  have hbd := bzL_bd (L.take k)
  rw [← hb, List.length_take] at hbd
  dsimp only at hbd
  refine aw_seq_region ?_
  refine sr_c (x_lt rfl rfl) (fun h1 => ?_) (fun h1 => ?_)
  · refine sr_nil ?_
    refine aw_kp [3, 4, 7, 8, 9, 10] ?_
    refine aw_seq ?_
    refine aw_true rfl ?_
    refine aw_skip ?_
    show AW _ _ _ _ _ _ _
    refine aw_seq ?_
    refine aw_block ?_
    refine aw_seq_region ?_
    obtain ⟨e, he⟩ := get_ex (show k < L.length by omega)
    obtain ⟨be, oe, hae, hce⟩ := hs.at_ _ _ he
    refine sr_rd (x_indexAddrN (k) Try.underlying22 sz34 rfl hae rfl (by omega) (by omega)) ?_
    refine sr_rd (x_loadN ag34 sz34 rfl (Cells.mono hce Sub.autoR) rfl) ?_
    refine sr_new rfl (wtd_none rfl) rfl (x_alloc zr34 rfl) ?_
    intro r4_2 hr4_2 gr4_2
    refine sr_x0 rfl (wtd_none rfl) (x_store sz34 rfl rfl rfl rfl rfl Repl.auto Spl.auto) ?_
    refine sr_nil ?_
    refine aw_kp [3, 4, 6, 7, 8, 9, 10, 11, 12] ?_
    refine aw_seq ?_
    refine aw_seq_region ?_
    refine sr_rd (x_fieldAddr fd34_1 rfl) ?_
    refine sr_rd (x_load ag3 rfl (cells_ext mauto Ext.auto)) ?_
    refine sr_nil ?_
    refine aw_kp [3, 4, 6, 7, 8, 9, 10, 11, 12, 13, 14] ?_
    refine aw_block ?_
    refine aw_seq_region ?_
    refine sr_c (x_eq rfl rfl) (fun h2 => ?_) (fun h2 => ?_)
    · refine sr_as ?_
      refine sr_nil ?_
      refine aw_kp [3, 4, 6, 7, 8, 9, 10, 11, 12, 13, 14, 15, 16] ?_
      refine aw_true rfl ?_
      refine aw_region ?_
      refine sr_mv ?_
      refine sr_rd (x_add' rfl rfl (i64w (by omega) (by omega))) ?_
      refine sr_as ?_
      refine sr_nil ?_
      show AW _ _ _ _ _ _ _
      refine aw_region ?_
      refine sr_mv ?_
      refine sr_mv ?_
      refine sr_rd (x_max rfl rfl) ?_
      refine sr_as ?_
      refine sr_nil ?_
      show AW _ _ _ _ _ _ _
      refine aw_region ?_
      refine sr_rd (x_add' rfl rfl (i64w (by omega) (by omega))) ?_
      refine sr_mv ?_
      refine sr_nil ?_
      show ∃ s', _ ∧ _ ∧ _ ∧ _
      first | exact ⟨⟨k + 1, n + 1, max m (n + 1)⟩, ⟨by dsimp only; omega, (by dsimp only; rw [bzL_take he]; unfold bzF bzN; (repeat (first | rw [if_pos (by omega)] | rw [if_neg (by omega)])); rw [← hb])⟩, by dsimp only; omega, KeepF.auto, Sub.autoD⟩ | exact ⟨⟨k + 1, n - 1, max m (n - 1)⟩, ⟨by dsimp only; omega, (by dsimp only; rw [bzL_take he]; unfold bzF bzN; (repeat (first | rw [if_pos (by omega)] | rw [if_neg (by omega)])); rw [← hb])⟩, by dsimp only; omega, KeepF.auto, Sub.autoD⟩ | exact ⟨⟨k + 1, n, max m (n)⟩, ⟨by dsimp only; omega, (by dsimp only; rw [bzL_take he]; unfold bzF bzN; (repeat (first | rw [if_pos (by omega)] | rw [if_neg (by omega)])); rw [← hb])⟩, by dsimp only; omega, KeepF.auto, Sub.autoD⟩
    · refine sr_as ?_
      refine sr_nil ?_
      refine aw_kp [3, 4, 6, 7, 8, 9, 10, 11, 12, 13, 14, 15, 16] ?_
      refine aw_false rfl ?_
      refine aw_seq_region ?_
      refine sr_c (x_eq rfl rfl) (fun h3 => ?_) (fun h3 => ?_)
      · refine sr_as ?_
        refine sr_nil ?_
        refine aw_kp [3, 4, 6, 7, 8, 9, 10, 11, 12, 13, 14, 15, 16, 19, 20] ?_
        refine aw_true rfl ?_
        refine aw_region ?_
        refine sr_mv ?_
        refine sr_rd (x_sub' rfl rfl (i64w (by omega) (by omega))) ?_
        refine sr_as ?_
        refine sr_nil ?_
        show AW _ _ _ _ _ _ _
        refine aw_region ?_
        refine sr_mv ?_
        refine sr_mv ?_
        refine sr_rd (x_max rfl rfl) ?_
        refine sr_as ?_
        refine sr_nil ?_
        show AW _ _ _ _ _ _ _
        refine aw_region ?_
        refine sr_rd (x_add' rfl rfl (i64w (by omega) (by omega))) ?_
        refine sr_mv ?_
        refine sr_nil ?_
        show ∃ s', _ ∧ _ ∧ _ ∧ _
        first | exact ⟨⟨k + 1, n + 1, max m (n + 1)⟩, ⟨by dsimp only; omega, (by dsimp only; rw [bzL_take he]; unfold bzF bzN; (repeat (first | rw [if_pos (by omega)] | rw [if_neg (by omega)])); rw [← hb])⟩, by dsimp only; omega, KeepF.auto, Sub.autoD⟩ | exact ⟨⟨k + 1, n - 1, max m (n - 1)⟩, ⟨by dsimp only; omega, (by dsimp only; rw [bzL_take he]; unfold bzF bzN; (repeat (first | rw [if_pos (by omega)] | rw [if_neg (by omega)])); rw [← hb])⟩, by dsimp only; omega, KeepF.auto, Sub.autoD⟩ | exact ⟨⟨k + 1, n, max m (n)⟩, ⟨by dsimp only; omega, (by dsimp only; rw [bzL_take he]; unfold bzF bzN; (repeat (first | rw [if_pos (by omega)] | rw [if_neg (by omega)])); rw [← hb])⟩, by dsimp only; omega, KeepF.auto, Sub.autoD⟩
      · refine sr_as ?_
        refine sr_nil ?_
        refine aw_kp [3, 4, 6, 7, 8, 9, 10, 11, 12, 13, 14, 15, 16, 19, 20] ?_
        refine aw_false rfl ?_
        refine aw_skip ?_
        show AW _ _ _ _ _ _ _
        refine aw_region ?_
        refine sr_mv ?_
        refine sr_mv ?_
        refine sr_rd (x_max rfl rfl) ?_
        refine sr_as ?_
        refine sr_nil ?_
        show AW _ _ _ _ _ _ _
        refine aw_region ?_
        refine sr_rd (x_add' rfl rfl (i64w (by omega) (by omega))) ?_
        refine sr_mv ?_
        refine sr_nil ?_
        show ∃ s', _ ∧ _ ∧ _ ∧ _
        first | exact ⟨⟨k + 1, n + 1, max m (n + 1)⟩, ⟨by dsimp only; omega, (by dsimp only; rw [bzL_take he]; unfold bzF bzN; (repeat (first | rw [if_pos (by omega)] | rw [if_neg (by omega)])); rw [← hb])⟩, by dsimp only; omega, KeepF.auto, Sub.autoD⟩ | exact ⟨⟨k + 1, n - 1, max m (n - 1)⟩, ⟨by dsimp only; omega, (by dsimp only; rw [bzL_take he]; unfold bzF bzN; (repeat (first | rw [if_pos (by omega)] | rw [if_neg (by omega)])); rw [← hb])⟩, by dsimp only; omega, KeepF.auto, Sub.autoD⟩ | exact ⟨⟨k + 1, n, max m (n)⟩, ⟨by dsimp only; omega, (by dsimp only; rw [bzL_take he]; unfold bzF bzN; (repeat (first | rw [if_pos (by omega)] | rw [if_neg (by omega)])); rw [← hb])⟩, by dsimp only; omega, KeepF.auto, Sub.autoD⟩
  · refine sr_nil ?_
    refine aw_kp [3, 4, 7, 8, 9, 10] ?_
    refine aw_seq ?_
    refine aw_false rfl ?_
    refine aw_exit ?_
    show AW _ _ _ _ _ _ _
    refine aw_seq_region ?_
    rw [List.take_of_length_le (by omega)] at hb
    refine sr_mv ?_
    refine sr_as ?_
    refine sr_nil ?_
    refine aw_kp [2] ?_
    refine aw_ret ?_
    show ∃ v H2, ResV _ _ _ _ _ _ v ∧ Sub H2 _ ∧ _
    exact ⟨_, H, resV rfl (.cons rfl .nil), Sub.autoR, ⟨by rw [← hb]; rfl, rfl⟩⟩
end
end Go.Proofs.Ytonpnkekcipmlaa
