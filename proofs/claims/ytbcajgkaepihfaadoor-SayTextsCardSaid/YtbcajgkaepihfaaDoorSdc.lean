/- Lines are read as requests. -/
import Derived.Test.YtbcajgkaepihfaaDoorSdb
namespace Go.Proofs.YtbcajgkaepihfaaDoor
open Go.Proofs.YtbcajgkaepihfaaDoor.Sym
open Go.RowKit (Below)
set_option linter.unusedVariables false
set_option linter.unusedSimpArgs false
def wordsL : List (List UInt8) := [[], [115, 117, 98, 109, 105, 116], [99, 97, 110, 99, 101, 108], [104, 111, 108, 100], [114, 101, 108, 101, 97, 115, 101], [99, 111, 109, 112, 108, 101, 116, 101], [113, 117, 101, 114, 121], [100, 114, 97, 105, 110], [114, 101, 115, 117, 109, 101], [116, 105, 99, 107], [105, 110, 102, 111], [108, 111, 97, 100], [99, 108, 111, 99, 107], [115, 116, 111, 112]]
structure Req where
  kind : Int
  id : Int
  user : Int
  width : Int
  limit : Int
  prio : Int
  held : Bool
  node : Int
  by_ : Int
@[reducible] def Req.cells (j : Req) : List Value := [.int .i64 j.kind, .int .i64 j.id, .int .i64 j.user, .int .i64 j.width, .int .i64 j.limit, .int .i64 j.prio, .bool j.held, .int .i64 j.node, .int .i64 j.by_]
@[reducible] def Req.v (j : Req) : Value := .agg (Req.cells j).toArray
def Req.Wf (j : Req) : Prop := IntKind.min .i64 ≤ j.kind ∧ j.kind ≤ IntKind.max .i64 ∧ IntKind.min .i64 ≤ j.id ∧ j.id ≤ IntKind.max .i64 ∧ IntKind.min .i64 ≤ j.user ∧ j.user ≤ IntKind.max .i64 ∧ IntKind.min .i64 ≤ j.width ∧ j.width ≤ IntKind.max .i64 ∧ IntKind.min .i64 ≤ j.limit ∧ j.limit ≤ IntKind.max .i64 ∧ IntKind.min .i64 ≤ j.prio ∧ j.prio ≤ IntKind.max .i64 ∧ IntKind.min .i64 ≤ j.node ∧ j.node ≤ IntKind.max .i64 ∧ IntKind.min .i64 ≤ j.by_ ∧ j.by_ ≤ IntKind.max .i64
@[reducible] def zeroR : Req := ⟨0, 0, 0, 0, 0, 0, false, 0, 0⟩
@[reducible] def intC (x : Int) : List Value := [.int .i64 x]
def wordB (k : Int) : List UInt8 := if 1 ≤ k ∧ k ≤ 13 then wordsL.getD k.toNat [] else []
theorem word_get {k : Int} (h1 : 1 ≤ k) (h2 : k ≤ 13) : (wordsL.map fun w => Value.string (bs w))[k.toNat]? = some (.string (bs (wordB k))) := by
  have hk : k.toNat < wordsL.length := by
    have : wordsL.length = 14 := rfl
    omega
  unfold wordB
  rw [if_pos ⟨h1, h2⟩, List.getElem?_map, List.getD_eq_getElem?_getD, List.getElem?_eq_getElem hk]
  rfl
def fldN (k : Int) : Nat := if k = 1 then 5 else if 2 ≤ k ∧ k ≤ 9 then 1 else 0
def fldB (r : Req) : List Int := if r.kind = 1 then [r.user, r.width, r.limit, r.prio, if r.held = true then 1 else 0] else if 2 ≤ r.kind ∧ r.kind ≤ 6 then [r.id] else if r.kind = 7 ∨ r.kind = 8 then [r.node] else if r.kind = 9 then [r.by_] else []
theorem fld_len (r : Req) : (fldB r).length = fldN r.kind := by
  unfold fldB fldN
  by_cases h1 : r.kind = 1
  · rw [if_pos h1, if_pos h1]; rfl
  · rw [if_neg h1, if_neg h1]
    by_cases h2 : 2 ≤ r.kind ∧ r.kind ≤ 6
    · rw [if_pos h2, if_pos (by omega)]; rfl
    · rw [if_neg h2]
      by_cases h3 : r.kind = 7 ∨ r.kind = 8
      · rw [if_pos h3, if_pos (by omega)]; rfl
      · rw [if_neg h3]
        by_cases h4 : r.kind = 9
        · rw [if_pos h4, if_pos (by omega)]; rfl
        · rw [if_neg h4, if_neg (by omega)]; rfl
def mkR (k : Int) (ls : List Int) : Option Req :=
  if ls.length ≠ fldN k then none
  else if k = 1 then (if ls.getD 4 0 = 0 ∨ ls.getD 4 0 = 1 then some ⟨k, 0, ls.getD 0 0, ls.getD 1 0, ls.getD 2 0, ls.getD 3 0, decide (ls.getD 4 0 = 1), 0, 0⟩ else none)
  else if 2 ≤ k ∧ k ≤ 6 then some ⟨k, ls.getD 0 0, 0, 0, 0, 0, false, 0, 0⟩
  else if k = 7 ∨ k = 8 then some ⟨k, 0, 0, 0, 0, 0, false, ls.getD 0 0, 0⟩
  else if k = 9 then some ⟨k, 0, 0, 0, 0, 0, false, 0, ls.getD 0 0⟩
  else some ⟨k, 0, 0, 0, 0, 0, false, 0, 0⟩
section
variable {k : Int} {ls : List Int}
theorem mk_len (h : ls.length ≠ fldN k) : mkR k ls = none := if_pos h
section
variable (h : ls.length = fldN k)
include h
theorem mk_1t (h1 : k = 1) (h2 : ls.getD 4 0 = 1) : mkR k ls = some ⟨k, 0, ls.getD 0 0, ls.getD 1 0, ls.getD 2 0, ls.getD 3 0, true, 0, 0⟩ := by
  unfold mkR; rw [if_neg (fun q => q h), if_pos h1, if_pos (.inr h2), decide_eq_true h2]
theorem mk_1f (h1 : k = 1) (h2 : ls.getD 4 0 = 0) : mkR k ls = some ⟨k, 0, ls.getD 0 0, ls.getD 1 0, ls.getD 2 0, ls.getD 3 0, false, 0, 0⟩ := by
  unfold mkR; rw [if_neg (fun q => q h), if_pos h1, if_pos (.inl h2), decide_eq_false (by omega)]
theorem mk_1n (h1 : k = 1) (h2 : ¬ (ls.getD 4 0 = 0 ∨ ls.getD 4 0 = 1)) : mkR k ls = none := by
  unfold mkR; rw [if_neg (fun q => q h), if_pos h1, if_neg h2]
theorem mk_id (h1 : 2 ≤ k ∧ k ≤ 6) : mkR k ls = some ⟨k, ls.getD 0 0, 0, 0, 0, 0, false, 0, 0⟩ := by
  unfold mkR; rw [if_neg (fun q => q h), if_neg (by omega), if_pos h1]
theorem mk_nd (h1 : k = 7 ∨ k = 8) : mkR k ls = some ⟨k, 0, 0, 0, 0, 0, false, ls.getD 0 0, 0⟩ := by
  unfold mkR; rw [if_neg (fun q => q h), if_neg (by omega), if_neg (by omega), if_pos h1]
theorem mk_by (h1 : k = 9) : mkR k ls = some ⟨k, 0, 0, 0, 0, 0, false, 0, ls.getD 0 0⟩ := by
  unfold mkR; rw [if_neg (fun q => q h), if_neg (by omega), if_neg (by omega), if_neg (by omega), if_pos h1]
theorem mk_no (h1 : ¬ (1 ≤ k ∧ k ≤ 9)) : mkR k ls = some ⟨k, 0, 0, 0, 0, 0, false, 0, 0⟩ := by
  unfold mkR; rw [if_neg (fun q => q h), if_neg (by omega), if_neg (by omega), if_neg (by omega), if_neg (by omega)]
end
end
theorem getD_some {ls : List Int} {i : Nat} (h : i < ls.length) : ls[i]? = some (ls.getD i 0) := by
  rw [List.getD_eq_getElem?_getD, List.getElem?_eq_getElem h]; rfl
def kindTo (w : List UInt8) : Nat → Int
  | 0 => 0
  | k + 1 => if wordB (k + 1) = w then k + 1 else kindTo w k
def kindOf (w : List UInt8) : Int := kindTo w 13
theorem kindTo_rng (w : List UInt8) : ∀ k : Nat, 0 ≤ kindTo w k ∧ kindTo w k ≤ k
  | 0 => by simp [kindTo]
  | k + 1 => by
    have := kindTo_rng w k
    unfold kindTo
    split <;> omega
def rdAll : List (List UInt8) → Option (List Int)
  | [] => some []
  | w :: ws => match readN w, rdAll ws with
    | some x, some xs => some (x :: xs)
    | _, _ => none
theorem rdAll_ok : ∀ {ws : List (List UInt8)} {ls : List Int}, ws.map readN = ls.map some → rdAll ws = some ls
  | [], [], _ => rfl
  | [], _ :: _, h => by simp at h
  | _ :: _, [], h => by simp at h
  | w :: ws, x :: ls, h => by
    rw [List.map_cons, List.map_cons, List.cons.injEq] at h
    unfold rdAll
    rw [h.1, rdAll_ok h.2]
theorem rdAll_bad : ∀ {ws : List (List UInt8)} {k : Nat} {w : List UInt8}, ws[k]? = some w → readN w = none → rdAll ws = none
  | [], _, _, h, _ => by simp at h
  | x :: ws, 0, w, h, hb => by
    have : x = w := by simpa using h
    subst this
    unfold rdAll; rw [hb]
  | x :: ws, k + 1, w, h, hb => by
    have ih := rdAll_bad (ws := ws) (k := k) (by simpa using h) hb
    unfold rdAll; rw [ih]
    cases readN x <;> rfl
theorem rdAll_inv : ∀ {ws : List (List UInt8)} {ls : List Int}, rdAll ws = some ls → ws = ls.map numB ∧ ∀ x ∈ ls, -9223372036854775808 ≤ x ∧ x ≤ 9223372036854775807
  | [], ls, h => by
    have : ls = [] := by simpa [rdAll] using h.symm
    subst this; simp
  | w :: ws, ls, h => by
    unfold rdAll at h
    cases h1 : readN w with
    | none => rw [h1] at h; simp at h
    | some x =>
      cases h2 : rdAll ws with
      | none => rw [h1, h2] at h; simp at h
      | some xs =>
        rw [h1, h2] at h
        have h : x :: xs = ls := by simpa using h
        subst h
        obtain ⟨q1, q2⟩ := rdAll_inv h2
        obtain ⟨q3, q4, q5⟩ := read_inv h1
        refine ⟨by rw [List.map_cons, ← q1, ← q3], fun y hy => ?_⟩
        rw [List.mem_cons] at hy
        rcases hy with rfl | hy
        · exact ⟨q4, q5⟩
        · exact q2 y hy
theorem rdAll_num : ∀ {ls : List Int}, (∀ x ∈ ls, -9223372036854775808 ≤ x ∧ x ≤ 9223372036854775807) → rdAll (ls.map numB) = some ls
  | [], _ => rfl
  | x :: ls, h => by
    have hx := h x List.mem_cons_self
    rw [List.map_cons]
    unfold rdAll
    rw [read_num hx.1 hx.2, rdAll_num fun y hy => h y (List.mem_cons_of_mem _ hy)]
def parseW : List (List UInt8) → Option Req
  | [] => none
  | w :: ws => if kindOf w = 0 then none else match rdAll ws with
    | none => none
    | some ls => mkR (kindOf w) ls
def parseB (l : List UInt8) : Option Req := parseW (spl 32 l)
theorem spl_mem_len {c : UInt8} {l : List UInt8} : ∀ w ∈ spl c l, w.length ≤ l.length := by
  refine spl_ind (c := c) (p := fun l => ∀ w ∈ spl c l, w.length ≤ l.length) (fun l h => by rw [spl_none h]; simp) (fun w r hw ih => ?_) l
  rw [spl_find hw]
  intro x hx
  rw [List.mem_cons] at hx
  rw [List.length_append, List.length_cons]
  rcases hx with rfl | hx
  · omega
  · have := ih x hx; omega
/-- The rest of a row of words. -/
theorem slv_rest {w : List UInt8} {ws : List (List UInt8)} {a : Option Addr} {cap : Nat} {E : SHeap} (V : OwnVec 1 9 (.slice a (w :: ws).length cap) (w :: ws).length ((w :: ws).flatMap strC) E) :
    ∃ b, a = some ⟨b, 0, none⟩ ∧ ∀ {W0 : World} {H : SHeap}, Sub E H → SlV W0 H 1 strC (some ⟨b, if cap = (1 : Int).toNat then 0 else 0 + (1 : Int).toNat * 1, none⟩) (cap - (1 : Int).toNat) ws := by
  obtain ⟨b, rfl, hb⟩ := V.pos (by simp)
  refine ⟨b, rfl, fun {W0 H} hs => ?_⟩
  have hv := V.slv' (W0 := W0) (H := H) (xs := w :: ws) (fun _ => rfl) rfl hs
  have hle := hv.le
  have hcb := hv.capb
  rw [List.length_cons] at hle
  have e1 : (1 : Int).toNat = 1 := rfl
  rw [e1]
  refine ⟨by omega, by omega, fun i x hx => ?_⟩
  have hi := get_lt hx
  rw [if_neg (by omega)]
  obtain ⟨b2, o2, h1, h2⟩ := hv.at_ (i + 1) x (by simpa using hx)
  cases h1
  exact ⟨_, _, rfl, by rw [show 0 + 1 * 1 + i * 1 = 0 + (i + 1) * 1 by omega]; exact h2⟩
structure RdG where
  k : Nat
  ls : List Int
  sl : Value
  E : SHeap
theorem map_snoc {ws : List (List UInt8)} {k : Nat} {ls : List Int} {w : List UInt8} {x : Int} (h : (ws.take k).map readN = ls.map some) (hw : ws[k]? = some w) (hx : readN w = some x) : (ws.take (k + 1)).map readN = (ls ++ [x]).map some := by
  rw [takeS hw, List.map_append, h, List.map_append]; simp [hx]
def errP (o : Option Req) : Int := if o.isSome then 0 else 4
section
variable {w : List UInt8} {ws : List (List UInt8)}
theorem parseW_k0 (h : kindOf w = 0) : parseW (w :: ws) = none := if_pos h
theorem parseW_rd (h : kindOf w ≠ 0) : parseW (w :: ws) = match rdAll ws with | none => none | some ls => mkR (kindOf w) ls := if_neg h
theorem parseW_bad {k : Nat} {x : List UInt8} (h : kindOf w ≠ 0) (hx : ws[k]? = some x) (hr : readN x = none) : parseW (w :: ws) = none := by
  rw [parseW_rd h, rdAll_bad hx hr]
theorem parseW_ok {ls : List Int} (h : kindOf w ≠ 0) (hr : ws.map readN = ls.map some) : parseW (w :: ws) = mkR (kindOf w) ls := by
  rw [parseW_rd h, rdAll_ok hr]
end
theorem ag2 : aggOf Tryd.prog 2 = some false := by kernel_rfl
theorem ag3 : aggOf Tryd.prog 3 = some false := by kernel_rfl
theorem ag35 : aggOf Tryd.prog 35 = some true := by kernel_rfl
theorem ag4 : aggOf Tryd.prog 4 = some false := by kernel_rfl
theorem ag9 : aggOf Tryd.prog 9 = some false := by kernel_rfl
theorem by2 : bytesOf Tryd.prog 2 = some 8 := by kernel_rfl
theorem cl23 : Callable Tryd.prog 23 := ⟨Tryd.f23, Tryd.func23, by kernel_rfl, by kernel_rfl⟩
theorem cl26 : Callable Tryd.prog 26 := ⟨Tryd.f26, Tryd.func26, by kernel_rfl, by kernel_rfl⟩
theorem cl51 : Callable Tryd.prog 51 := ⟨Tryd.f51, Tryd.func51, by kernel_rfl, by kernel_rfl⟩
theorem cl54 : Callable Tryd.prog 54 := ⟨Tryd.f54, Tryd.func54, by kernel_rfl, by kernel_rfl⟩
theorem cl55 : Callable Tryd.prog 55 := ⟨Tryd.f55, Tryd.func55, by kernel_rfl, by kernel_rfl⟩
theorem cl63 : Callable Tryd.prog 63 := ⟨Tryd.f63, Tryd.func63, by kernel_rfl, by kernel_rfl⟩
theorem cl76 : Callable Tryd.prog 76 := ⟨Tryd.f76, Tryd.func76, by kernel_rfl, by kernel_rfl⟩
theorem fd35_0 : fldOf Tryd.prog 35 0 = some (0, 3, 1) := by kernel_rfl
theorem fd35_1 : fldOf Tryd.prog 35 1 = some (1, 3, 1) := by kernel_rfl
theorem fd35_2 : fldOf Tryd.prog 35 2 = some (2, 3, 1) := by kernel_rfl
theorem fd35_3 : fldOf Tryd.prog 35 3 = some (3, 3, 1) := by kernel_rfl
theorem fd35_4 : fldOf Tryd.prog 35 4 = some (4, 2, 1) := by kernel_rfl
theorem fd35_5 : fldOf Tryd.prog 35 5 = some (5, 3, 1) := by kernel_rfl
theorem fd35_6 : fldOf Tryd.prog 35 6 = some (6, 4, 1) := by kernel_rfl
theorem fd35_7 : fldOf Tryd.prog 35 7 = some (7, 3, 1) := by kernel_rfl
theorem fd35_8 : fldOf Tryd.prog 35 8 = some (8, 2, 1) := by kernel_rfl
theorem fl35 : flds Tryd.prog 35 = some [(0, 1), (1, 1), (2, 1), (3, 1), (4, 1), (5, 1), (6, 1), (7, 1), (8, 1)] := by kernel_rfl
theorem ks35 : kindsOf Tryd.prog 35 = some [.int, .int, .int, .int, .int, .int, .bool, .int, .int] := by kernel_rfl
theorem mix : Tryd.prog.follows .mixedOrders = true := by kernel_rfl
theorem sz119 : szOf Tryd.prog 119 = some 14 := by kernel_rfl
theorem sz2 : szOf Tryd.prog 2 = some 1 := by kernel_rfl
theorem sz3 : szOf Tryd.prog 3 = some 1 := by kernel_rfl
theorem sz35 : szOf Tryd.prog 35 = some 9 := by kernel_rfl
theorem sz4 : szOf Tryd.prog 4 = some 1 := by kernel_rfl
theorem zr119 : zeroOf Tryd.prog 119 = some (.agg #[.string .empty, .string .empty, .string .empty, .string .empty, .string .empty, .string .empty, .string .empty, .string .empty, .string .empty, .string .empty, .string .empty, .string .empty, .string .empty, .string .empty]) := by kernel_rfl
theorem zr2 : zeroOf Tryd.prog 2 = some (.int .i64 0) := by kernel_rfl
theorem zr35 : zeroOf Tryd.prog 35 = some (.agg #[.int .i64 0, .int .i64 0, .int .i64 0, .int .i64 0, .int .i64 0, .int .i64 0, .bool false, .int .i64 0, .int .i64 0]) := by kernel_rfl
section
variable {W0 : World}
set_option maxRecDepth 100000 in
set_option maxHeartbeats 400000 in
theorem is_s (k : Int) (H : SHeap) : AC Tryd.prog W0 76 [.int .i64 k] H (fun v H' => v = .bool (decide (1 ≤ k ∧ k ≤ 13)) ∧ H' = H) := by
  refine ac_of Tryd.func76 rfl rfl rfl ?_
  refine aw_seq_region ?_
  refine sr_as ?_
  refine sr_nil ?_
  refine aw_kp [0, 2] ?_
  refine aw_seq_region ?_
  refine sr_mv ?_
  refine sr_c (x_ge rfl rfl) (fun h1 => ?_) (fun h1 => ?_)
  · refine sr_mv ?_
    refine sr_ry (x_move rfl) ?_
    refine sr_cy (x_le rfl rfl) (fun h2 => ?_) (fun h2 => ?_)
    · refine sr_rd (x_pick_t rfl rfl rfl) ?_
      refine sr_as ?_
      refine sr_nil ?_
      refine aw_kp [2] ?_
      refine aw_ret ?_
      show ∃ v H2, ResV _ _ _ _ _ _ v ∧ Sub H2 _ ∧ _
      exact ⟨_, H, resV rfl (.cons rfl .nil), (by repeat (first | exact Sub.refl _ | apply Sub.drop)), ⟨congrArg Value.bool (by first | exact (decide_eq_true (by omega)).symm | exact (decide_eq_false (by omega)).symm), rfl⟩⟩
    · refine sr_rd (x_pick_t rfl rfl rfl) ?_
      refine sr_as ?_
      refine sr_nil ?_
      refine aw_kp [2] ?_
      refine aw_ret ?_
      show ∃ v H2, ResV _ _ _ _ _ _ v ∧ Sub H2 _ ∧ _
      exact ⟨_, H, resV rfl (.cons rfl .nil), (by repeat (first | exact Sub.refl _ | apply Sub.drop)), ⟨congrArg Value.bool (by first | exact (decide_eq_true (by omega)).symm | exact (decide_eq_false (by omega)).symm), rfl⟩⟩
  · refine sr_mv ?_
    refine sr_sk ?_
    refine sr_sk ?_
    refine sr_rd (x_pick_f rfl rfl rfl) ?_
    refine sr_as ?_
    refine sr_nil ?_
    refine aw_kp [2] ?_
    refine aw_ret ?_
    show ∃ v H2, ResV _ _ _ _ _ _ v ∧ Sub H2 _ ∧ _
    exact ⟨_, H, resV rfl (.cons rfl .nil), (by repeat (first | exact Sub.refl _ | apply Sub.drop)), ⟨congrArg Value.bool (by first | exact (decide_eq_true (by omega)).symm | exact (decide_eq_false (by omega)).symm), rfl⟩⟩
set_option maxRecDepth 100000 in
set_option maxHeartbeats 400000 in
theorem word_s (k : Int) (H : SHeap) : AC Tryd.prog W0 54 [.int .i64 k] H (fun v H' => v = .string (bs (wordB k)) ∧ H' = H) := by
  refine ac_of Tryd.func54 rfl rfl rfl ?_
  refine aw_seq_region ?_
  refine sr_as ?_
  refine sr_nil ?_
  refine aw_kp [0, 2] ?_
  refine aw_seq_region ?_
  refine sr_rd (x_buildA zr119 rfl Tryd.underlying119 sz9 Parts.auto Fill.auto) ?_
  refine sr_new rfl (wtd_none rfl) rfl (x_alloc zr119 rfl) ?_
  intro r1_1 hr1_1 gr1_1
  refine sr_x0 rfl (wtd_none rfl) (x_store sz119 rfl rfl rfl rfl rfl Repl.auto Spl.auto) ?_
  refine sr_nil ?_
  refine aw_kp [0, 2, 3] ?_
  refine aw_seq ?_
  refine aw_seq_region ?_
  refine sr_mv ?_
  refine sr_d rfl (wtd_none rfl) rfl (opS_call rfl rfl rfl rfl cl76 (is_s k _)) ?_
  rintro _ H9 ⟨rfl, rfl⟩
  generalize hd : decide (1 ≤ k ∧ k ≤ 13) = d1
  cases d1
  · refine sr_rd (x_not rfl) ?_
    refine sr_nil ?_
    refine aw_kp [0, 2, 3, 7] ?_
    refine aw_true rfl ?_
    refine aw_seq_region ?_
    refine sr_as ?_
    refine sr_nil ?_
    refine aw_kp [0, 2, 3] ?_
    refine aw_ret ?_
    show ∃ v H2, ResV _ _ _ _ _ _ v ∧ Sub H2 _ ∧ _
    exact ⟨_, H, resV rfl (.cons rfl .nil), Sub.autoP, (by first | exact ⟨rfl, rfl⟩ | exact ⟨congrArg (fun l => Value.string (bs l)) (if_neg (of_decide_eq_false hd)).symm, rfl⟩)⟩
  · refine sr_rd (x_not rfl) ?_
    refine sr_nil ?_
    refine aw_kp [0, 2, 3, 7] ?_
    refine aw_false rfl ?_
    refine aw_skip ?_
    show AW _ _ _ _ _ _ _
    refine aw_seq_region ?_
    have hk := of_decide_eq_true hd
    refine sr_mv ?_
    refine sr_rd (x_indexAddrA Tryd.underlying119 sz9 rfl rfl (by omega) (by omega)) ?_
    refine sr_rd (x_load ag9 rfl (cells_get (cells_ext (vs := (wordsL.map fun w => Value.string (bs w))) (n := 14) mauto Ext.auto) _ (by rw [Nat.mul_one]; exact word_get hk.1 hk.2))) ?_
    refine sr_as ?_
    refine sr_nil ?_
    refine aw_kp [2] ?_
    refine aw_ret ?_
    show ∃ v H2, ResV _ _ _ _ _ _ v ∧ Sub H2 _ ∧ _
    exact ⟨_, H, resV rfl (.cons rfl .nil), Sub.autoP, (by first | exact ⟨rfl, rfl⟩ | exact ⟨congrArg (fun l => Value.string (bs l)) (if_neg (of_decide_eq_false hd)).symm, rfl⟩)⟩
set_option maxRecDepth 100000 in
set_option maxHeartbeats 1000000 in
theorem fields_s (r : Req) (H : SHeap) : AC Tryd.prog W0 63 [r.v] H (fun v H' => ∃ a cap E, v = .slice a (fldN r.kind) cap ∧ OwnVec 1 2 (.slice a (fldN r.kind) cap) (fldN r.kind) ((fldB r).flatMap intC) E ∧ H' = E ++ H) := by
  refine ac_of Tryd.func63 rfl rfl rfl ?_
  refine aw_seq_region ?_
  refine sr_new rfl (wtd_none rfl) rfl (x_box rfl rfl) ?_
  intro r0_0 hr0_0 gr0_0
  refine sr_as ?_
  refine sr_nil ?_
  refine aw_kp [1, 2] ?_
  refine aw_seq ?_
  refine aw_seq_region ?_
  refine sr_rd (x_fieldAddr fd35_0 rfl) ?_
  refine sr_rd (x_load ag3 rfl (cells_ext mauto Ext.auto)) ?_
  refine sr_nil ?_
  refine aw_kp [1, 2, 5] ?_
  refine aw_block ?_
  refine aw_seq_region ?_
  refine sr_c (x_eq rfl rfl) (fun h1 => ?_) (fun h1 => ?_)
  · refine sr_as ?_
    refine sr_nil ?_
    refine aw_kp [1, 2, 5, 6] ?_
    refine aw_true rfl ?_
    refine aw_seq_region ?_
    refine sr_rd (x_fieldAddr fd35_2 rfl) ?_
    refine sr_rd (x_load ag3 rfl (cells_ext mauto Ext.auto)) ?_
    refine sr_rd (x_fieldAddr fd35_3 rfl) ?_
    refine sr_rd (x_load ag3 rfl (cells_ext mauto Ext.auto)) ?_
    refine sr_rd (x_fieldAddr fd35_4 rfl) ?_
    refine sr_rd (x_load ag2 rfl (cells_ext mauto Ext.auto)) ?_
    refine sr_rd (x_fieldAddr fd35_5 rfl) ?_
    refine sr_rd (x_load ag3 rfl (cells_ext mauto Ext.auto)) ?_
    refine sr_new rfl (wtd_none rfl) rfl (x_buildSlice Tryd.underlying50 sz2 zr2 rfl rfl rfl rfl Parts.auto Fill.auto) ?_
    intro r3_8 hr3_8 gr3_8
    refine sr_as ?_
    refine sr_nil ?_
    refine aw_kp [1, 2, 3] ?_
    refine aw_seq ?_
    refine aw_seq_region ?_
    refine sr_rd (x_fieldAddr fd35_6 rfl) ?_
    refine sr_rd (x_load ag4 rfl (cells_ext mauto Ext.auto)) ?_
    refine sr_nil ?_
    refine aw_kp [2, 3, 18] ?_
    refine aw_cond rfl (fun hb2 => ?_) (fun hb2 => ?_)
    · refine aw_region ?_
      refine sr_mv ?_
      refine sr_rd (x_indexAddr Tryd.underlying50 sz2 rfl rfl (by omega) (by omega)) ?_
      refine sr_x0 rfl (wtd_none rfl) (x_store sz2 rfl rfl rfl rfl rfl Repl.auto Spl.auto) ?_
      refine sr_nil ?_
      show AW _ _ _ _ _ _ _
      refine aw_seq_region ?_
      refine sr_mv ?_
      refine sr_as ?_
      refine sr_nil ?_
      refine aw_kp [2] ?_
      refine aw_ret ?_
      show ∃ v H2, ResV _ _ _ _ _ _ v ∧ Sub H2 _ ∧ _
      first | (exfalso; omega) | (rw [(show fldN r.kind = 5 by unfold fldN; (repeat (first | rw [if_pos (by omega)] | rw [if_neg (by omega)]))), show fldB r = [r.user, r.width, r.limit, r.prio, 1] by unfold fldB; rw [if_pos (by omega), if_pos (by assumption)]]; exact ⟨_, _, resV rfl (.cons rfl .nil), Sub.autoP, some ⟨r3_8, 0, none⟩, 5, [(r3_8, _)], rfl, .mk (r := r3_8) (n := 5) (cap := 5) (post := []) rfl rfl (by omega) (by omega), rfl⟩) | (rw [(show fldN r.kind = 5 by unfold fldN; (repeat (first | rw [if_pos (by omega)] | rw [if_neg (by omega)]))), show fldB r = [r.user, r.width, r.limit, r.prio, 0] by unfold fldB; rw [if_pos (by omega), if_neg (by simp_all)]]; exact ⟨_, _, resV rfl (.cons rfl .nil), Sub.autoP, some ⟨r3_8, 0, none⟩, 5, [(r3_8, _)], rfl, .mk (r := r3_8) (n := 5) (cap := 5) (post := []) rfl rfl (by omega) (by omega), rfl⟩) | (rw [(show fldN r.kind = 1 by unfold fldN; (repeat (first | rw [if_pos (by omega)] | rw [if_neg (by omega)]))), (show fldB r = [r.id] by unfold fldB; (repeat (first | rw [if_pos (by omega)] | rw [if_neg (by omega)])))]; exact ⟨_, _, resV rfl (.cons rfl .nil), Sub.autoP, some ⟨r12_2, 0, none⟩, 1, [(r12_2, _)], rfl, .mk (r := r12_2) (n := 1) (cap := 1) (post := []) rfl rfl (by omega) (by omega), rfl⟩) | (rw [(show fldN r.kind = 1 by unfold fldN; (repeat (first | rw [if_pos (by omega)] | rw [if_neg (by omega)]))), (show fldB r = [r.node] by unfold fldB; (repeat (first | rw [if_pos (by omega)] | rw [if_neg (by omega)])))]; exact ⟨_, _, resV rfl (.cons rfl .nil), Sub.autoP, some ⟨r15_2, 0, none⟩, 1, [(r15_2, _)], rfl, .mk (r := r15_2) (n := 1) (cap := 1) (post := []) rfl rfl (by omega) (by omega), rfl⟩) | (rw [(show fldN r.kind = 1 by unfold fldN; (repeat (first | rw [if_pos (by omega)] | rw [if_neg (by omega)]))), (show fldB r = [r.by_] by unfold fldB; (repeat (first | rw [if_pos (by omega)] | rw [if_neg (by omega)])))]; exact ⟨_, _, resV rfl (.cons rfl .nil), Sub.autoP, some ⟨r17_2, 0, none⟩, 1, [(r17_2, _)], rfl, .mk (r := r17_2) (n := 1) (cap := 1) (post := []) rfl rfl (by omega) (by omega), rfl⟩) | (rw [(show fldN r.kind = 0 by unfold fldN; (repeat (first | rw [if_pos (by omega)] | rw [if_neg (by omega)]))), (show fldB r = [] by unfold fldB; (repeat (first | rw [if_pos (by omega)] | rw [if_neg (by omega)])))]; exact ⟨_, H, resV rfl (.cons rfl .nil), Sub.autoP, none, 0, [], rfl, .nil, rfl⟩)
    · refine aw_skip ?_
      show AW _ _ _ _ _ _ _
      refine aw_seq_region ?_
      refine sr_mv ?_
      refine sr_as ?_
      refine sr_nil ?_
      refine aw_kp [2] ?_
      refine aw_ret ?_
      show ∃ v H2, ResV _ _ _ _ _ _ v ∧ Sub H2 _ ∧ _
      first | (exfalso; omega) | (rw [(show fldN r.kind = 5 by unfold fldN; (repeat (first | rw [if_pos (by omega)] | rw [if_neg (by omega)]))), show fldB r = [r.user, r.width, r.limit, r.prio, 1] by unfold fldB; rw [if_pos (by omega), if_pos (by assumption)]]; exact ⟨_, _, resV rfl (.cons rfl .nil), Sub.autoP, some ⟨r3_8, 0, none⟩, 5, [(r3_8, _)], rfl, .mk (r := r3_8) (n := 5) (cap := 5) (post := []) rfl rfl (by omega) (by omega), rfl⟩) | (rw [(show fldN r.kind = 5 by unfold fldN; (repeat (first | rw [if_pos (by omega)] | rw [if_neg (by omega)]))), show fldB r = [r.user, r.width, r.limit, r.prio, 0] by unfold fldB; rw [if_pos (by omega), if_neg (by simp_all)]]; exact ⟨_, _, resV rfl (.cons rfl .nil), Sub.autoP, some ⟨r3_8, 0, none⟩, 5, [(r3_8, _)], rfl, .mk (r := r3_8) (n := 5) (cap := 5) (post := []) rfl rfl (by omega) (by omega), rfl⟩) | (rw [(show fldN r.kind = 1 by unfold fldN; (repeat (first | rw [if_pos (by omega)] | rw [if_neg (by omega)]))), (show fldB r = [r.id] by unfold fldB; (repeat (first | rw [if_pos (by omega)] | rw [if_neg (by omega)])))]; exact ⟨_, _, resV rfl (.cons rfl .nil), Sub.autoP, some ⟨r12_2, 0, none⟩, 1, [(r12_2, _)], rfl, .mk (r := r12_2) (n := 1) (cap := 1) (post := []) rfl rfl (by omega) (by omega), rfl⟩) | (rw [(show fldN r.kind = 1 by unfold fldN; (repeat (first | rw [if_pos (by omega)] | rw [if_neg (by omega)]))), (show fldB r = [r.node] by unfold fldB; (repeat (first | rw [if_pos (by omega)] | rw [if_neg (by omega)])))]; exact ⟨_, _, resV rfl (.cons rfl .nil), Sub.autoP, some ⟨r15_2, 0, none⟩, 1, [(r15_2, _)], rfl, .mk (r := r15_2) (n := 1) (cap := 1) (post := []) rfl rfl (by omega) (by omega), rfl⟩) | (rw [(show fldN r.kind = 1 by unfold fldN; (repeat (first | rw [if_pos (by omega)] | rw [if_neg (by omega)]))), (show fldB r = [r.by_] by unfold fldB; (repeat (first | rw [if_pos (by omega)] | rw [if_neg (by omega)])))]; exact ⟨_, _, resV rfl (.cons rfl .nil), Sub.autoP, some ⟨r17_2, 0, none⟩, 1, [(r17_2, _)], rfl, .mk (r := r17_2) (n := 1) (cap := 1) (post := []) rfl rfl (by omega) (by omega), rfl⟩) | (rw [(show fldN r.kind = 0 by unfold fldN; (repeat (first | rw [if_pos (by omega)] | rw [if_neg (by omega)]))), (show fldB r = [] by unfold fldB; (repeat (first | rw [if_pos (by omega)] | rw [if_neg (by omega)])))]; exact ⟨_, H, resV rfl (.cons rfl .nil), Sub.autoP, none, 0, [], rfl, .nil, rfl⟩)
  · refine sr_as ?_
    refine sr_nil ?_
    refine aw_kp [1, 2, 5, 6] ?_
    refine aw_false rfl ?_
    refine aw_seq ?_
    refine aw_seq_region ?_
    refine sr_c (x_eq rfl rfl) (fun h3 => ?_) (fun h3 => ?_)
    · refine sr_as ?_
      refine sr_nil ?_
      refine aw_kp [1, 2, 5, 22] ?_
      refine aw_true rfl ?_
      refine aw_skip ?_
      show AW _ _ _ _ _ _ _
      refine aw_true rfl ?_
      refine aw_seq_region ?_
      refine sr_rd (x_fieldAddr fd35_1 rfl) ?_
      refine sr_rd (x_load ag3 rfl (cells_ext mauto Ext.auto)) ?_
      refine sr_new rfl (wtd_none rfl) rfl (x_buildSlice Tryd.underlying50 sz2 zr2 rfl rfl rfl rfl Parts.auto Fill.auto) ?_
      intro r12_2 hr12_2 gr12_2
      refine sr_as ?_
      refine sr_nil ?_
      refine aw_kp [2] ?_
      refine aw_ret ?_
      show ∃ v H2, ResV _ _ _ _ _ _ v ∧ Sub H2 _ ∧ _
      first | (exfalso; omega) | (rw [(show fldN r.kind = 5 by unfold fldN; (repeat (first | rw [if_pos (by omega)] | rw [if_neg (by omega)]))), show fldB r = [r.user, r.width, r.limit, r.prio, 1] by unfold fldB; rw [if_pos (by omega), if_pos (by assumption)]]; exact ⟨_, _, resV rfl (.cons rfl .nil), Sub.autoP, some ⟨r3_8, 0, none⟩, 5, [(r3_8, _)], rfl, .mk (r := r3_8) (n := 5) (cap := 5) (post := []) rfl rfl (by omega) (by omega), rfl⟩) | (rw [(show fldN r.kind = 5 by unfold fldN; (repeat (first | rw [if_pos (by omega)] | rw [if_neg (by omega)]))), show fldB r = [r.user, r.width, r.limit, r.prio, 0] by unfold fldB; rw [if_pos (by omega), if_neg (by simp_all)]]; exact ⟨_, _, resV rfl (.cons rfl .nil), Sub.autoP, some ⟨r3_8, 0, none⟩, 5, [(r3_8, _)], rfl, .mk (r := r3_8) (n := 5) (cap := 5) (post := []) rfl rfl (by omega) (by omega), rfl⟩) | (rw [(show fldN r.kind = 1 by unfold fldN; (repeat (first | rw [if_pos (by omega)] | rw [if_neg (by omega)]))), (show fldB r = [r.id] by unfold fldB; (repeat (first | rw [if_pos (by omega)] | rw [if_neg (by omega)])))]; exact ⟨_, _, resV rfl (.cons rfl .nil), Sub.autoP, some ⟨r12_2, 0, none⟩, 1, [(r12_2, _)], rfl, .mk (r := r12_2) (n := 1) (cap := 1) (post := []) rfl rfl (by omega) (by omega), rfl⟩) | (rw [(show fldN r.kind = 1 by unfold fldN; (repeat (first | rw [if_pos (by omega)] | rw [if_neg (by omega)]))), (show fldB r = [r.node] by unfold fldB; (repeat (first | rw [if_pos (by omega)] | rw [if_neg (by omega)])))]; exact ⟨_, _, resV rfl (.cons rfl .nil), Sub.autoP, some ⟨r15_2, 0, none⟩, 1, [(r15_2, _)], rfl, .mk (r := r15_2) (n := 1) (cap := 1) (post := []) rfl rfl (by omega) (by omega), rfl⟩) | (rw [(show fldN r.kind = 1 by unfold fldN; (repeat (first | rw [if_pos (by omega)] | rw [if_neg (by omega)]))), (show fldB r = [r.by_] by unfold fldB; (repeat (first | rw [if_pos (by omega)] | rw [if_neg (by omega)])))]; exact ⟨_, _, resV rfl (.cons rfl .nil), Sub.autoP, some ⟨r17_2, 0, none⟩, 1, [(r17_2, _)], rfl, .mk (r := r17_2) (n := 1) (cap := 1) (post := []) rfl rfl (by omega) (by omega), rfl⟩) | (rw [(show fldN r.kind = 0 by unfold fldN; (repeat (first | rw [if_pos (by omega)] | rw [if_neg (by omega)]))), (show fldB r = [] by unfold fldB; (repeat (first | rw [if_pos (by omega)] | rw [if_neg (by omega)])))]; exact ⟨_, H, resV rfl (.cons rfl .nil), Sub.autoP, none, 0, [], rfl, .nil, rfl⟩)
    · refine sr_as ?_
      refine sr_nil ?_
      refine aw_kp [1, 2, 5, 22] ?_
      refine aw_false rfl ?_
      refine aw_seq_region ?_
      refine sr_c (x_eq rfl rfl) (fun h4 => ?_) (fun h4 => ?_)
      · refine sr_as ?_
        refine sr_nil ?_
        refine aw_kp [1, 2, 5, 22] ?_
        refine aw_true rfl ?_
        refine aw_skip ?_
        show AW _ _ _ _ _ _ _
        refine aw_true rfl ?_
        refine aw_seq_region ?_
        refine sr_rd (x_fieldAddr fd35_1 rfl) ?_
        refine sr_rd (x_load ag3 rfl (cells_ext mauto Ext.auto)) ?_
        refine sr_new rfl (wtd_none rfl) rfl (x_buildSlice Tryd.underlying50 sz2 zr2 rfl rfl rfl rfl Parts.auto Fill.auto) ?_
        intro r12_2 hr12_2 gr12_2
        refine sr_as ?_
        refine sr_nil ?_
        refine aw_kp [2] ?_
        refine aw_ret ?_
        show ∃ v H2, ResV _ _ _ _ _ _ v ∧ Sub H2 _ ∧ _
        first | (exfalso; omega) | (rw [(show fldN r.kind = 5 by unfold fldN; (repeat (first | rw [if_pos (by omega)] | rw [if_neg (by omega)]))), show fldB r = [r.user, r.width, r.limit, r.prio, 1] by unfold fldB; rw [if_pos (by omega), if_pos (by assumption)]]; exact ⟨_, _, resV rfl (.cons rfl .nil), Sub.autoP, some ⟨r3_8, 0, none⟩, 5, [(r3_8, _)], rfl, .mk (r := r3_8) (n := 5) (cap := 5) (post := []) rfl rfl (by omega) (by omega), rfl⟩) | (rw [(show fldN r.kind = 5 by unfold fldN; (repeat (first | rw [if_pos (by omega)] | rw [if_neg (by omega)]))), show fldB r = [r.user, r.width, r.limit, r.prio, 0] by unfold fldB; rw [if_pos (by omega), if_neg (by simp_all)]]; exact ⟨_, _, resV rfl (.cons rfl .nil), Sub.autoP, some ⟨r3_8, 0, none⟩, 5, [(r3_8, _)], rfl, .mk (r := r3_8) (n := 5) (cap := 5) (post := []) rfl rfl (by omega) (by omega), rfl⟩) | (rw [(show fldN r.kind = 1 by unfold fldN; (repeat (first | rw [if_pos (by omega)] | rw [if_neg (by omega)]))), (show fldB r = [r.id] by unfold fldB; (repeat (first | rw [if_pos (by omega)] | rw [if_neg (by omega)])))]; exact ⟨_, _, resV rfl (.cons rfl .nil), Sub.autoP, some ⟨r12_2, 0, none⟩, 1, [(r12_2, _)], rfl, .mk (r := r12_2) (n := 1) (cap := 1) (post := []) rfl rfl (by omega) (by omega), rfl⟩) | (rw [(show fldN r.kind = 1 by unfold fldN; (repeat (first | rw [if_pos (by omega)] | rw [if_neg (by omega)]))), (show fldB r = [r.node] by unfold fldB; (repeat (first | rw [if_pos (by omega)] | rw [if_neg (by omega)])))]; exact ⟨_, _, resV rfl (.cons rfl .nil), Sub.autoP, some ⟨r15_2, 0, none⟩, 1, [(r15_2, _)], rfl, .mk (r := r15_2) (n := 1) (cap := 1) (post := []) rfl rfl (by omega) (by omega), rfl⟩) | (rw [(show fldN r.kind = 1 by unfold fldN; (repeat (first | rw [if_pos (by omega)] | rw [if_neg (by omega)]))), (show fldB r = [r.by_] by unfold fldB; (repeat (first | rw [if_pos (by omega)] | rw [if_neg (by omega)])))]; exact ⟨_, _, resV rfl (.cons rfl .nil), Sub.autoP, some ⟨r17_2, 0, none⟩, 1, [(r17_2, _)], rfl, .mk (r := r17_2) (n := 1) (cap := 1) (post := []) rfl rfl (by omega) (by omega), rfl⟩) | (rw [(show fldN r.kind = 0 by unfold fldN; (repeat (first | rw [if_pos (by omega)] | rw [if_neg (by omega)]))), (show fldB r = [] by unfold fldB; (repeat (first | rw [if_pos (by omega)] | rw [if_neg (by omega)])))]; exact ⟨_, H, resV rfl (.cons rfl .nil), Sub.autoP, none, 0, [], rfl, .nil, rfl⟩)
      · refine sr_as ?_
        refine sr_nil ?_
        refine aw_kp [1, 2, 5, 22] ?_
        refine aw_false rfl ?_
        refine aw_seq_region ?_
        refine sr_c (x_eq rfl rfl) (fun h5 => ?_) (fun h5 => ?_)
        · refine sr_as ?_
          refine sr_nil ?_
          refine aw_kp [1, 2, 5, 22] ?_
          refine aw_true rfl ?_
          refine aw_skip ?_
          show AW _ _ _ _ _ _ _
          refine aw_true rfl ?_
          refine aw_seq_region ?_
          refine sr_rd (x_fieldAddr fd35_1 rfl) ?_
          refine sr_rd (x_load ag3 rfl (cells_ext mauto Ext.auto)) ?_
          refine sr_new rfl (wtd_none rfl) rfl (x_buildSlice Tryd.underlying50 sz2 zr2 rfl rfl rfl rfl Parts.auto Fill.auto) ?_
          intro r12_2 hr12_2 gr12_2
          refine sr_as ?_
          refine sr_nil ?_
          refine aw_kp [2] ?_
          refine aw_ret ?_
          show ∃ v H2, ResV _ _ _ _ _ _ v ∧ Sub H2 _ ∧ _
          first | (exfalso; omega) | (rw [(show fldN r.kind = 5 by unfold fldN; (repeat (first | rw [if_pos (by omega)] | rw [if_neg (by omega)]))), show fldB r = [r.user, r.width, r.limit, r.prio, 1] by unfold fldB; rw [if_pos (by omega), if_pos (by assumption)]]; exact ⟨_, _, resV rfl (.cons rfl .nil), Sub.autoP, some ⟨r3_8, 0, none⟩, 5, [(r3_8, _)], rfl, .mk (r := r3_8) (n := 5) (cap := 5) (post := []) rfl rfl (by omega) (by omega), rfl⟩) | (rw [(show fldN r.kind = 5 by unfold fldN; (repeat (first | rw [if_pos (by omega)] | rw [if_neg (by omega)]))), show fldB r = [r.user, r.width, r.limit, r.prio, 0] by unfold fldB; rw [if_pos (by omega), if_neg (by simp_all)]]; exact ⟨_, _, resV rfl (.cons rfl .nil), Sub.autoP, some ⟨r3_8, 0, none⟩, 5, [(r3_8, _)], rfl, .mk (r := r3_8) (n := 5) (cap := 5) (post := []) rfl rfl (by omega) (by omega), rfl⟩) | (rw [(show fldN r.kind = 1 by unfold fldN; (repeat (first | rw [if_pos (by omega)] | rw [if_neg (by omega)]))), (show fldB r = [r.id] by unfold fldB; (repeat (first | rw [if_pos (by omega)] | rw [if_neg (by omega)])))]; exact ⟨_, _, resV rfl (.cons rfl .nil), Sub.autoP, some ⟨r12_2, 0, none⟩, 1, [(r12_2, _)], rfl, .mk (r := r12_2) (n := 1) (cap := 1) (post := []) rfl rfl (by omega) (by omega), rfl⟩) | (rw [(show fldN r.kind = 1 by unfold fldN; (repeat (first | rw [if_pos (by omega)] | rw [if_neg (by omega)]))), (show fldB r = [r.node] by unfold fldB; (repeat (first | rw [if_pos (by omega)] | rw [if_neg (by omega)])))]; exact ⟨_, _, resV rfl (.cons rfl .nil), Sub.autoP, some ⟨r15_2, 0, none⟩, 1, [(r15_2, _)], rfl, .mk (r := r15_2) (n := 1) (cap := 1) (post := []) rfl rfl (by omega) (by omega), rfl⟩) | (rw [(show fldN r.kind = 1 by unfold fldN; (repeat (first | rw [if_pos (by omega)] | rw [if_neg (by omega)]))), (show fldB r = [r.by_] by unfold fldB; (repeat (first | rw [if_pos (by omega)] | rw [if_neg (by omega)])))]; exact ⟨_, _, resV rfl (.cons rfl .nil), Sub.autoP, some ⟨r17_2, 0, none⟩, 1, [(r17_2, _)], rfl, .mk (r := r17_2) (n := 1) (cap := 1) (post := []) rfl rfl (by omega) (by omega), rfl⟩) | (rw [(show fldN r.kind = 0 by unfold fldN; (repeat (first | rw [if_pos (by omega)] | rw [if_neg (by omega)]))), (show fldB r = [] by unfold fldB; (repeat (first | rw [if_pos (by omega)] | rw [if_neg (by omega)])))]; exact ⟨_, H, resV rfl (.cons rfl .nil), Sub.autoP, none, 0, [], rfl, .nil, rfl⟩)
        · refine sr_as ?_
          refine sr_nil ?_
          refine aw_kp [1, 2, 5, 22] ?_
          refine aw_false rfl ?_
          refine aw_seq_region ?_
          refine sr_c (x_eq rfl rfl) (fun h6 => ?_) (fun h6 => ?_)
          · refine sr_as ?_
            refine sr_nil ?_
            refine aw_kp [1, 2, 5, 22] ?_
            refine aw_true rfl ?_
            refine aw_skip ?_
            show AW _ _ _ _ _ _ _
            refine aw_true rfl ?_
            refine aw_seq_region ?_
            refine sr_rd (x_fieldAddr fd35_1 rfl) ?_
            refine sr_rd (x_load ag3 rfl (cells_ext mauto Ext.auto)) ?_
            refine sr_new rfl (wtd_none rfl) rfl (x_buildSlice Tryd.underlying50 sz2 zr2 rfl rfl rfl rfl Parts.auto Fill.auto) ?_
            intro r12_2 hr12_2 gr12_2
            refine sr_as ?_
            refine sr_nil ?_
            refine aw_kp [2] ?_
            refine aw_ret ?_
            show ∃ v H2, ResV _ _ _ _ _ _ v ∧ Sub H2 _ ∧ _
            first | (exfalso; omega) | (rw [(show fldN r.kind = 5 by unfold fldN; (repeat (first | rw [if_pos (by omega)] | rw [if_neg (by omega)]))), show fldB r = [r.user, r.width, r.limit, r.prio, 1] by unfold fldB; rw [if_pos (by omega), if_pos (by assumption)]]; exact ⟨_, _, resV rfl (.cons rfl .nil), Sub.autoP, some ⟨r3_8, 0, none⟩, 5, [(r3_8, _)], rfl, .mk (r := r3_8) (n := 5) (cap := 5) (post := []) rfl rfl (by omega) (by omega), rfl⟩) | (rw [(show fldN r.kind = 5 by unfold fldN; (repeat (first | rw [if_pos (by omega)] | rw [if_neg (by omega)]))), show fldB r = [r.user, r.width, r.limit, r.prio, 0] by unfold fldB; rw [if_pos (by omega), if_neg (by simp_all)]]; exact ⟨_, _, resV rfl (.cons rfl .nil), Sub.autoP, some ⟨r3_8, 0, none⟩, 5, [(r3_8, _)], rfl, .mk (r := r3_8) (n := 5) (cap := 5) (post := []) rfl rfl (by omega) (by omega), rfl⟩) | (rw [(show fldN r.kind = 1 by unfold fldN; (repeat (first | rw [if_pos (by omega)] | rw [if_neg (by omega)]))), (show fldB r = [r.id] by unfold fldB; (repeat (first | rw [if_pos (by omega)] | rw [if_neg (by omega)])))]; exact ⟨_, _, resV rfl (.cons rfl .nil), Sub.autoP, some ⟨r12_2, 0, none⟩, 1, [(r12_2, _)], rfl, .mk (r := r12_2) (n := 1) (cap := 1) (post := []) rfl rfl (by omega) (by omega), rfl⟩) | (rw [(show fldN r.kind = 1 by unfold fldN; (repeat (first | rw [if_pos (by omega)] | rw [if_neg (by omega)]))), (show fldB r = [r.node] by unfold fldB; (repeat (first | rw [if_pos (by omega)] | rw [if_neg (by omega)])))]; exact ⟨_, _, resV rfl (.cons rfl .nil), Sub.autoP, some ⟨r15_2, 0, none⟩, 1, [(r15_2, _)], rfl, .mk (r := r15_2) (n := 1) (cap := 1) (post := []) rfl rfl (by omega) (by omega), rfl⟩) | (rw [(show fldN r.kind = 1 by unfold fldN; (repeat (first | rw [if_pos (by omega)] | rw [if_neg (by omega)]))), (show fldB r = [r.by_] by unfold fldB; (repeat (first | rw [if_pos (by omega)] | rw [if_neg (by omega)])))]; exact ⟨_, _, resV rfl (.cons rfl .nil), Sub.autoP, some ⟨r17_2, 0, none⟩, 1, [(r17_2, _)], rfl, .mk (r := r17_2) (n := 1) (cap := 1) (post := []) rfl rfl (by omega) (by omega), rfl⟩) | (rw [(show fldN r.kind = 0 by unfold fldN; (repeat (first | rw [if_pos (by omega)] | rw [if_neg (by omega)]))), (show fldB r = [] by unfold fldB; (repeat (first | rw [if_pos (by omega)] | rw [if_neg (by omega)])))]; exact ⟨_, H, resV rfl (.cons rfl .nil), Sub.autoP, none, 0, [], rfl, .nil, rfl⟩)
          · refine sr_as ?_
            refine sr_nil ?_
            refine aw_kp [1, 2, 5, 22] ?_
            refine aw_false rfl ?_
            refine aw_region ?_
            refine sr_c (x_eq rfl rfl) (fun h7 => ?_) (fun h7 => ?_)
            · refine sr_as ?_
              refine sr_nil ?_
              show AW _ _ _ _ _ _ _
              refine aw_true rfl ?_
              refine aw_seq_region ?_
              refine sr_rd (x_fieldAddr fd35_1 rfl) ?_
              refine sr_rd (x_load ag3 rfl (cells_ext mauto Ext.auto)) ?_
              refine sr_new rfl (wtd_none rfl) rfl (x_buildSlice Tryd.underlying50 sz2 zr2 rfl rfl rfl rfl Parts.auto Fill.auto) ?_
              intro r12_2 hr12_2 gr12_2
              refine sr_as ?_
              refine sr_nil ?_
              refine aw_kp [2] ?_
              refine aw_ret ?_
              show ∃ v H2, ResV _ _ _ _ _ _ v ∧ Sub H2 _ ∧ _
              first | (exfalso; omega) | (rw [(show fldN r.kind = 5 by unfold fldN; (repeat (first | rw [if_pos (by omega)] | rw [if_neg (by omega)]))), show fldB r = [r.user, r.width, r.limit, r.prio, 1] by unfold fldB; rw [if_pos (by omega), if_pos (by assumption)]]; exact ⟨_, _, resV rfl (.cons rfl .nil), Sub.autoP, some ⟨r3_8, 0, none⟩, 5, [(r3_8, _)], rfl, .mk (r := r3_8) (n := 5) (cap := 5) (post := []) rfl rfl (by omega) (by omega), rfl⟩) | (rw [(show fldN r.kind = 5 by unfold fldN; (repeat (first | rw [if_pos (by omega)] | rw [if_neg (by omega)]))), show fldB r = [r.user, r.width, r.limit, r.prio, 0] by unfold fldB; rw [if_pos (by omega), if_neg (by simp_all)]]; exact ⟨_, _, resV rfl (.cons rfl .nil), Sub.autoP, some ⟨r3_8, 0, none⟩, 5, [(r3_8, _)], rfl, .mk (r := r3_8) (n := 5) (cap := 5) (post := []) rfl rfl (by omega) (by omega), rfl⟩) | (rw [(show fldN r.kind = 1 by unfold fldN; (repeat (first | rw [if_pos (by omega)] | rw [if_neg (by omega)]))), (show fldB r = [r.id] by unfold fldB; (repeat (first | rw [if_pos (by omega)] | rw [if_neg (by omega)])))]; exact ⟨_, _, resV rfl (.cons rfl .nil), Sub.autoP, some ⟨r12_2, 0, none⟩, 1, [(r12_2, _)], rfl, .mk (r := r12_2) (n := 1) (cap := 1) (post := []) rfl rfl (by omega) (by omega), rfl⟩) | (rw [(show fldN r.kind = 1 by unfold fldN; (repeat (first | rw [if_pos (by omega)] | rw [if_neg (by omega)]))), (show fldB r = [r.node] by unfold fldB; (repeat (first | rw [if_pos (by omega)] | rw [if_neg (by omega)])))]; exact ⟨_, _, resV rfl (.cons rfl .nil), Sub.autoP, some ⟨r15_2, 0, none⟩, 1, [(r15_2, _)], rfl, .mk (r := r15_2) (n := 1) (cap := 1) (post := []) rfl rfl (by omega) (by omega), rfl⟩) | (rw [(show fldN r.kind = 1 by unfold fldN; (repeat (first | rw [if_pos (by omega)] | rw [if_neg (by omega)]))), (show fldB r = [r.by_] by unfold fldB; (repeat (first | rw [if_pos (by omega)] | rw [if_neg (by omega)])))]; exact ⟨_, _, resV rfl (.cons rfl .nil), Sub.autoP, some ⟨r17_2, 0, none⟩, 1, [(r17_2, _)], rfl, .mk (r := r17_2) (n := 1) (cap := 1) (post := []) rfl rfl (by omega) (by omega), rfl⟩) | (rw [(show fldN r.kind = 0 by unfold fldN; (repeat (first | rw [if_pos (by omega)] | rw [if_neg (by omega)]))), (show fldB r = [] by unfold fldB; (repeat (first | rw [if_pos (by omega)] | rw [if_neg (by omega)])))]; exact ⟨_, H, resV rfl (.cons rfl .nil), Sub.autoP, none, 0, [], rfl, .nil, rfl⟩)
            · refine sr_as ?_
              refine sr_nil ?_
              show AW _ _ _ _ _ _ _
              refine aw_false rfl ?_
              refine aw_seq ?_
              refine aw_seq_region ?_
              refine sr_c (x_eq rfl rfl) (fun h8 => ?_) (fun h8 => ?_)
              · refine sr_as ?_
                refine sr_nil ?_
                refine aw_kp [1, 2, 5, 31] ?_
                refine aw_true rfl ?_
                refine aw_skip ?_
                show AW _ _ _ _ _ _ _
                refine aw_true rfl ?_
                refine aw_seq_region ?_
                refine sr_rd (x_fieldAddr fd35_7 rfl) ?_
                refine sr_rd (x_load ag3 rfl (cells_ext mauto Ext.auto)) ?_
                refine sr_new rfl (wtd_none rfl) rfl (x_buildSlice Tryd.underlying50 sz2 zr2 rfl rfl rfl rfl Parts.auto Fill.auto) ?_
                intro r15_2 hr15_2 gr15_2
                refine sr_as ?_
                refine sr_nil ?_
                refine aw_kp [2] ?_
                refine aw_ret ?_
                show ∃ v H2, ResV _ _ _ _ _ _ v ∧ Sub H2 _ ∧ _
                first | (exfalso; omega) | (rw [(show fldN r.kind = 5 by unfold fldN; (repeat (first | rw [if_pos (by omega)] | rw [if_neg (by omega)]))), show fldB r = [r.user, r.width, r.limit, r.prio, 1] by unfold fldB; rw [if_pos (by omega), if_pos (by assumption)]]; exact ⟨_, _, resV rfl (.cons rfl .nil), Sub.autoP, some ⟨r3_8, 0, none⟩, 5, [(r3_8, _)], rfl, .mk (r := r3_8) (n := 5) (cap := 5) (post := []) rfl rfl (by omega) (by omega), rfl⟩) | (rw [(show fldN r.kind = 5 by unfold fldN; (repeat (first | rw [if_pos (by omega)] | rw [if_neg (by omega)]))), show fldB r = [r.user, r.width, r.limit, r.prio, 0] by unfold fldB; rw [if_pos (by omega), if_neg (by simp_all)]]; exact ⟨_, _, resV rfl (.cons rfl .nil), Sub.autoP, some ⟨r3_8, 0, none⟩, 5, [(r3_8, _)], rfl, .mk (r := r3_8) (n := 5) (cap := 5) (post := []) rfl rfl (by omega) (by omega), rfl⟩) | (rw [(show fldN r.kind = 1 by unfold fldN; (repeat (first | rw [if_pos (by omega)] | rw [if_neg (by omega)]))), (show fldB r = [r.id] by unfold fldB; (repeat (first | rw [if_pos (by omega)] | rw [if_neg (by omega)])))]; exact ⟨_, _, resV rfl (.cons rfl .nil), Sub.autoP, some ⟨r12_2, 0, none⟩, 1, [(r12_2, _)], rfl, .mk (r := r12_2) (n := 1) (cap := 1) (post := []) rfl rfl (by omega) (by omega), rfl⟩) | (rw [(show fldN r.kind = 1 by unfold fldN; (repeat (first | rw [if_pos (by omega)] | rw [if_neg (by omega)]))), (show fldB r = [r.node] by unfold fldB; (repeat (first | rw [if_pos (by omega)] | rw [if_neg (by omega)])))]; exact ⟨_, _, resV rfl (.cons rfl .nil), Sub.autoP, some ⟨r15_2, 0, none⟩, 1, [(r15_2, _)], rfl, .mk (r := r15_2) (n := 1) (cap := 1) (post := []) rfl rfl (by omega) (by omega), rfl⟩) | (rw [(show fldN r.kind = 1 by unfold fldN; (repeat (first | rw [if_pos (by omega)] | rw [if_neg (by omega)]))), (show fldB r = [r.by_] by unfold fldB; (repeat (first | rw [if_pos (by omega)] | rw [if_neg (by omega)])))]; exact ⟨_, _, resV rfl (.cons rfl .nil), Sub.autoP, some ⟨r17_2, 0, none⟩, 1, [(r17_2, _)], rfl, .mk (r := r17_2) (n := 1) (cap := 1) (post := []) rfl rfl (by omega) (by omega), rfl⟩) | (rw [(show fldN r.kind = 0 by unfold fldN; (repeat (first | rw [if_pos (by omega)] | rw [if_neg (by omega)]))), (show fldB r = [] by unfold fldB; (repeat (first | rw [if_pos (by omega)] | rw [if_neg (by omega)])))]; exact ⟨_, H, resV rfl (.cons rfl .nil), Sub.autoP, none, 0, [], rfl, .nil, rfl⟩)
              · refine sr_as ?_
                refine sr_nil ?_
                refine aw_kp [1, 2, 5, 31] ?_
                refine aw_false rfl ?_
                refine aw_region ?_
                refine sr_c (x_eq rfl rfl) (fun h9 => ?_) (fun h9 => ?_)
                · refine sr_as ?_
                  refine sr_nil ?_
                  show AW _ _ _ _ _ _ _
                  refine aw_true rfl ?_
                  refine aw_seq_region ?_
                  refine sr_rd (x_fieldAddr fd35_7 rfl) ?_
                  refine sr_rd (x_load ag3 rfl (cells_ext mauto Ext.auto)) ?_
                  refine sr_new rfl (wtd_none rfl) rfl (x_buildSlice Tryd.underlying50 sz2 zr2 rfl rfl rfl rfl Parts.auto Fill.auto) ?_
                  intro r15_2 hr15_2 gr15_2
                  refine sr_as ?_
                  refine sr_nil ?_
                  refine aw_kp [2] ?_
                  refine aw_ret ?_
                  show ∃ v H2, ResV _ _ _ _ _ _ v ∧ Sub H2 _ ∧ _
                  first | (exfalso; omega) | (rw [(show fldN r.kind = 5 by unfold fldN; (repeat (first | rw [if_pos (by omega)] | rw [if_neg (by omega)]))), show fldB r = [r.user, r.width, r.limit, r.prio, 1] by unfold fldB; rw [if_pos (by omega), if_pos (by assumption)]]; exact ⟨_, _, resV rfl (.cons rfl .nil), Sub.autoP, some ⟨r3_8, 0, none⟩, 5, [(r3_8, _)], rfl, .mk (r := r3_8) (n := 5) (cap := 5) (post := []) rfl rfl (by omega) (by omega), rfl⟩) | (rw [(show fldN r.kind = 5 by unfold fldN; (repeat (first | rw [if_pos (by omega)] | rw [if_neg (by omega)]))), show fldB r = [r.user, r.width, r.limit, r.prio, 0] by unfold fldB; rw [if_pos (by omega), if_neg (by simp_all)]]; exact ⟨_, _, resV rfl (.cons rfl .nil), Sub.autoP, some ⟨r3_8, 0, none⟩, 5, [(r3_8, _)], rfl, .mk (r := r3_8) (n := 5) (cap := 5) (post := []) rfl rfl (by omega) (by omega), rfl⟩) | (rw [(show fldN r.kind = 1 by unfold fldN; (repeat (first | rw [if_pos (by omega)] | rw [if_neg (by omega)]))), (show fldB r = [r.id] by unfold fldB; (repeat (first | rw [if_pos (by omega)] | rw [if_neg (by omega)])))]; exact ⟨_, _, resV rfl (.cons rfl .nil), Sub.autoP, some ⟨r12_2, 0, none⟩, 1, [(r12_2, _)], rfl, .mk (r := r12_2) (n := 1) (cap := 1) (post := []) rfl rfl (by omega) (by omega), rfl⟩) | (rw [(show fldN r.kind = 1 by unfold fldN; (repeat (first | rw [if_pos (by omega)] | rw [if_neg (by omega)]))), (show fldB r = [r.node] by unfold fldB; (repeat (first | rw [if_pos (by omega)] | rw [if_neg (by omega)])))]; exact ⟨_, _, resV rfl (.cons rfl .nil), Sub.autoP, some ⟨r15_2, 0, none⟩, 1, [(r15_2, _)], rfl, .mk (r := r15_2) (n := 1) (cap := 1) (post := []) rfl rfl (by omega) (by omega), rfl⟩) | (rw [(show fldN r.kind = 1 by unfold fldN; (repeat (first | rw [if_pos (by omega)] | rw [if_neg (by omega)]))), (show fldB r = [r.by_] by unfold fldB; (repeat (first | rw [if_pos (by omega)] | rw [if_neg (by omega)])))]; exact ⟨_, _, resV rfl (.cons rfl .nil), Sub.autoP, some ⟨r17_2, 0, none⟩, 1, [(r17_2, _)], rfl, .mk (r := r17_2) (n := 1) (cap := 1) (post := []) rfl rfl (by omega) (by omega), rfl⟩) | (rw [(show fldN r.kind = 0 by unfold fldN; (repeat (first | rw [if_pos (by omega)] | rw [if_neg (by omega)]))), (show fldB r = [] by unfold fldB; (repeat (first | rw [if_pos (by omega)] | rw [if_neg (by omega)])))]; exact ⟨_, H, resV rfl (.cons rfl .nil), Sub.autoP, none, 0, [], rfl, .nil, rfl⟩)
                · refine sr_as ?_
                  refine sr_nil ?_
                  show AW _ _ _ _ _ _ _
                  refine aw_false rfl ?_
                  refine aw_seq_region ?_
                  refine sr_c (x_eq rfl rfl) (fun h10 => ?_) (fun h10 => ?_)
                  · refine sr_as ?_
                    refine sr_nil ?_
                    refine aw_kp [1, 2, 37] ?_
                    refine aw_true rfl ?_
                    refine aw_seq_region ?_
                    refine sr_rd (x_fieldAddr fd35_8 rfl) ?_
                    refine sr_rd (x_load ag2 rfl (cells_ext mauto Ext.auto)) ?_
                    refine sr_new rfl (wtd_none rfl) rfl (x_buildSlice Tryd.underlying50 sz2 zr2 rfl rfl rfl rfl Parts.auto Fill.auto) ?_
                    intro r17_2 hr17_2 gr17_2
                    refine sr_as ?_
                    refine sr_nil ?_
                    refine aw_kp [2] ?_
                    refine aw_ret ?_
                    show ∃ v H2, ResV _ _ _ _ _ _ v ∧ Sub H2 _ ∧ _
                    first | (exfalso; omega) | (rw [(show fldN r.kind = 5 by unfold fldN; (repeat (first | rw [if_pos (by omega)] | rw [if_neg (by omega)]))), show fldB r = [r.user, r.width, r.limit, r.prio, 1] by unfold fldB; rw [if_pos (by omega), if_pos (by assumption)]]; exact ⟨_, _, resV rfl (.cons rfl .nil), Sub.autoP, some ⟨r3_8, 0, none⟩, 5, [(r3_8, _)], rfl, .mk (r := r3_8) (n := 5) (cap := 5) (post := []) rfl rfl (by omega) (by omega), rfl⟩) | (rw [(show fldN r.kind = 5 by unfold fldN; (repeat (first | rw [if_pos (by omega)] | rw [if_neg (by omega)]))), show fldB r = [r.user, r.width, r.limit, r.prio, 0] by unfold fldB; rw [if_pos (by omega), if_neg (by simp_all)]]; exact ⟨_, _, resV rfl (.cons rfl .nil), Sub.autoP, some ⟨r3_8, 0, none⟩, 5, [(r3_8, _)], rfl, .mk (r := r3_8) (n := 5) (cap := 5) (post := []) rfl rfl (by omega) (by omega), rfl⟩) | (rw [(show fldN r.kind = 1 by unfold fldN; (repeat (first | rw [if_pos (by omega)] | rw [if_neg (by omega)]))), (show fldB r = [r.id] by unfold fldB; (repeat (first | rw [if_pos (by omega)] | rw [if_neg (by omega)])))]; exact ⟨_, _, resV rfl (.cons rfl .nil), Sub.autoP, some ⟨r12_2, 0, none⟩, 1, [(r12_2, _)], rfl, .mk (r := r12_2) (n := 1) (cap := 1) (post := []) rfl rfl (by omega) (by omega), rfl⟩) | (rw [(show fldN r.kind = 1 by unfold fldN; (repeat (first | rw [if_pos (by omega)] | rw [if_neg (by omega)]))), (show fldB r = [r.node] by unfold fldB; (repeat (first | rw [if_pos (by omega)] | rw [if_neg (by omega)])))]; exact ⟨_, _, resV rfl (.cons rfl .nil), Sub.autoP, some ⟨r15_2, 0, none⟩, 1, [(r15_2, _)], rfl, .mk (r := r15_2) (n := 1) (cap := 1) (post := []) rfl rfl (by omega) (by omega), rfl⟩) | (rw [(show fldN r.kind = 1 by unfold fldN; (repeat (first | rw [if_pos (by omega)] | rw [if_neg (by omega)]))), (show fldB r = [r.by_] by unfold fldB; (repeat (first | rw [if_pos (by omega)] | rw [if_neg (by omega)])))]; exact ⟨_, _, resV rfl (.cons rfl .nil), Sub.autoP, some ⟨r17_2, 0, none⟩, 1, [(r17_2, _)], rfl, .mk (r := r17_2) (n := 1) (cap := 1) (post := []) rfl rfl (by omega) (by omega), rfl⟩) | (rw [(show fldN r.kind = 0 by unfold fldN; (repeat (first | rw [if_pos (by omega)] | rw [if_neg (by omega)]))), (show fldB r = [] by unfold fldB; (repeat (first | rw [if_pos (by omega)] | rw [if_neg (by omega)])))]; exact ⟨_, H, resV rfl (.cons rfl .nil), Sub.autoP, none, 0, [], rfl, .nil, rfl⟩)
                  · refine sr_as ?_
                    refine sr_nil ?_
                    refine aw_kp [1, 2, 37] ?_
                    refine aw_false rfl ?_
                    refine aw_skip ?_
                    show AW _ _ _ _ _ _ _
                    refine aw_seq_region ?_
                    refine sr_as ?_
                    refine sr_nil ?_
                    refine aw_kp [2] ?_
                    refine aw_ret ?_
                    show ∃ v H2, ResV _ _ _ _ _ _ v ∧ Sub H2 _ ∧ _
                    first | (exfalso; omega) | (rw [(show fldN r.kind = 5 by unfold fldN; (repeat (first | rw [if_pos (by omega)] | rw [if_neg (by omega)]))), show fldB r = [r.user, r.width, r.limit, r.prio, 1] by unfold fldB; rw [if_pos (by omega), if_pos (by assumption)]]; exact ⟨_, _, resV rfl (.cons rfl .nil), Sub.autoP, some ⟨r3_8, 0, none⟩, 5, [(r3_8, _)], rfl, .mk (r := r3_8) (n := 5) (cap := 5) (post := []) rfl rfl (by omega) (by omega), rfl⟩) | (rw [(show fldN r.kind = 5 by unfold fldN; (repeat (first | rw [if_pos (by omega)] | rw [if_neg (by omega)]))), show fldB r = [r.user, r.width, r.limit, r.prio, 0] by unfold fldB; rw [if_pos (by omega), if_neg (by simp_all)]]; exact ⟨_, _, resV rfl (.cons rfl .nil), Sub.autoP, some ⟨r3_8, 0, none⟩, 5, [(r3_8, _)], rfl, .mk (r := r3_8) (n := 5) (cap := 5) (post := []) rfl rfl (by omega) (by omega), rfl⟩) | (rw [(show fldN r.kind = 1 by unfold fldN; (repeat (first | rw [if_pos (by omega)] | rw [if_neg (by omega)]))), (show fldB r = [r.id] by unfold fldB; (repeat (first | rw [if_pos (by omega)] | rw [if_neg (by omega)])))]; exact ⟨_, _, resV rfl (.cons rfl .nil), Sub.autoP, some ⟨r12_2, 0, none⟩, 1, [(r12_2, _)], rfl, .mk (r := r12_2) (n := 1) (cap := 1) (post := []) rfl rfl (by omega) (by omega), rfl⟩) | (rw [(show fldN r.kind = 1 by unfold fldN; (repeat (first | rw [if_pos (by omega)] | rw [if_neg (by omega)]))), (show fldB r = [r.node] by unfold fldB; (repeat (first | rw [if_pos (by omega)] | rw [if_neg (by omega)])))]; exact ⟨_, _, resV rfl (.cons rfl .nil), Sub.autoP, some ⟨r15_2, 0, none⟩, 1, [(r15_2, _)], rfl, .mk (r := r15_2) (n := 1) (cap := 1) (post := []) rfl rfl (by omega) (by omega), rfl⟩) | (rw [(show fldN r.kind = 1 by unfold fldN; (repeat (first | rw [if_pos (by omega)] | rw [if_neg (by omega)]))), (show fldB r = [r.by_] by unfold fldB; (repeat (first | rw [if_pos (by omega)] | rw [if_neg (by omega)])))]; exact ⟨_, _, resV rfl (.cons rfl .nil), Sub.autoP, some ⟨r17_2, 0, none⟩, 1, [(r17_2, _)], rfl, .mk (r := r17_2) (n := 1) (cap := 1) (post := []) rfl rfl (by omega) (by omega), rfl⟩) | (rw [(show fldN r.kind = 0 by unfold fldN; (repeat (first | rw [if_pos (by omega)] | rw [if_neg (by omega)]))), (show fldB r = [] by unfold fldB; (repeat (first | rw [if_pos (by omega)] | rw [if_neg (by omega)])))]; exact ⟨_, H, resV rfl (.cons rfl .nil), Sub.autoP, none, 0, [], rfl, .nil, rfl⟩)
theorem fieldsK_s (k : Int) (H : SHeap) : AC Tryd.prog W0 63 [Req.v ⟨k, 0, 0, 0, 0, 0, false, 0, 0⟩] H (fun v H' => ∃ a cap E, v = .slice a (fldN k) cap ∧ H' = E ++ H) :=
  (fields_s ⟨k, 0, 0, 0, 0, 0, false, 0, 0⟩ H).mono fun v H' ⟨a, c, E, h, _, h2⟩ => ⟨a, c, E, h, h2⟩
set_option maxRecDepth 100000 in
set_option maxHeartbeats 1000000 in
theorem with_s (k : Int) (a : Option Addr) (cap : Nat) (ls : List Int) (H : SHeap) (hs : SlV W0 H 1 intC a cap ls) (hl : ls.length ≤ 1000000) : AC Tryd.prog W0 55 [.int .i64 k, .slice a ls.length cap] H (fun v H' => ((∃ r, mkR k ls = some r ∧ v = .tuple #[Req.v r, .bool true]) ∨ (mkR k ls = none ∧ ∃ r, v = .tuple #[Req.v r, .bool false])) ∧ H' = H) := by
  have hle := hs.le
  have hcb := hs.capb
  refine ac_of Tryd.func55 rfl rfl rfl ?_
  refine aw_seq_region ?_
  refine sr_new rfl (wtd_none rfl) rfl (x_alloc zr35 rfl) ?_
  intro r0_0 hr0_0 gr0_0
  refine sr_as ?_
  refine sr_nil ?_
  refine aw_kp [0, 1, 4, 5] ?_
  refine aw_seq_region ?_
  refine sr_mv ?_
  refine sr_rd (x_build zr35 rfl fl35 Parts.auto Fill.auto) ?_
  refine sr_new rfl (wtd_none rfl) rfl (x_alloc zr35 rfl) ?_
  intro r1_2 hr1_2 gr1_2
  refine sr_x0 rfl (wtd_none rfl) (x_store sz35 rfl rfl rfl rfl rfl Repl.auto Spl.auto) ?_
  refine sr_nil ?_
  refine aw_kp [0, 1, 4, 5, 6] ?_
  refine aw_seq ?_
  refine aw_seq_region ?_
  refine sr_mv ?_
  refine sr_rd (x_lenSlice Tryd.underlying50 rfl) ?_
  refine sr_rd (x_loadN ag35 sz35 rfl (cells_ext mauto Ext.auto) rfl) ?_
  refine sr_d rfl (wtd_none rfl) rfl (opS_call rfl rfl rfl rfl cl63 (fieldsK_s k _)) ?_
  rintro _ _ ⟨aF, cF, EF, rfl, rfl⟩
  refine sr_rd (x_lenSlice Tryd.underlying50 rfl) ?_
  refine sr_c (x_ne rfl rfl) (fun h1 => ?_) (fun h1 => ?_)
  · refine sr_nil ?_
    refine aw_kp [0, 1, 4, 5, 6, 14] ?_
    refine aw_true rfl ?_
    refine aw_seq_region ?_
    refine sr_rd (x_loadN ag35 sz35 rfl (cells_ext mauto Ext.auto) rfl) ?_
    refine sr_x0 rfl (wtd_none rfl) (x_store sz35 rfl rfl rfl rfl rfl Repl.auto Spl.auto) ?_
    refine sr_as ?_
    refine sr_nil ?_
    refine aw_kp [0, 1, 4, 5, 6] ?_
    refine aw_ret ?_
    show ∃ v H2, ResV _ _ _ _ _ _ v ∧ Sub H2 _ ∧ _
    exact ⟨_, H, resV rfl (.cons (⟨_, rfl, fun hw => rd_loadVarN ag35 sz35 hw (cells_ext mauto Ext.auto) rfl⟩) (.cons rfl .nil)), Sub.autoP, .inr ⟨mk_len (by omega), ⟨k, 0, 0, 0, 0, 0, false, 0, 0⟩, rfl⟩, rfl⟩
  · refine sr_nil ?_
    refine aw_kp [0, 1, 4, 5, 6, 14] ?_
    refine aw_false rfl ?_
    refine aw_skip ?_
    show AW _ _ _ _ _ _ _
    refine aw_seq ?_
    refine aw_seq_region ?_
    refine sr_mv ?_
    refine sr_nil ?_
    refine aw_kp [1, 4, 5, 6, 16] ?_
    refine aw_block ?_
    refine aw_seq_region ?_
    refine sr_c (x_eq rfl rfl) (fun h2 => ?_) (fun h2 => ?_)
    · refine sr_as ?_
      refine sr_nil ?_
      refine aw_kp [1, 4, 5, 6, 16, 17] ?_
      refine aw_true rfl ?_
      refine aw_seq_drX (G := (r1_2, .cells (Req.cells (⟨k, 0, 0, 0, 0, 0, false, 0, 0⟩)).toArray 35 (0, 0)) :: (r0_0, .cells (Req.cells (zeroR)).toArray 35 (0, 0)) :: []) (X := H) ⟨_, 26, 75, [[], [0], [0, 1], [], [3], [3, 4], [], [6], [6, 7], [], [9], [9, 10], [], [12], [12, 13], [12, 13, 14], [0, 1, 2], [0, 1, 2, 16], [0, 1, 2, 3, 4, 5, 16, 17], [0, 1, 2, 3, 4, 5, 16, 17, 18], [0, 1, 2, 3, 4, 5, 6, 7, 8, 16, 17, 18, 19], [0, 1, 2, 3, 4, 5, 6, 7, 8, 16, 17, 18, 19, 20], [0, 1, 2, 3, 4, 5, 6, 7, 8, 9, 10, 11, 16, 17, 18, 19, 20, 21], [0, 1, 2, 3, 4, 5, 6, 7, 8, 9, 10, 11, 16, 17, 18, 19, 20, 21, 22], [0, 1, 2, 3, 4, 5, 6, 7, 8, 9, 10, 11, 12, 13, 14, 15, 16, 17, 18, 19, 20, 21, 22, 23], [0, 1, 2, 3, 4, 5, 6, 7, 8, 9, 10, 11, 12, 13, 14, 15, 16, 17, 18, 19, 20, 21, 22, 23, 24]], [.light, .light, .light, .light, .light, .light, .light, .light, .light, .light, .light, .light, .light, .light, .light, .light, .light, .eff, .light, .eff, .light, .eff, .light, .eff, .light, .eff]⟩ (by kernel_rfl) rfl rfl mix Sub.autoP ?_
      have h5 : ls.length = 5 := by (have h9 : fldN k = 5 := by unfold fldN; rw [if_pos (by omega)]); omega
      obtain ⟨b0, o0, ha0, hc0⟩ := hs.at_ 0 (ls.getD 0 0) (getD_some (by omega))
      obtain ⟨b1, o1, ha1, hc1⟩ := hs.at_ 1 (ls.getD 1 0) (getD_some (by omega))
      obtain ⟨b2, o2, ha2, hc2⟩ := hs.at_ 2 (ls.getD 2 0) (getD_some (by omega))
      obtain ⟨b3, o3, ha3, hc3⟩ := hs.at_ 3 (ls.getD 3 0) (getD_some (by omega))
      obtain ⟨b4, o4, ha4, hc4⟩ := hs.at_ 4 (ls.getD 4 0) (getD_some (by omega))
      refine dr_l (x_move rfl) ?_
      refine dr_l (x_indexAddrN 0 Tryd.underlying50 sz2 rfl ha0 rfl (by omega) (by omega)) ?_
      refine dr_fix rfl rfl (wtd_none rfl) (x_load ag2 rfl (Cells.mono hc0 Sub.autoR)) ?_
      refine dr_l (x_move rfl) ?_
      refine dr_l (x_indexAddrN 1 Tryd.underlying50 sz2 rfl ha1 rfl (by omega) (by omega)) ?_
      refine dr_fix rfl rfl (wtd_none rfl) (x_load ag2 rfl (Cells.mono hc1 Sub.autoR)) ?_
      refine dr_l (x_move rfl) ?_
      refine dr_l (x_indexAddrN 2 Tryd.underlying50 sz2 rfl ha2 rfl (by omega) (by omega)) ?_
      refine dr_fix rfl rfl (wtd_none rfl) (x_load ag2 rfl (Cells.mono hc2 Sub.autoR)) ?_
      refine dr_l (x_move rfl) ?_
      refine dr_l (x_indexAddrN 3 Tryd.underlying50 sz2 rfl ha3 rfl (by omega) (by omega)) ?_
      refine dr_fix rfl rfl (wtd_none rfl) (x_load ag2 rfl (Cells.mono hc3 Sub.autoR)) ?_
      refine dr_l (x_move rfl) ?_
      refine dr_l (x_indexAddrN 4 Tryd.underlying50 sz2 rfl ha4 rfl (by omega) (by omega)) ?_
      refine dr_fix rfl rfl (wtd_none rfl) (x_load ag2 rfl (Cells.mono hc4 Sub.autoR)) ?_
      refine dr_cmp rfl rfl (wtd_none rfl) (x_eq rfl rfl) (fun h3 => ?_) (fun h3 => ?_)
      · refine dr_l (x_fieldAddr fd35_2 rfl) ?_
        refine dr_store0 rfl rfl (wtd_none rfl) (x_store sz3 rfl rfl rfl rfl rfl Repl.auto Spl.auto) (by first | rfl | simp [keys_append, keys_cons]) ?_
        refine dr_l (x_fieldAddr fd35_3 rfl) ?_
        refine dr_store0 rfl rfl (wtd_none rfl) (x_store sz3 rfl rfl rfl rfl rfl Repl.auto Spl.auto) (by first | rfl | simp [keys_append, keys_cons]) ?_
        refine dr_l (x_fieldAddr fd35_4 rfl) ?_
        refine dr_store0 rfl rfl (wtd_none rfl) (x_store sz2 rfl rfl rfl rfl rfl Repl.auto Spl.auto) (by first | rfl | simp [keys_append, keys_cons]) ?_
        refine dr_l (x_fieldAddr fd35_5 rfl) ?_
        refine dr_store0 rfl rfl (wtd_none rfl) (x_store sz3 rfl rfl rfl rfl rfl Repl.auto Spl.auto) (by first | rfl | simp [keys_append, keys_cons]) ?_
        refine dr_l (x_fieldAddr fd35_6 rfl) ?_
        refine dr_store0 rfl rfl (wtd_none rfl) (x_store sz4 rfl rfl rfl rfl rfl Repl.auto Spl.auto) (by first | rfl | simp [keys_append, keys_cons]) ?_
        refine dr_nilX ?_
        refine aw_kp [1, 4, 5, 6] ?_
        refine aw_seq_drX (G := (r1_2, .cells (Req.cells (⟨k, 0, (ls.getD 0 0), (ls.getD 1 0), (ls.getD 2 0), (ls.getD 3 0), true, 0, 0⟩)).toArray 35 (0, 0)) :: (r0_0, .cells (Req.cells (zeroR)).toArray 35 (0, 0)) :: []) (X := H) ⟨_, 13, 75, [[], [], [1], [1, 2], [1, 2, 3], [1, 2, 3, 4], [1, 2, 3, 4, 5], [1, 2, 3, 4, 5, 6], [1, 2, 3, 4, 5, 6, 7], [1, 2, 3, 4, 5, 6, 7, 8], [1, 2, 3, 4, 5, 6, 7, 8, 9], [0, 1, 2, 3, 4, 5], [0, 1, 2, 3, 4, 5, 6, 7, 8, 9, 10, 11]], [.mem, .light, .light, .light, .light, .light, .light, .light, .light, .light, .light, .eff, .light]⟩ (by kernel_rfl) rfl rfl mix Sub.autoP ?_
        refine dr_mem0 rfl rfl (wtd_none rfl) (x_loadN ag35 sz35 rfl (cells_ext mauto Ext.auto) rfl) ?_
        refine dr_l (x_move rfl) ?_
        refine dr_l (x_indexAddrN 4 Tryd.underlying50 sz2 rfl ha4 rfl (by omega) (by omega)) ?_
        refine dr_fix rfl rfl (wtd_none rfl) (x_load ag2 rfl (Cells.mono hc4 Sub.autoR)) ?_
        refine dr_cmp rfl rfl (wtd_none rfl) (x_eq rfl rfl) (fun h4 => absurd h4 (by first | omega | decide)) (fun h4 => ?_)
        refine dr_l (x_move rfl) ?_
        refine dr_y (x_move rfl) ?_
        refine dr_y (x_indexAddrN 4 Tryd.underlying50 sz2 rfl ha4 rfl (by omega) (by omega)) ?_
        refine dr_fix rfl rfl (wtd_yes rfl rfl rfl) (x_load ag2 rfl (Cells.mono hc4 Sub.autoR)) ?_
        refine dr_cmp rfl rfl (wtd_yes rfl rfl rfl) (x_eq rfl rfl) (fun h5 => ?_) (fun h5 => absurd (by first | omega | decide) h5)
        refine dr_l (x_pick_f rfl rfl rfl) ?_
        refine dr_store0 rfl rfl (wtd_none rfl) (x_store sz35 rfl rfl rfl rfl rfl Repl.auto Spl.auto) (by first | rfl | simp [keys_append, keys_cons]) ?_
        refine dr_l (x_assign rfl) ?_
        refine dr_nilX ?_
        refine aw_kp [4, 5, 6] ?_
        refine aw_ret ?_
        show ∃ v H2, ResV _ _ _ _ _ _ v ∧ Sub H2 _ ∧ _
        exact ⟨_, H, resV rfl (.cons (⟨_, rfl, fun hw => rd_loadVarN ag35 sz35 hw (cells_ext mauto Ext.auto) rfl⟩) (.cons rfl .nil)), Sub.autoP, .inl ⟨⟨k, 0, (ls.getD 0 0), (ls.getD 1 0), (ls.getD 2 0), (ls.getD 3 0), true, 0, 0⟩, mk_1t (show ls.length = fldN k by omega) (by omega) (by omega), rfl⟩, rfl⟩
      · refine dr_l (x_fieldAddr fd35_2 rfl) ?_
        refine dr_store0 rfl rfl (wtd_none rfl) (x_store sz3 rfl rfl rfl rfl rfl Repl.auto Spl.auto) (by first | rfl | simp [keys_append, keys_cons]) ?_
        refine dr_l (x_fieldAddr fd35_3 rfl) ?_
        refine dr_store0 rfl rfl (wtd_none rfl) (x_store sz3 rfl rfl rfl rfl rfl Repl.auto Spl.auto) (by first | rfl | simp [keys_append, keys_cons]) ?_
        refine dr_l (x_fieldAddr fd35_4 rfl) ?_
        refine dr_store0 rfl rfl (wtd_none rfl) (x_store sz2 rfl rfl rfl rfl rfl Repl.auto Spl.auto) (by first | rfl | simp [keys_append, keys_cons]) ?_
        refine dr_l (x_fieldAddr fd35_5 rfl) ?_
        refine dr_store0 rfl rfl (wtd_none rfl) (x_store sz3 rfl rfl rfl rfl rfl Repl.auto Spl.auto) (by first | rfl | simp [keys_append, keys_cons]) ?_
        refine dr_l (x_fieldAddr fd35_6 rfl) ?_
        refine dr_store0 rfl rfl (wtd_none rfl) (x_store sz4 rfl rfl rfl rfl rfl Repl.auto Spl.auto) (by first | rfl | simp [keys_append, keys_cons]) ?_
        refine dr_nilX ?_
        refine aw_kp [1, 4, 5, 6] ?_
        refine aw_seq_drX (G := (r1_2, .cells (Req.cells (⟨k, 0, (ls.getD 0 0), (ls.getD 1 0), (ls.getD 2 0), (ls.getD 3 0), false, 0, 0⟩)).toArray 35 (0, 0)) :: (r0_0, .cells (Req.cells (zeroR)).toArray 35 (0, 0)) :: []) (X := H) ⟨_, 13, 75, [[], [], [1], [1, 2], [1, 2, 3], [1, 2, 3, 4], [1, 2, 3, 4, 5], [1, 2, 3, 4, 5, 6], [1, 2, 3, 4, 5, 6, 7], [1, 2, 3, 4, 5, 6, 7, 8], [1, 2, 3, 4, 5, 6, 7, 8, 9], [0, 1, 2, 3, 4, 5], [0, 1, 2, 3, 4, 5, 6, 7, 8, 9, 10, 11]], [.mem, .light, .light, .light, .light, .light, .light, .light, .light, .light, .light, .eff, .light]⟩ (by kernel_rfl) rfl rfl mix Sub.autoP ?_
        refine dr_mem0 rfl rfl (wtd_none rfl) (x_loadN ag35 sz35 rfl (cells_ext mauto Ext.auto) rfl) ?_
        refine dr_l (x_move rfl) ?_
        refine dr_l (x_indexAddrN 4 Tryd.underlying50 sz2 rfl ha4 rfl (by omega) (by omega)) ?_
        refine dr_fix rfl rfl (wtd_none rfl) (x_load ag2 rfl (Cells.mono hc4 Sub.autoR)) ?_
        refine dr_cmp rfl rfl (wtd_none rfl) (x_eq rfl rfl) (fun h6 => ?_) (fun h6 => ?_)
        · refine dr_l (x_move rfl) ?_
          refine dr_sk ?_
          refine dr_sk ?_
          refine dr_sk ?_
          refine dr_sk ?_
          refine dr_l (x_pick_t rfl rfl rfl) ?_
          refine dr_store0 rfl rfl (wtd_none rfl) (x_store sz35 rfl rfl rfl rfl rfl Repl.auto Spl.auto) (by first | rfl | simp [keys_append, keys_cons]) ?_
          refine dr_l (x_assign rfl) ?_
          refine dr_nilX ?_
          refine aw_kp [4, 5, 6] ?_
          refine aw_ret ?_
          show ∃ v H2, ResV _ _ _ _ _ _ v ∧ Sub H2 _ ∧ _
          exact ⟨_, H, resV rfl (.cons (⟨_, rfl, fun hw => rd_loadVarN ag35 sz35 hw (cells_ext mauto Ext.auto) rfl⟩) (.cons rfl .nil)), Sub.autoP, .inl ⟨⟨k, 0, (ls.getD 0 0), (ls.getD 1 0), (ls.getD 2 0), (ls.getD 3 0), false, 0, 0⟩, mk_1f (show ls.length = fldN k by omega) (by omega) (by omega), rfl⟩, rfl⟩
        · refine dr_l (x_move rfl) ?_
          refine dr_y (x_move rfl) ?_
          refine dr_y (x_indexAddrN 4 Tryd.underlying50 sz2 rfl ha4 rfl (by omega) (by omega)) ?_
          refine dr_fix rfl rfl (wtd_yes rfl rfl rfl) (x_load ag2 rfl (Cells.mono hc4 Sub.autoR)) ?_
          refine dr_cmp rfl rfl (wtd_yes rfl rfl rfl) (x_eq rfl rfl) (fun h7 => absurd h7 (by first | omega | decide)) (fun h7 => ?_)
          refine dr_l (x_pick_f rfl rfl rfl) ?_
          refine dr_store0 rfl rfl (wtd_none rfl) (x_store sz35 rfl rfl rfl rfl rfl Repl.auto Spl.auto) (by first | rfl | simp [keys_append, keys_cons]) ?_
          refine dr_l (x_assign rfl) ?_
          refine dr_nilX ?_
          refine aw_kp [4, 5, 6] ?_
          refine aw_ret ?_
          show ∃ v H2, ResV _ _ _ _ _ _ v ∧ Sub H2 _ ∧ _
          exact ⟨_, H, resV rfl (.cons (⟨_, rfl, fun hw => rd_loadVarN ag35 sz35 hw (cells_ext mauto Ext.auto) rfl⟩) (.cons rfl .nil)), Sub.autoP, .inr ⟨mk_1n (show ls.length = fldN k by omega) (by omega) (by omega), ⟨k, 0, (ls.getD 0 0), (ls.getD 1 0), (ls.getD 2 0), (ls.getD 3 0), false, 0, 0⟩, rfl⟩, rfl⟩
    · refine sr_as ?_
      refine sr_nil ?_
      refine aw_kp [1, 4, 5, 6, 16, 17] ?_
      refine aw_false rfl ?_
      refine aw_seq ?_
      refine aw_seq_region ?_
      refine sr_c (x_eq rfl rfl) (fun h8 => ?_) (fun h8 => ?_)
      · refine sr_as ?_
        refine sr_nil ?_
        refine aw_kp [1, 4, 5, 6, 16, 51] ?_
        refine aw_true rfl ?_
        refine aw_skip ?_
        show AW _ _ _ _ _ _ _
        refine aw_true rfl ?_
        refine aw_region ?_
        have h1l : ls.length = 1 := by (have h9 : fldN k = 1 := by unfold fldN; rw [if_neg (by omega), if_pos (by omega)]); omega
        obtain ⟨b0, o0, ha0, hc0⟩ := hs.at_ 0 (ls.getD 0 0) (getD_some (by omega))
        refine sr_mv ?_
        refine sr_rd (x_indexAddrN 0 Tryd.underlying50 sz2 rfl ha0 rfl (by omega) (by omega)) ?_
        refine sr_rd (x_load ag2 rfl (Cells.mono hc0 Sub.autoR)) ?_
        refine sr_rd (x_fieldAddr fd35_1 rfl) ?_
        refine sr_x0 rfl (wtd_none rfl) (x_store sz3 rfl rfl rfl rfl rfl Repl.auto Spl.auto) ?_
        refine sr_nil ?_
        show AW _ _ _ _ _ _ _
        refine aw_seq_region ?_
        refine sr_rd (x_loadN ag35 sz35 rfl (cells_ext mauto Ext.auto) rfl) ?_
        refine sr_x0 rfl (wtd_none rfl) (x_store sz35 rfl rfl rfl rfl rfl Repl.auto Spl.auto) ?_
        refine sr_as ?_
        refine sr_nil ?_
        refine aw_kp [4, 5] ?_
        refine aw_ret ?_
        show ∃ v H2, ResV _ _ _ _ _ _ v ∧ Sub H2 _ ∧ _
        exact ⟨_, H, resV rfl (.cons (⟨_, rfl, fun hw => rd_loadVarN ag35 sz35 hw (cells_ext mauto Ext.auto) rfl⟩) (.cons rfl .nil)), Sub.autoP, .inl ⟨⟨k, (ls.getD 0 0), 0, 0, 0, 0, false, 0, 0⟩, mk_id (show ls.length = fldN k by omega) (by omega), rfl⟩, rfl⟩
      · refine sr_as ?_
        refine sr_nil ?_
        refine aw_kp [1, 4, 5, 6, 16, 51] ?_
        refine aw_false rfl ?_
        refine aw_seq_region ?_
        refine sr_c (x_eq rfl rfl) (fun h9 => ?_) (fun h9 => ?_)
        · refine sr_as ?_
          refine sr_nil ?_
          refine aw_kp [1, 4, 5, 6, 16, 51] ?_
          refine aw_true rfl ?_
          refine aw_skip ?_
          show AW _ _ _ _ _ _ _
          refine aw_true rfl ?_
          refine aw_region ?_
          have h1l : ls.length = 1 := by (have h9 : fldN k = 1 := by unfold fldN; rw [if_neg (by omega), if_pos (by omega)]); omega
          obtain ⟨b0, o0, ha0, hc0⟩ := hs.at_ 0 (ls.getD 0 0) (getD_some (by omega))
          refine sr_mv ?_
          refine sr_rd (x_indexAddrN 0 Tryd.underlying50 sz2 rfl ha0 rfl (by omega) (by omega)) ?_
          refine sr_rd (x_load ag2 rfl (Cells.mono hc0 Sub.autoR)) ?_
          refine sr_rd (x_fieldAddr fd35_1 rfl) ?_
          refine sr_x0 rfl (wtd_none rfl) (x_store sz3 rfl rfl rfl rfl rfl Repl.auto Spl.auto) ?_
          refine sr_nil ?_
          show AW _ _ _ _ _ _ _
          refine aw_seq_region ?_
          refine sr_rd (x_loadN ag35 sz35 rfl (cells_ext mauto Ext.auto) rfl) ?_
          refine sr_x0 rfl (wtd_none rfl) (x_store sz35 rfl rfl rfl rfl rfl Repl.auto Spl.auto) ?_
          refine sr_as ?_
          refine sr_nil ?_
          refine aw_kp [4, 5] ?_
          refine aw_ret ?_
          show ∃ v H2, ResV _ _ _ _ _ _ v ∧ Sub H2 _ ∧ _
          exact ⟨_, H, resV rfl (.cons (⟨_, rfl, fun hw => rd_loadVarN ag35 sz35 hw (cells_ext mauto Ext.auto) rfl⟩) (.cons rfl .nil)), Sub.autoP, .inl ⟨⟨k, (ls.getD 0 0), 0, 0, 0, 0, false, 0, 0⟩, mk_id (show ls.length = fldN k by omega) (by omega), rfl⟩, rfl⟩
        · refine sr_as ?_
          refine sr_nil ?_
          refine aw_kp [1, 4, 5, 6, 16, 51] ?_
          refine aw_false rfl ?_
          refine aw_seq_region ?_
          refine sr_c (x_eq rfl rfl) (fun h10 => ?_) (fun h10 => ?_)
          · refine sr_as ?_
            refine sr_nil ?_
            refine aw_kp [1, 4, 5, 6, 16, 51] ?_
            refine aw_true rfl ?_
            refine aw_skip ?_
            show AW _ _ _ _ _ _ _
            refine aw_true rfl ?_
            refine aw_region ?_
            have h1l : ls.length = 1 := by (have h9 : fldN k = 1 := by unfold fldN; rw [if_neg (by omega), if_pos (by omega)]); omega
            obtain ⟨b0, o0, ha0, hc0⟩ := hs.at_ 0 (ls.getD 0 0) (getD_some (by omega))
            refine sr_mv ?_
            refine sr_rd (x_indexAddrN 0 Tryd.underlying50 sz2 rfl ha0 rfl (by omega) (by omega)) ?_
            refine sr_rd (x_load ag2 rfl (Cells.mono hc0 Sub.autoR)) ?_
            refine sr_rd (x_fieldAddr fd35_1 rfl) ?_
            refine sr_x0 rfl (wtd_none rfl) (x_store sz3 rfl rfl rfl rfl rfl Repl.auto Spl.auto) ?_
            refine sr_nil ?_
            show AW _ _ _ _ _ _ _
            refine aw_seq_region ?_
            refine sr_rd (x_loadN ag35 sz35 rfl (cells_ext mauto Ext.auto) rfl) ?_
            refine sr_x0 rfl (wtd_none rfl) (x_store sz35 rfl rfl rfl rfl rfl Repl.auto Spl.auto) ?_
            refine sr_as ?_
            refine sr_nil ?_
            refine aw_kp [4, 5] ?_
            refine aw_ret ?_
            show ∃ v H2, ResV _ _ _ _ _ _ v ∧ Sub H2 _ ∧ _
            exact ⟨_, H, resV rfl (.cons (⟨_, rfl, fun hw => rd_loadVarN ag35 sz35 hw (cells_ext mauto Ext.auto) rfl⟩) (.cons rfl .nil)), Sub.autoP, .inl ⟨⟨k, (ls.getD 0 0), 0, 0, 0, 0, false, 0, 0⟩, mk_id (show ls.length = fldN k by omega) (by omega), rfl⟩, rfl⟩
          · refine sr_as ?_
            refine sr_nil ?_
            refine aw_kp [1, 4, 5, 6, 16, 51] ?_
            refine aw_false rfl ?_
            refine aw_seq_region ?_
            refine sr_c (x_eq rfl rfl) (fun h11 => ?_) (fun h11 => ?_)
            · refine sr_as ?_
              refine sr_nil ?_
              refine aw_kp [1, 4, 5, 6, 16, 51] ?_
              refine aw_true rfl ?_
              refine aw_skip ?_
              show AW _ _ _ _ _ _ _
              refine aw_true rfl ?_
              refine aw_region ?_
              have h1l : ls.length = 1 := by (have h9 : fldN k = 1 := by unfold fldN; rw [if_neg (by omega), if_pos (by omega)]); omega
              obtain ⟨b0, o0, ha0, hc0⟩ := hs.at_ 0 (ls.getD 0 0) (getD_some (by omega))
              refine sr_mv ?_
              refine sr_rd (x_indexAddrN 0 Tryd.underlying50 sz2 rfl ha0 rfl (by omega) (by omega)) ?_
              refine sr_rd (x_load ag2 rfl (Cells.mono hc0 Sub.autoR)) ?_
              refine sr_rd (x_fieldAddr fd35_1 rfl) ?_
              refine sr_x0 rfl (wtd_none rfl) (x_store sz3 rfl rfl rfl rfl rfl Repl.auto Spl.auto) ?_
              refine sr_nil ?_
              show AW _ _ _ _ _ _ _
              refine aw_seq_region ?_
              refine sr_rd (x_loadN ag35 sz35 rfl (cells_ext mauto Ext.auto) rfl) ?_
              refine sr_x0 rfl (wtd_none rfl) (x_store sz35 rfl rfl rfl rfl rfl Repl.auto Spl.auto) ?_
              refine sr_as ?_
              refine sr_nil ?_
              refine aw_kp [4, 5] ?_
              refine aw_ret ?_
              show ∃ v H2, ResV _ _ _ _ _ _ v ∧ Sub H2 _ ∧ _
              exact ⟨_, H, resV rfl (.cons (⟨_, rfl, fun hw => rd_loadVarN ag35 sz35 hw (cells_ext mauto Ext.auto) rfl⟩) (.cons rfl .nil)), Sub.autoP, .inl ⟨⟨k, (ls.getD 0 0), 0, 0, 0, 0, false, 0, 0⟩, mk_id (show ls.length = fldN k by omega) (by omega), rfl⟩, rfl⟩
            · refine sr_as ?_
              refine sr_nil ?_
              refine aw_kp [1, 4, 5, 6, 16, 51] ?_
              refine aw_false rfl ?_
              refine aw_region ?_
              refine sr_c (x_eq rfl rfl) (fun h12 => ?_) (fun h12 => ?_)
              · refine sr_as ?_
                refine sr_nil ?_
                show AW _ _ _ _ _ _ _
                refine aw_true rfl ?_
                refine aw_region ?_
                have h1l : ls.length = 1 := by (have h9 : fldN k = 1 := by unfold fldN; rw [if_neg (by omega), if_pos (by omega)]); omega
                obtain ⟨b0, o0, ha0, hc0⟩ := hs.at_ 0 (ls.getD 0 0) (getD_some (by omega))
                refine sr_mv ?_
                refine sr_rd (x_indexAddrN 0 Tryd.underlying50 sz2 rfl ha0 rfl (by omega) (by omega)) ?_
                refine sr_rd (x_load ag2 rfl (Cells.mono hc0 Sub.autoR)) ?_
                refine sr_rd (x_fieldAddr fd35_1 rfl) ?_
                refine sr_x0 rfl (wtd_none rfl) (x_store sz3 rfl rfl rfl rfl rfl Repl.auto Spl.auto) ?_
                refine sr_nil ?_
                show AW _ _ _ _ _ _ _
                refine aw_seq_region ?_
                refine sr_rd (x_loadN ag35 sz35 rfl (cells_ext mauto Ext.auto) rfl) ?_
                refine sr_x0 rfl (wtd_none rfl) (x_store sz35 rfl rfl rfl rfl rfl Repl.auto Spl.auto) ?_
                refine sr_as ?_
                refine sr_nil ?_
                refine aw_kp [4, 5] ?_
                refine aw_ret ?_
                show ∃ v H2, ResV _ _ _ _ _ _ v ∧ Sub H2 _ ∧ _
                exact ⟨_, H, resV rfl (.cons (⟨_, rfl, fun hw => rd_loadVarN ag35 sz35 hw (cells_ext mauto Ext.auto) rfl⟩) (.cons rfl .nil)), Sub.autoP, .inl ⟨⟨k, (ls.getD 0 0), 0, 0, 0, 0, false, 0, 0⟩, mk_id (show ls.length = fldN k by omega) (by omega), rfl⟩, rfl⟩
              · refine sr_as ?_
                refine sr_nil ?_
                show AW _ _ _ _ _ _ _
                refine aw_false rfl ?_
                refine aw_seq ?_
                refine aw_seq_region ?_
                refine sr_c (x_eq rfl rfl) (fun h13 => ?_) (fun h13 => ?_)
                · refine sr_as ?_
                  refine sr_nil ?_
                  refine aw_kp [1, 4, 5, 6, 16, 61] ?_
                  refine aw_true rfl ?_
                  refine aw_skip ?_
                  show AW _ _ _ _ _ _ _
                  refine aw_true rfl ?_
                  refine aw_region ?_
                  have h1l : ls.length = 1 := by (have h9 : fldN k = 1 := by unfold fldN; rw [if_neg (by omega), if_pos (by omega)]); omega
                  obtain ⟨b0, o0, ha0, hc0⟩ := hs.at_ 0 (ls.getD 0 0) (getD_some (by omega))
                  refine sr_mv ?_
                  refine sr_rd (x_indexAddrN 0 Tryd.underlying50 sz2 rfl ha0 rfl (by omega) (by omega)) ?_
                  refine sr_rd (x_load ag2 rfl (Cells.mono hc0 Sub.autoR)) ?_
                  refine sr_rd (x_fieldAddr fd35_7 rfl) ?_
                  refine sr_x0 rfl (wtd_none rfl) (x_store sz3 rfl rfl rfl rfl rfl Repl.auto Spl.auto) ?_
                  refine sr_nil ?_
                  show AW _ _ _ _ _ _ _
                  refine aw_seq_region ?_
                  refine sr_rd (x_loadN ag35 sz35 rfl (cells_ext mauto Ext.auto) rfl) ?_
                  refine sr_x0 rfl (wtd_none rfl) (x_store sz35 rfl rfl rfl rfl rfl Repl.auto Spl.auto) ?_
                  refine sr_as ?_
                  refine sr_nil ?_
                  refine aw_kp [4, 5] ?_
                  refine aw_ret ?_
                  show ∃ v H2, ResV _ _ _ _ _ _ v ∧ Sub H2 _ ∧ _
                  exact ⟨_, H, resV rfl (.cons (⟨_, rfl, fun hw => rd_loadVarN ag35 sz35 hw (cells_ext mauto Ext.auto) rfl⟩) (.cons rfl .nil)), Sub.autoP, .inl ⟨⟨k, 0, 0, 0, 0, 0, false, (ls.getD 0 0), 0⟩, mk_nd (show ls.length = fldN k by omega) (by omega), rfl⟩, rfl⟩
                · refine sr_as ?_
                  refine sr_nil ?_
                  refine aw_kp [1, 4, 5, 6, 16, 61] ?_
                  refine aw_false rfl ?_
                  refine aw_region ?_
                  refine sr_c (x_eq rfl rfl) (fun h14 => ?_) (fun h14 => ?_)
                  · refine sr_as ?_
                    refine sr_nil ?_
                    show AW _ _ _ _ _ _ _
                    refine aw_true rfl ?_
                    refine aw_region ?_
                    have h1l : ls.length = 1 := by (have h9 : fldN k = 1 := by unfold fldN; rw [if_neg (by omega), if_pos (by omega)]); omega
                    obtain ⟨b0, o0, ha0, hc0⟩ := hs.at_ 0 (ls.getD 0 0) (getD_some (by omega))
                    refine sr_mv ?_
                    refine sr_rd (x_indexAddrN 0 Tryd.underlying50 sz2 rfl ha0 rfl (by omega) (by omega)) ?_
                    refine sr_rd (x_load ag2 rfl (Cells.mono hc0 Sub.autoR)) ?_
                    refine sr_rd (x_fieldAddr fd35_7 rfl) ?_
                    refine sr_x0 rfl (wtd_none rfl) (x_store sz3 rfl rfl rfl rfl rfl Repl.auto Spl.auto) ?_
                    refine sr_nil ?_
                    show AW _ _ _ _ _ _ _
                    refine aw_seq_region ?_
                    refine sr_rd (x_loadN ag35 sz35 rfl (cells_ext mauto Ext.auto) rfl) ?_
                    refine sr_x0 rfl (wtd_none rfl) (x_store sz35 rfl rfl rfl rfl rfl Repl.auto Spl.auto) ?_
                    refine sr_as ?_
                    refine sr_nil ?_
                    refine aw_kp [4, 5] ?_
                    refine aw_ret ?_
                    show ∃ v H2, ResV _ _ _ _ _ _ v ∧ Sub H2 _ ∧ _
                    exact ⟨_, H, resV rfl (.cons (⟨_, rfl, fun hw => rd_loadVarN ag35 sz35 hw (cells_ext mauto Ext.auto) rfl⟩) (.cons rfl .nil)), Sub.autoP, .inl ⟨⟨k, 0, 0, 0, 0, 0, false, (ls.getD 0 0), 0⟩, mk_nd (show ls.length = fldN k by omega) (by omega), rfl⟩, rfl⟩
                  · refine sr_as ?_
                    refine sr_nil ?_
                    show AW _ _ _ _ _ _ _
                    refine aw_false rfl ?_
                    refine aw_seq_region ?_
                    refine sr_c (x_eq rfl rfl) (fun h15 => ?_) (fun h15 => ?_)
                    · refine sr_as ?_
                      refine sr_nil ?_
                      refine aw_kp [1, 4, 5, 6, 68] ?_
                      refine aw_true rfl ?_
                      refine aw_region ?_
                      have h1l : ls.length = 1 := by (have h9 : fldN k = 1 := by unfold fldN; rw [if_neg (by omega), if_pos (by omega)]); omega
                      obtain ⟨b0, o0, ha0, hc0⟩ := hs.at_ 0 (ls.getD 0 0) (getD_some (by omega))
                      refine sr_mv ?_
                      refine sr_rd (x_indexAddrN 0 Tryd.underlying50 sz2 rfl ha0 rfl (by omega) (by omega)) ?_
                      refine sr_rd (x_load ag2 rfl (Cells.mono hc0 Sub.autoR)) ?_
                      refine sr_rd (x_fieldAddr fd35_8 rfl) ?_
                      refine sr_x0 rfl (wtd_none rfl) (x_store sz2 rfl rfl rfl rfl rfl Repl.auto Spl.auto) ?_
                      refine sr_nil ?_
                      show AW _ _ _ _ _ _ _
                      refine aw_seq_region ?_
                      refine sr_rd (x_loadN ag35 sz35 rfl (cells_ext mauto Ext.auto) rfl) ?_
                      refine sr_x0 rfl (wtd_none rfl) (x_store sz35 rfl rfl rfl rfl rfl Repl.auto Spl.auto) ?_
                      refine sr_as ?_
                      refine sr_nil ?_
                      refine aw_kp [4, 5] ?_
                      refine aw_ret ?_
                      show ∃ v H2, ResV _ _ _ _ _ _ v ∧ Sub H2 _ ∧ _
                      exact ⟨_, H, resV rfl (.cons (⟨_, rfl, fun hw => rd_loadVarN ag35 sz35 hw (cells_ext mauto Ext.auto) rfl⟩) (.cons rfl .nil)), Sub.autoP, .inl ⟨⟨k, 0, 0, 0, 0, 0, false, 0, (ls.getD 0 0)⟩, mk_by (show ls.length = fldN k by omega) (by omega), rfl⟩, rfl⟩
                    · refine sr_as ?_
                      refine sr_nil ?_
                      refine aw_kp [1, 4, 5, 6, 68] ?_
                      refine aw_false rfl ?_
                      refine aw_skip ?_
                      show AW _ _ _ _ _ _ _
                      refine aw_seq_region ?_
                      refine sr_rd (x_loadN ag35 sz35 rfl (cells_ext mauto Ext.auto) rfl) ?_
                      refine sr_x0 rfl (wtd_none rfl) (x_store sz35 rfl rfl rfl rfl rfl Repl.auto Spl.auto) ?_
                      refine sr_as ?_
                      refine sr_nil ?_
                      refine aw_kp [4, 5] ?_
                      refine aw_ret ?_
                      show ∃ v H2, ResV _ _ _ _ _ _ v ∧ Sub H2 _ ∧ _
                      exact ⟨_, H, resV rfl (.cons (⟨_, rfl, fun hw => rd_loadVarN ag35 sz35 hw (cells_ext mauto Ext.auto) rfl⟩) (.cons rfl .nil)), Sub.autoP, .inl ⟨⟨k, 0, 0, 0, 0, 0, false, 0, 0⟩, mk_no (show ls.length = fldN k by omega) (by omega), rfl⟩, rfl⟩
set_option maxRecDepth 100000 in
set_option maxHeartbeats 1000000 in
theorem parse_s (l : List UInt8) (hl : l.length ≤ 1000000) (H : SHeap) : AC Tryd.prog W0 23 [.string (bs l)] H (fun v H' => v = .tuple #[((parseB l).getD zeroR).v, .int .i64 (errP (parseB l))] ∧ H' = H) := by
  refine ac_of Tryd.func23 rfl rfl rfl ?_
  refine aw_seq_region ?_
  refine sr_new rfl (wtd_none rfl) rfl (x_alloc zr35 rfl) ?_
  intro r0_0 hr0_0 gr0_0
  refine sr_as ?_
  refine sr_nil ?_
  refine aw_kp [0, 2, 3] ?_
  refine aw_seq_region ?_
  refine sr_mv ?_
  refine sr_d rfl (wtd_none rfl) rfl (opS_call rfl rfl rfl rfl cl51 (split_s l 32 (by omega) _)) ?_
  rintro _ _ ⟨a, cap, E, rfl, V, rfl⟩
  have hmem := spl_mem_len (c := 32) (l := l)
  have hsl := spl_len (c := 32) (l := l)
  have hcl := cntB_le 32 l
  have hpb : parseB l = parseW (spl 32 l) := rfl
  rw [hpb]
  cases hsp : spl 32 l with
  | nil => exact absurd hsp (spl_ne 32 l)
  | cons w ws =>
  rw [hsp] at V hmem hsl
  have hwl : (w :: ws).length = ws.length + 1 := rfl
  obtain ⟨b, rfl, hrest⟩ := slv_rest V
  obtain ⟨bw, ow, haw, hcw⟩ := (V.slv' (W0 := W0) (xs := w :: ws) (fun _ => rfl) rfl (Sub.refl _)).at_ 0 w rfl
  have hleV := (V.slv' (W0 := W0) (xs := w :: ws) (fun _ => rfl) rfl (Sub.refl _)).le
  have hcbV := (V.slv' (W0 := W0) (xs := w :: ws) (fun _ => rfl) rfl (Sub.refl _)).capb
  have e1 : (1 : Int).toNat = 1 := rfl
  refine sr_as ?_
  refine sr_nil ?_
  refine aw_kp [2, 3, 4] ?_
  refine aw_seq_region ?_
  refine sr_as ?_
  refine sr_nil ?_
  refine aw_kp [2, 3, 4, 5] ?_
  refine aw_seq ?_
  refine aw_seq_region ?_
  refine sr_as ?_
  refine sr_nil ?_
  refine aw_kp [2, 3, 4, 5, 6] ?_
  refine aw_block ?_
  refine aw_loop (ι := Nat) (fun k => k ≤ 13) (fun k => [(2, .pointer (some ⟨r0_0, 0, none⟩)), (3, .int .i64 0), (4, .slice (some ⟨b, 0, none⟩) (w :: ws).length cap), (5, .int .i64 (kindTo w k)), (6, .int .i64 ((k : Int) + 1))]) (fun _ => (r0_0, .cells (Req.cells zeroR).toArray 35 (0, 0)) :: (E ++ H)) (fun k => 13 - k) 0 (Nat.zero_le _) KeepF.auto Sub.autoP ?_
  intro k hk
  refine aw_seq ?_
  refine aw_seq_region ?_
  refine sr_mv ?_
  refine sr_c (x_le rfl rfl) (fun h1 => ?_) (fun h1 => ?_)
  · refine sr_nil ?_
    refine aw_kp [2, 3, 4, 5, 6, 16, 17] ?_
    refine aw_true rfl ?_
    refine aw_skip ?_
    show AW _ _ _ _ _ _ _
    refine aw_seq ?_
    refine aw_block ?_
    refine aw_seq_dr ⟨_, 6, 60, [[], [0], [], [2], [2, 3], [0, 1, 2, 3, 4]], [.light, .call, .light, .light, .mem, .light]⟩ (by kernel_rfl) rfl rfl mix ?_
    refine dr_l (x_move rfl) ?_
    refine dr_callq0 rfl rfl (wtd_none rfl) (opS_F rfl rfl rfl rfl cl54 ((word_s (k + 1) _))) (⟨_, rfl⟩) ?_
    rintro _ rfl
    refine dr_l (x_move rfl) ?_
    refine dr_l (x_indexAddrN 0 Tryd.underlying49 sz9 rfl haw rfl (by omega) (by rw [List.length_cons]; omega)) ?_
    refine dr_mem0 rfl rfl (wtd_none rfl) (x_load ag9 rfl (Cells.mono hcw Sub.autoE)) ?_
    refine dr_cmp rfl rfl (wtd_none rfl) (x_eqB rfl rfl) (fun h2 => ?_) (fun h2 => ?_)
    · refine dr_nil0 ?_
      refine aw_kp [2, 3, 4, 5, 6, 16, 17, 20, 21, 22, 23, 24, 25] ?_
      refine aw_true rfl ?_
      refine aw_region ?_
      refine sr_mv ?_
      refine sr_as ?_
      refine sr_nil ?_
      show AW _ _ _ _ _ _ _
      refine aw_region ?_
      refine sr_mv ?_
      refine sr_rd (x_add' rfl rfl (i64w (by omega) (by omega))) ?_
      refine sr_as ?_
      refine sr_nil ?_
      show ∃ s', _ ∧ _ ∧ _ ∧ _
      first | exact ⟨k + 1, by omega, by omega, (by rw [show kindTo w (k + 1) = k + 1 from if_pos (by assumption)]; exact KeepF.auto), Sub.autoD⟩ | exact ⟨k + 1, by omega, by omega, (by rw [show kindTo w (k + 1) = kindTo w k from if_neg (by assumption)]; exact KeepF.auto), Sub.autoD⟩
    · refine dr_nil0 ?_
      refine aw_kp [2, 3, 4, 5, 6, 16, 17, 20, 21, 22, 23, 24, 25] ?_
      refine aw_false rfl ?_
      refine aw_skip ?_
      show AW _ _ _ _ _ _ _
      refine aw_region ?_
      refine sr_mv ?_
      refine sr_rd (x_add' rfl rfl (i64w (by omega) (by omega))) ?_
      refine sr_as ?_
      refine sr_nil ?_
      show ∃ s', _ ∧ _ ∧ _ ∧ _
      first | exact ⟨k + 1, by omega, by omega, (by rw [show kindTo w (k + 1) = k + 1 from if_pos (by assumption)]; exact KeepF.auto), Sub.autoD⟩ | exact ⟨k + 1, by omega, by omega, (by rw [show kindTo w (k + 1) = kindTo w k from if_neg (by assumption)]; exact KeepF.auto), Sub.autoD⟩
  · refine sr_nil ?_
    refine aw_kp [2, 3, 4, 5, 6, 16, 17] ?_
    refine aw_false rfl ?_
    refine aw_exit ?_
    show AW _ _ _ _ _ _ _
    refine aw_seq ?_
    refine aw_seq_region ?_
    have ek : k = 13 := by omega
    subst ek
    refine sr_mv ?_
    refine sr_c (x_eq rfl rfl) (fun h3 => ?_) (fun h3 => ?_)
    · refine sr_nil ?_
      refine aw_kp [2, 3, 4, 5, 28] ?_
      refine aw_true rfl ?_
      refine aw_seq_region ?_
      refine sr_rd (x_build zr35 rfl fl35 Parts.auto Fill.auto) ?_
      refine sr_x0 rfl (wtd_none rfl) (x_store sz35 rfl rfl rfl rfl rfl Repl.auto Spl.auto) ?_
      refine sr_as ?_
      refine sr_nil ?_
      refine aw_kp [2, 3, 4, 5] ?_
      refine aw_ret ?_
      show ∃ v H2, ResV _ _ _ _ _ _ v ∧ Sub H2 _ ∧ _
      exact ⟨_, H, resV rfl (.cons (⟨_, rfl, fun hw => rd_loadVarN ag35 sz35 hw (cells_ext mauto Ext.auto) rfl⟩) (.cons rfl .nil)), Sub.autoP, ⟨by rw [parseW_k0 (by assumption)]; rfl, rfl⟩⟩
    · refine sr_nil ?_
      refine aw_kp [2, 3, 4, 5, 28] ?_
      refine aw_false rfl ?_
      refine aw_skip ?_
      show AW _ _ _ _ _ _ _
      refine aw_seq_region ?_
      refine sr_as ?_
      refine sr_nil ?_
      refine aw_kp [2, 3, 4, 5, 7] ?_
      refine aw_seq ?_
      refine aw_seq_region ?_
      have hk0 : kindOf w ≠ 0 := by assumption
      refine sr_mv ?_
      refine sr_rd (x_sliceLo Tryd.underlying49 sz9 rfl rfl (by omega) (by rw [List.length_cons]; omega) (by rw [List.length_cons]; omega)) ?_
      refine sr_rd (x_lenSlice Tryd.underlying49 rfl) ?_
      refine sr_mv ?_
      refine sr_nil ?_
      refine aw_kp [2, 3, 5, 7, 31, 32, 33] ?_
      refine aw_block ?_
      refine aw_loop (ι := RdG) (fun s => s.k ≤ ws.length ∧ s.ls.length = s.k ∧ (ws.take s.k).map readN = s.ls.map some ∧ OwnVec 1 2 s.sl s.ls.length (s.ls.flatMap intC) s.E) (fun s => [(2, .pointer (some ⟨r0_0, 0, none⟩)), (3, .int .i64 0), (5, .int .i64 (kindOf w)), (7, s.sl), (31, .slice (some ⟨b, if cap = (1 : Int).toNat then 0 else 0 + (1 : Int).toNat * 1, none⟩) ((w :: ws).length - (1 : Int).toNat) (cap - (1 : Int).toNat)), (32, .int .i64 ((w :: ws).length - (1 : Int).toNat : Nat)), (33, .int .i64 s.k)]) (fun s => s.E ++ ((r0_0, .cells (Req.cells zeroR).toArray 35 (0, 0)) :: (E ++ H))) (fun s => ws.length - s.k) ⟨0, [], .slice none 0 0, []⟩ (⟨Nat.zero_le _, rfl, rfl, .nil⟩) KeepF.auto Sub.autoP ?_
      intro s hs9
      obtain ⟨k, ls, sl, EK⟩ := s
      dsimp only at hs9 ⊢
      obtain ⟨hk, hlk, hmp, VK⟩ := hs9
      refine aw_seq_region ?_
      refine sr_c (x_lt rfl rfl) (fun h4 => ?_) (fun h4 => ?_)
      · refine sr_nil ?_
        refine aw_kp [2, 3, 5, 7, 31, 32, 33, 34] ?_
        refine aw_seq ?_
        refine aw_true rfl ?_
        refine aw_skip ?_
        show AW _ _ _ _ _ _ _
        refine aw_seq ?_
        refine aw_block ?_
        refine aw_seq_region ?_
        obtain ⟨x, hx⟩ := get_ex (show k < ws.length by omega)
        obtain ⟨bx, ox, hax, hcx⟩ := (hrest (W0 := W0) (Sub.refl _)).at_ k x hx
        refine sr_rd (x_indexAddrN k Tryd.underlying49 sz9 rfl hax rfl (by omega) (by omega)) ?_
        refine sr_rd (x_load ag9 rfl (Cells.mono hcx Sub.autoE)) ?_
        refine sr_as ?_
        refine sr_nil ?_
        refine aw_kp [2, 3, 5, 7, 9, 31, 32, 33, 34, 35, 36] ?_
        refine aw_seq_region ?_
        refine sr_mv ?_
        refine sr_d rfl (wtd_none rfl) rfl (opS_call rfl rfl rfl rfl cl26 (read_s x _ (by have := hmem x (List.mem_cons_of_mem _ (List.mem_of_getElem? hx)); omega))) ?_
        rintro _ H9 ⟨rfl, rfl⟩
        cases hrx : readN x
        · refine sr_mv ?_
          refine sr_rd (x_extract rfl rfl) ?_
          refine sr_rd (x_extract rfl rfl) ?_
          refine sr_as ?_
          refine sr_as ?_
          refine sr_nil ?_
          refine aw_kp [2, 3, 5, 7, 9, 10, 11, 31, 32, 33, 34, 35, 36, 37, 38, 39, 40, 41] ?_
          refine aw_seq ?_
          refine aw_seq_region ?_
          refine sr_mv ?_
          refine sr_rd (x_not rfl) ?_
          refine sr_nil ?_
          refine aw_kp [2, 3, 5, 7, 9, 10, 11, 31, 32, 33, 34, 35, 36, 37, 38, 39, 40, 41, 42, 43] ?_
          refine aw_true rfl ?_
          refine aw_seq_region ?_
          refine sr_rd (x_build zr35 rfl fl35 Parts.auto Fill.auto) ?_
          refine sr_x0 rfl (wtd_none rfl) (x_store sz35 rfl rfl rfl rfl rfl Repl.auto Spl.auto) ?_
          refine sr_as ?_
          refine sr_nil ?_
          refine aw_kp [2, 3, 5, 7, 9, 10, 11, 31, 32, 33, 34, 35, 36, 37, 38, 39, 40, 41, 42, 43, 44] ?_
          refine aw_ret ?_
          show ∃ v H2, ResV _ _ _ _ _ _ v ∧ Sub H2 _ ∧ _
          exact ⟨_, H, resV rfl (.cons (⟨_, rfl, fun hw => rd_loadVarN ag35 sz35 hw (cells_ext mauto Ext.auto) rfl⟩) (.cons rfl .nil)), Sub.autoP, ⟨by rw [parseW_bad hk0 hx hrx]; rfl, rfl⟩⟩
        · rename_i z
          refine sr_mv ?_
          refine sr_rd (x_extract rfl rfl) ?_
          refine sr_rd (x_extract rfl rfl) ?_
          refine sr_as ?_
          refine sr_as ?_
          refine sr_nil ?_
          refine aw_kp [2, 3, 5, 7, 9, 10, 11, 31, 32, 33, 34, 35, 36, 37, 38, 39, 40, 41] ?_
          refine aw_seq ?_
          refine aw_seq_region ?_
          refine sr_mv ?_
          refine sr_rd (x_not rfl) ?_
          refine sr_nil ?_
          refine aw_kp [2, 3, 5, 7, 9, 10, 11, 31, 32, 33, 34, 35, 36, 37, 38, 39, 40, 41, 42, 43] ?_
          refine aw_false rfl ?_
          refine aw_skip ?_
          show AW _ _ _ _ _ _ _
          refine aw_region ?_
          refine sr_mv ?_
          refine sr_mv ?_
          refine sr_new rfl (wtd_none rfl) rfl (x_buildSlice Tryd.underlying50 sz2 zr2 rfl rfl rfl rfl Parts.auto Fill.auto) ?_
          intro r17_2 hr17_2 gr17_2
          refine sr_d rfl (wtd_none rfl) rfl (opS_append (G := (r0_0, .cells (Req.cells zeroR).toArray 35 (0, 0)) :: (E ++ H)) (N := (intC z)) (m := 1) Tryd.underlying50 sz2 zr2 rfl by2 rfl rfl VK Sub.autoP (.inr ⟨_, _, rfl, (cells_ext mauto Ext.auto)⟩) (rfl) rfl (by omega) (by omega)) ?_
          rintro v48 _ ⟨E48, hV48, rfl⟩
          obtain ⟨a48, cap48, rfl⟩ := hV48.isSl
          refine sr_as ?_
          refine sr_nil ?_
          show AW _ _ _ _ _ _ _
          refine aw_region ?_
          refine sr_rd (x_add' rfl rfl (i64w (by omega) (by omega))) ?_
          refine sr_mv ?_
          refine sr_nil ?_
          show ∃ s', _ ∧ _ ∧ _ ∧ _
          exact ⟨⟨k + 1, ls ++ [z], .slice a48 (ls.length + 1) cap48, E48⟩, ⟨by dsimp only; omega, by dsimp only; rw [List.length_append, hlk]; rfl, map_snoc hmp hx hrx, (by dsimp only; have h9 := hV48.snocS; rw [List.length_append] at h9 ⊢; exact h9)⟩, by dsimp only; omega, KeepF.auto, Sub.autoP⟩
      · refine sr_nil ?_
        refine aw_kp [2, 3, 5, 7, 31, 32, 33, 34] ?_
        refine aw_seq ?_
        refine aw_false rfl ?_
        refine aw_exit ?_
        show AW _ _ _ _ _ _ _
        refine aw_seq_region ?_
        have ek : k = ws.length := by omega
        rw [ek, List.take_length] at hmp
        obtain ⟨a2, c2, rfl⟩ := VK.isSl
        have hll : ls.length = ws.length := by have := congrArg List.length hmp; simpa using this.symm
        refine sr_mv ?_
        refine sr_mv ?_
        refine sr_d rfl (wtd_none rfl) rfl (opS_call rfl rfl rfl rfl cl55 (with_s (kindOf w) a2 c2 ls _ (VK.slv' (fun _ => rfl) rfl Sub.autoE) (by omega))) ?_
        rintro _ H9 ⟨hw, rfl⟩
        obtain ⟨r, hr, rfl⟩ | ⟨hr, r, rfl⟩ := hw
        · refine sr_mv ?_
          refine sr_rd (x_extract rfl rfl) ?_
          refine sr_rd (x_extract rfl rfl) ?_
          refine sr_new rfl (wtd_none rfl) rfl (x_alloc zr35 rfl) ?_
          intro r19_6 hr19_6 gr19_6
          refine sr_x0 rfl (wtd_none rfl) (x_store sz35 rfl rfl rfl rfl rfl Repl.auto Spl.auto) ?_
          refine sr_as ?_
          refine sr_nil ?_
          refine aw_kp [2, 3, 12, 13] ?_
          refine aw_seq ?_
          refine aw_seq_region ?_
          refine sr_mv ?_
          refine sr_rd (x_not rfl) ?_
          refine sr_nil ?_
          refine aw_kp [2, 3, 12, 57] ?_
          refine aw_false rfl ?_
          refine aw_skip ?_
          show AW _ _ _ _ _ _ _
          refine aw_seq_region ?_
          refine sr_rd (x_loadN ag35 sz35 rfl (cells_ext mauto Ext.auto) rfl) ?_
          refine sr_x0 rfl (wtd_none rfl) (x_store sz35 rfl rfl rfl rfl rfl Repl.auto Spl.auto) ?_
          refine sr_as ?_
          refine sr_nil ?_
          refine aw_kp [2, 3] ?_
          refine aw_ret ?_
          show ∃ v H2, ResV _ _ _ _ _ _ v ∧ Sub H2 _ ∧ _
          exact ⟨_, H, resV rfl (.cons (⟨_, rfl, fun hw => rd_loadVarN ag35 sz35 hw (cells_ext mauto Ext.auto) rfl⟩) (.cons rfl .nil)), Sub.autoP, ⟨by rw [parseW_ok hk0 hmp, hr]; rfl, rfl⟩⟩
        · refine sr_mv ?_
          refine sr_rd (x_extract rfl rfl) ?_
          refine sr_rd (x_extract rfl rfl) ?_
          refine sr_new rfl (wtd_none rfl) rfl (x_alloc zr35 rfl) ?_
          intro r19_6 hr19_6 gr19_6
          refine sr_x0 rfl (wtd_none rfl) (x_store sz35 rfl rfl rfl rfl rfl Repl.auto Spl.auto) ?_
          refine sr_as ?_
          refine sr_nil ?_
          refine aw_kp [2, 3, 12, 13] ?_
          refine aw_seq ?_
          refine aw_seq_region ?_
          refine sr_mv ?_
          refine sr_rd (x_not rfl) ?_
          refine sr_nil ?_
          refine aw_kp [2, 3, 12, 57] ?_
          refine aw_true rfl ?_
          refine aw_seq_region ?_
          refine sr_rd (x_build zr35 rfl fl35 Parts.auto Fill.auto) ?_
          refine sr_x0 rfl (wtd_none rfl) (x_store sz35 rfl rfl rfl rfl rfl Repl.auto Spl.auto) ?_
          refine sr_as ?_
          refine sr_nil ?_
          refine aw_kp [2, 3, 12] ?_
          refine aw_ret ?_
          show ∃ v H2, ResV _ _ _ _ _ _ v ∧ Sub H2 _ ∧ _
          exact ⟨_, H, resV rfl (.cons (⟨_, rfl, fun hw => rd_loadVarN ag35 sz35 hw (cells_ext mauto Ext.auto) rfl⟩) (.cons rfl .nil)), Sub.autoP, ⟨by rw [parseW_ok hk0 hmp, hr]; rfl, rfl⟩⟩
set_option maxRecDepth 100000 in
set_option maxHeartbeats 400000 in
theorem awake26_s (H : SHeap) : AC Tryd.prog W0 25 [] H (fun v H' => v = .bool true ∧ H' = H) := by
  refine ac_of Tryd.func25 rfl rfl rfl ?_
  refine aw_seq_region ?_
  refine sr_as ?_
  refine sr_nil ?_
  refine aw_kp [0] ?_
  refine aw_seq_region ?_
  refine sr_d rfl (wtd_none rfl) rfl (opS_call rfl rfl rfl rfl cl23 (parse_s [116, 105, 99, 107, 32, 53] (by decide) _)) ?_
  rintro _ H ⟨rfl, rfl⟩
  rw [show parseB [116, 105, 99, 107, 32, 53] = some (⟨9, 0, 0, 0, 0, 0, false, 0, 5⟩ : Req) from by kernel_rfl]
  refine sr_mv ?_
  refine sr_rd (x_extract rfl rfl) ?_
  refine sr_rd (x_extract rfl rfl) ?_
  refine sr_new rfl (wtd_none rfl) rfl (x_alloc zr35 rfl) ?_
  intro r1_4 hr1_4 gr1_4
  refine sr_x0 rfl (wtd_none rfl) (x_store sz35 rfl rfl rfl rfl rfl Repl.auto Spl.auto) ?_
  refine sr_as ?_
  refine sr_nil ?_
  refine aw_kp [0, 1, 2] ?_
  refine aw_seq_region ?_
  refine sr_d rfl (wtd_none rfl) rfl (opS_call rfl rfl rfl rfl cl23 (parse_s [116, 105, 99, 107, 32, 48, 53] (by decide) _)) ?_
  rintro _ H9 ⟨rfl, rfl⟩
  rw [show parseB [116, 105, 99, 107, 32, 48, 53] = none from by kernel_rfl]
  refine sr_mv ?_
  refine sr_rd (x_extract rfl rfl) ?_
  refine sr_rd (x_extract rfl rfl) ?_
  refine sr_new rfl (wtd_none rfl) rfl (x_alloc zr35 rfl) ?_
  intro r2_4 hr2_4 gr2_4
  refine sr_x0 rfl (wtd_none rfl) (x_store sz35 rfl rfl rfl rfl rfl Repl.auto Spl.auto) ?_
  refine sr_as ?_
  refine sr_nil ?_
  refine aw_kp [0, 1, 2, 4] ?_
  refine aw_seq_region ?_
  refine sr_mv ?_
  refine sr_c (x_eq rfl rfl) (fun h1 => ?_) (fun h1 => absurd (by decide) h1)
  refine sr_mv ?_
  refine sr_ry (x_loadN ag35 sz35 rfl (cells_ext mauto Ext.auto) rfl) ?_
  refine sr_ry (x_build zr35 rfl fl35 Parts.auto Fill.auto) ?_
  refine sr_cy (x_eqStruct Tryd.underlying35 ks35 rfl rfl rfl rfl rfl) (fun h2 => ?_) (fun h2 => absurd (by decide) h2)
  refine sr_rd (x_pick_t rfl rfl rfl) ?_
  refine sr_mv ?_
  refine sr_ry (x_move rfl) ?_
  refine sr_cy (x_eq rfl rfl) (fun h3 => ?_) (fun h3 => absurd (by decide) h3)
  refine sr_rd (x_pick_t rfl rfl rfl) ?_
  refine sr_as ?_
  refine sr_nil ?_
  refine aw_kp [0] ?_
  refine aw_ret ?_
  show ∃ v H2, ResV _ _ _ _ _ _ v ∧ Sub H2 _ ∧ _
  exact ⟨_, H, resV rfl (.cons rfl .nil), Sub.autoP, ⟨rfl, rfl⟩⟩
set_option maxRecDepth 100000 in
set_option maxHeartbeats 400000 in
theorem cut26_s (l : List UInt8) (H : SHeap) : AC Tryd.prog W0 22 [.string (bs l)] H (fun v H' => v = .string (bs (l.take 150)) ∧ H' = H) := by
  refine ac_of Tryd.func22 rfl rfl rfl ?_
  refine aw_seq_region ?_
  refine sr_as ?_
  refine sr_nil ?_
  refine aw_kp [0, 2] ?_
  refine aw_seq ?_
  refine aw_seq_region ?_
  refine sr_mv ?_
  refine sr_rd (x_lenB Tryd.underlying9 rfl) ?_
  refine sr_c (x_gt rfl rfl) (fun h1 => ?_) (fun h1 => ?_)
  · refine sr_nil ?_
    refine aw_kp [0, 2, 5] ?_
    refine aw_true rfl ?_
    refine aw_seq_region ?_
    refine sr_mv ?_
    refine sr_rd (x_sliceHiB (150) Tryd.underlying9 rfl rfl (by first | rfl | omega) (by omega)) ?_
    refine sr_as ?_
    refine sr_nil ?_
    refine aw_kp [0, 2] ?_
    refine aw_ret ?_
    show ∃ v H2, ResV _ _ _ _ _ _ v ∧ Sub H2 _ ∧ _
    exact ⟨_, H, resV rfl (.cons rfl .nil), (by repeat (first | exact Sub.refl _ | apply Sub.drop)), (by first | exact ⟨rfl, rfl⟩ | exact ⟨by rw [List.take_of_length_le (by omega)]; rfl, rfl⟩)⟩
  · refine sr_nil ?_
    refine aw_kp [0, 2, 5] ?_
    refine aw_false rfl ?_
    refine aw_skip ?_
    show AW _ _ _ _ _ _ _
    refine aw_seq_region ?_
    refine sr_mv ?_
    refine sr_as ?_
    refine sr_nil ?_
    refine aw_kp [2] ?_
    refine aw_ret ?_
    show ∃ v H2, ResV _ _ _ _ _ _ v ∧ Sub H2 _ ∧ _
    exact ⟨_, H, resV rfl (.cons rfl .nil), (by repeat (first | exact Sub.refl _ | apply Sub.drop)), (by first | exact ⟨rfl, rfl⟩ | exact ⟨by rw [List.take_of_length_le (by omega)]; rfl, rfl⟩)⟩
end
end Go.Proofs.YtbcajgkaepihfaaDoor
