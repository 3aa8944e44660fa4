/- copy, append of make, s[i:], cap, and the entry slices.overlaps: what slices.Insert needs. -/
import Derived.Test.YteilocpjikmmdaaSymMap
namespace Go.Proofs.Yteilocpjikmmdaa.Sym
open Go.RowKit (Below)
set_option linter.unusedVariables false
set_option linter.unusedSimpArgs false
theorem spl3 {pre vs ws post : List Value} {k : Nat} (hk : pre.length = k) (h : vs.length = ws.length) : Spl (pre ++ (vs ++ post)) k ws (pre ++ (ws ++ post)) := by
  have := spl_skip (pre := pre) (spl_pre (post := post) h)
  rwa [Nat.add_zero, hk] at this
theorem cut_at {L : List Value} {k : Nat} (h : k ≤ L.length) : ∃ A B, L = A ++ B ∧ A.length = k ∧ B.length = L.length - k ∧ L.take k = A ∧ L.drop k = B :=
  ⟨L.take k, L.drop k, (List.take_append_drop _ _).symm, by rw [List.length_take]; omega, by rw [List.length_drop], rfl, rfl⟩
/-- The one list that comes of writing L's end one place on, and then N. -/
theorem ins_room {L post N : List Value} {i n s : Nat} (hL : L.length = n * s) (hN : N.length = s) (hi : i ≤ n) (hp : s ≤ post.length) :
    ∃ cs1, Spl (L ++ post) ((i + 1) * s) (L.drop (i * s)) cs1 ∧ Spl cs1 (i * s) N ((L.take (i * s) ++ N ++ L.drop (i * s)) ++ post.drop s) := by
  have h1 : i * s ≤ n * s := Nat.mul_le_mul_right _ hi
  have h2 : (i + 1) * s = i * s + s := by rw [Nat.add_mul, Nat.one_mul]
  obtain ⟨A, B, rfl, hA, hB, e1, e2⟩ := cut_at (L := L) (k := i * s) (by omega)
  obtain ⟨P1, P2, rfl, hP, hP2, e3, e4⟩ := cut_at (L := post) (k := s) hp
  obtain ⟨Q1, Q2, hQ, hQ1, hQ2, _, _⟩ := cut_at (L := B ++ P1) (k := s) (by rw [List.length_append]; omega)
  rw [e1, e2, e4]
  have e5 : (A ++ B) ++ (P1 ++ P2) = (A ++ Q1) ++ (Q2 ++ P2) := by
    rw [List.append_assoc, ← List.append_assoc B, hQ]; simp [List.append_assoc]
  have e6 : (A ++ Q1) ++ (B ++ P2) = A ++ (Q1 ++ (B ++ P2)) := by simp [List.append_assoc]
  have e7 : (A ++ N ++ B) ++ P2 = A ++ (N ++ (B ++ P2)) := by simp [List.append_assoc]
  refine ⟨(A ++ Q1) ++ (B ++ P2), ?_, ?_⟩
  · rw [e5]
    exact spl3 (by rw [List.length_append, hA, hQ1, h2]) (by rw [hQ2, List.length_append, hP]; omega)
  · rw [e6, e7]
    exact spl3 hA (by rw [hQ1, hN])
theorem ins_grow {L Z post N : List Value} {i n s : Nat} (hL : L.length = n * s) (hN : N.length = s) (hi : i ≤ n) (hZ : Z.length = (n + 1 - i) * s) :
    ∃ cs1, Spl ((L.take (i * s) ++ Z) ++ post) (i * s) N cs1 ∧ Spl cs1 ((i + 1) * s) (L.drop (i * s)) ((L.take (i * s) ++ N ++ L.drop (i * s)) ++ post) := by
  have h1 : i * s ≤ n * s := Nat.mul_le_mul_right _ hi
  have h2 : (i + 1) * s = i * s + s := by rw [Nat.add_mul, Nat.one_mul]
  have h3 : (n + 1 - i) * s = n * s + s - i * s := by rw [Nat.sub_mul, Nat.add_mul, Nat.one_mul]
  obtain ⟨A, B, rfl, hA, hB, e1, e2⟩ := cut_at (L := L) (k := i * s) (by omega)
  obtain ⟨Z1, Z2, rfl, hZ1, hZ2, _, _⟩ := cut_at (L := Z) (k := s) (by omega)
  rw [e1, e2]
  have e5 : (A ++ (Z1 ++ Z2)) ++ post = A ++ (Z1 ++ (Z2 ++ post)) := by simp [List.append_assoc]
  have e6 : A ++ (N ++ (Z2 ++ post)) = (A ++ N) ++ (Z2 ++ post) := by simp [List.append_assoc]
  have e7 : (A ++ N ++ B) ++ post = (A ++ N) ++ (B ++ post) := by simp [List.append_assoc]
  refine ⟨A ++ (N ++ (Z2 ++ post)), ?_, ?_⟩
  · rw [e5]
    exact spl3 hA (by rw [hZ1, hN])
  · rw [e6, e7]
    exact spl3 (by rw [List.length_append, hA, hN, h2]) (by rw [hZ2, hZ, h3]; omega)
theorem ins_end {L N : List Value} {i n s : Nat} (hL : L.length = n * s) (hi : i = n) : L.take (i * s) ++ N ++ L.drop (i * s) = L ++ N := by
  subst hi
  rw [List.take_of_length_le (by omega), List.drop_eq_nil_of_le (by omega), List.append_nil]
section
variable {P : Program} {W0 : World} {F : Fm} {H H' G : SHeap} {d : Option Tmp} {ty : TypeId} {pos : String} {af : Array Edge} {g : Option (Nat × Bool)} {t t2 e : TypeId} {x y : Operand} {size n : Nat}
theorem x_capSlice {a : Option Addr} {n cap : Nat} (h : P.underlying t = some (.slice e)) (hx : val F x = some (.slice a n cap)) : Rd P W0 F H ⟨d, .call ⟨.builtin .cap, #[x], #[t]⟩, ty, pos, af, g⟩ (.int .i64 cap) :=
  exec_rd (by simp) (by simp [Op.operands, Call.operands, some_of hx]) fun _ => rd_builtin rfl rfl (ev_of hx) (by
    simp only [builtin, Builtin.cap_, rd_bind, rd_underlying h, Option.bind_some, rd_pure, goInt]
    simp [rd_bind, rd_underlying h, rd_pure])
theorem x_sliceLoK {len cap b off : Nat} {k : IntKind} {i : Int} (j : Nat) (h : P.underlying t = some (.slice e)) (hs : szOf P e = some n) (hx : val F x = some (.slice (some ⟨b, off, none⟩) len cap)) (hy : val F y = some (.int k i)) (hj : i = (j : Int)) (hi : j ≤ len) (hlc : len ≤ cap) (hlt : j < cap) :
    Rd P W0 F H ⟨d, .slice t x (some y) none none, ty, pos, af, g⟩ (.slice (some ⟨b, off + j * n, none⟩) (len - j) (cap - j)) := by
  subst hj
  have := x_sliceLo (P := P) (W0 := W0) (F := F) (H := H) (d := d) (ty := ty) (pos := pos) (af := af) (g := g) h hs hx hy (by omega) (by omega) hlc
  rw [Int.toNat_natCast, if_neg (by omega)] at this
  exact this
theorem x_sliceHiK {len cap : Nat} {a : Option Addr} {k : IntKind} {i : Int} (j : Nat) (h : P.underlying t = some (.slice e)) (hs : szOf P e = some n) (hx : val F x = some (.slice a len cap)) (hy : val F y = some (.int k i)) (hj : i = (j : Int)) (hi : j ≤ cap) :
    Rd P W0 F H ⟨d, .slice t x none (some y) none, ty, pos, af, g⟩ (.slice a j cap) := by
  subst hj
  have := x_sliceHi (P := P) (W0 := W0) (F := F) (H := H) (d := d) (ty := ty) (pos := pos) (af := af) (g := g) h hs hx hy (by omega) (by omega)
  rw [Int.toNat_natCast] at this
  exact this
theorem x_sliceLo0 {k : IntKind} {i : Int} (h : P.underlying t = some (.slice e)) (hs : szOf P e = some n) (hx : val F x = some (.slice none 0 0)) (hy : val F y = some (.int k i)) (hi : i = 0) :
    Rd P W0 F H ⟨d, .slice t x (some y) none none, ty, pos, af, g⟩ (.slice none 0 0) :=
  exec_rd (by simp) (by simp [Op.operands, some_of hx, some_of hy]) fun _ => by
    subst hi
    simp only [execOp, ev_of hx, ev_of hy, Option.map_none, Option.map_some, Instr.sliceAt, rd_bind, rd_underlying h, Option.bind_some, Instr.slice, Instr.sliceBounds, rd_pure, Instr.sliceBound, asIntOf, rd_sizeOf hs]
    rfl
theorem x_copy {b off dl dc b' off' sl sc m : Nat} {N cs cs' : List Value} {e2 : TypeId} (hu : P.underlying t = some (.slice e)) (hs : szOf P e = some size) (hx : val F x = some (.slice (some ⟨b, off, none⟩) dl dc)) (hy : val F y = some (.slice (some ⟨b', off', none⟩) sl sc))
    (hn : Nat.min sl dl = m) (hc : Cells W0 H b' off' N) (hl : N.length = m * size) (h1 : N.all oneCell = true) (hr : Repl b (.cells cs.toArray e2 (0, 0)) (.cells cs'.toArray e2 (0, 0)) H H') (hsp : Spl cs off N cs') :
    Exec P W0 F H ⟨d, .call ⟨.builtin .copy, #[x, y], #[t, t2]⟩, ty, pos, af, g⟩ none (.int .i64 m) H' := by
  refine ⟨by simp, by simp [Op.operands, Call.operands, some_of hx, some_of hy], fun hw => .inl ?_⟩
  have hge := hw.2 b (mem_keys hr.mem)
  have hst := run_storeCells (P := P) (W0 := W0) (b := b) (off := off) (e := e2) hge N 0 cs.toArray H (find_of_mem hw.1 hr.mem) hw.1 (by simpa using h1) (by have := (hsp.wr []).2; simpa using this)
  have hwr : wrCells cs.toArray off N = cs'.toArray := by have := (hsp.wr []).1; simpa using this
  rw [Nat.add_zero, hwr, hr.upd hw.1] at hst
  have key : runSym P W0 (Builtin.copy_ #[t, t2] ty #[.slice (some ⟨b, off, none⟩) dl dc, .slice (some ⟨b', off', none⟩) sl sc]) none H = some (.int .i64 m, H') := by
    simp only [Builtin.copy_, List.getElem?_toArray, List.getElem?_cons_zero, List.getElem?_cons_succ]
    rw [runSym_bind _ (rd_run _ (rd_underlying hu))]
    simp only [Builtin.lenOf]
    rw [runSym_bind _ (rd_run _ (rd_pure _)), runSym_bind _ (rd_run _ (rd_sizeOf hs))]
    simp only [hn, Builtin.firstCells]
    rw [runSym_bind _ (rd_run _ (rd_loadCells hw hc hl))]
    simp only []
    rw [runSym_bind _ hst]
    rfl
  simp only [execOp, resolve, invoke]
  simp only [List.map_toArray, List.map_cons, List.map_nil, ev_of hx, ev_of hy, builtin]
  rw [runSym_bind _ (rd_run _ (rd_pure _))]
  exact runSym_map _ _ key
/-- A call of a function that is an entry of the model. -/
theorem x_extern {c : Call} {z : Operand} {f : FuncId} {vs : List Value} {fn : Func} {E : Array Value → Sem Value} {v : Value} (hc : c.callee = .value z) (hz : val F z = some (.func (.func f) #[] #[])) (hv : vals F c.args.toList = some vs) (hf : P.funcs[f]? = some fn)
    (hnum : (fn.name == "runtime.NumGoroutine") = false) (hb : fn.body.isNone = true) (hnx : Extern.findNext fn = none) (he : Extern.find fn = some E) (hr : Wf W0 H → rdSym P W0 H (E vs.toArray) = some v) : Rd P W0 F H ⟨d, .call c, ty, pos, af, g⟩ v := by
  obtain ⟨e1, e2⟩ := vals_ev hv
  refine exec_rd (by simp) (fun x hx => ?_) fun hw => ?_
  · simp only [Op.operands, Call.operands, hc, Array.mem_append] at hx
    rcases hx with hx | hx
    · have : x = z := by simpa using hx
      subst this; exact some_of hz
    · exact e2 x (by simpa using hx)
  · have q1 : c.args.map (ev F) = vs.toArray := by apply Array.toList_inj.1; rw [Array.toList_map, e1]
    simp only [execOp, resolve, hc, ev_of hz, q1, Deferred.ofValue]
    simp only [rd_bind, rd_pure, Option.bind_some, invoke]
    have e3 : (#[] : Array Value) ++ vs.toArray ++ #[] = vs.toArray := by simp
    simp only [callFunc, rd_bind, rd_program, Option.bind_some, hf, hnum, hb, hnx, he, Bool.false_eq_true, if_false, if_true]
    have e4 : rdSym P W0 H (E vs.toArray) = some v := hr hw
    simp [mark, rdSym, rd_bind, rd_pure, e4]
theorem rd_overlaps {ps rs : Array TypeId} {b off la ca b' off' lb cb : Nat} {c c' : Array Value} {e1 e2 : TypeId} (hp : ps[0]? = some t) (hu : P.underlying t = some (.slice e)) (hs : szOf P e = some size) (hne : b ≠ b') (h1 : objAt W0 H b = some (.cells c e1 (0, 0))) (h2 : objAt W0 H b' = some (.cells c' e2 (0, 0))) :
    rdSym P W0 H (Extern.SlicesOverlaps.overlaps ps rs #[.slice (some ⟨b, off, none⟩) la ca, .slice (some ⟨b', off', none⟩) lb cb]) = some (.bool false) := by
  have hbe : (b == b') = false := by simpa using hne
  have hbn : (b != b') = true := by simpa using hne
  have f1 : ∀ o, rdSym P W0 H (frozen ⟨b, o, none⟩) = some false := fun o => by simp [frozen, rdSym, h1, frozenOf]
  have f2 : ∀ o, rdSym P W0 H (frozen ⟨b', o, none⟩) = some false := fun o => by simp [frozen, rdSym, h2, frozenOf]
  have s1 : rdSym P W0 H (shape b) = some (some (e1, c.size)) := by simp [shape, rdSym, h1, shapeOf]
  have s2 : rdSym P W0 H (shape b') = some (some (e2, c'.size)) := by simp [shape, rdSym, h2, shapeOf]
  have n1 : rdSym P W0 H (noView ⟨b, off, none⟩) = some () := by simp [noView, viewAt, rd_bind, s1, rd_pure]
  have n2 : rdSym P W0 H (noView ⟨b', off', none⟩) = some () := by simp [noView, viewAt, rd_bind, s2, rd_pure]
  have g1 : rdSym P W0 H (stringish ⟨b, off, none⟩) = some false := by simp [stringish, rd_bind, f1, s1, rd_pure]
  have g2 : rdSym P W0 H (stringish ⟨b', off', none⟩) = some false := by simp [stringish, rd_bind, f2, s2, rd_pure]
  have m1 : rdSym P W0 H (mayBeOne ⟨b, off, none⟩ ⟨b', off', none⟩) = some false := by simp [mayBeOne, rd_bind, rd_map, g1, g2, s1, s2, rd_pure]
  have e0 : Extern.SlicesOverlaps.overlaps ps rs #[.slice (some ⟨b, off, none⟩) la ca, .slice (some ⟨b', off', none⟩) lb cb] = (do
      let some t := ps[0]? | stuck "slices.overlaps: no parameter types"
      let .slice elem ← underlying t | stuck "slices.overlaps: slice type expected"
      let size ← sizeOf elem
      if la = 0 ∨ lb = 0 ∨ size = 0 then Pure.pure (Value.bool false)
      else if b != b' && (← frozen ⟨b, off, none⟩) && (← frozen ⟨b', off', none⟩) then unsupported .addressObserved
      else do
        if b != b' then do
          noView ⟨b, off, none⟩; noView ⟨b', off', none⟩
          if ← mayBeOne ⟨b, off, none⟩ ⟨b', off', none⟩ then return .bool ((← choose (.extern "sameAddr.stringBytes" 2)) == 1)
        Pure.pure (.bool (b == b' && off < off' + lb * size && off' < off + la * size))) := rfl
  rw [e0]
  simp only [hp, rd_bind, rd_underlying hu, Option.bind_some, rd_sizeOf hs]
  split
  · rfl
  · simp [rd_bind, f1, f2, n1, n2, m1, rd_pure, hbe, hbn]
end
end Go.Proofs.Yteilocpjikmmdaa.Sym
