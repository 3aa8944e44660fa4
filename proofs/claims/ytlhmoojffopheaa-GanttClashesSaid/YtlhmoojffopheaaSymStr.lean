/- Strings: what comparing, joining and converting them comes to; structs that are compared. -/
import Derived.Test.YtlhmoojffopheaaSymData
import Derived.Laws.Strings
namespace Go.Proofs.Ytlhmoojffopheaa.Sym
set_option linter.unusedVariables false
set_option linter.unusedSimpArgs false
section
variable {P : Program} {W0 : World} {F : Fm} {H : SHeap} {ro : Option Nat} {d : Option Tmp} {ty : TypeId} {pos : String} {af : Array Edge} {g : Option (Nat × Bool)} {t t' : TypeId} {x y : Operand} {a b : ByteArray}
theorem eqGuard_str {op : BinOp} : eqGuard op t x y (.string a) (.string b) = Pure.pure () := by unfold eqGuard; cases op <;> rfl
theorem exec_binS {op : BinOp} {v : Value} (hx : val F x = some (.string a)) (hy : val F y = some (.string b)) (h : rdSym P W0 H (binOp op t (.string a) (.string b)) = some v) : Rd P W0 F H ⟨d, .binOp op t x y t', ty, pos, af, g⟩ v :=
  exec_rd (by simp) (by simp [Op.operands, some_of hx, some_of hy]) fun _ => by
    simp only [execOp, ev_of hx, ev_of hy, eqGuard_str, rd_bind, rd_pure, Option.bind_some, h]
theorem str_eq : (a.toList == b.toList) = decide (a = b) := by
  rw [ByteArray.toList_eq, ByteArray.toList_eq]
  have : (a.data.toList == b.data.toList) = decide (a.data.toList = b.data.toList) := by
    rw [Bool.eq_iff_iff]; simp
  rw [this]
  congr 1
  rw [Array.toList_inj, ByteArray.ext_iff]
theorem x_eqS (hx : val F x = some (.string a)) (hy : val F y = some (.string b)) : Rd P W0 F H ⟨d, .binOp .eql t x y t', ty, pos, af, g⟩ (.bool (decide (a = b))) :=
  exec_binS hx hy (by simp only [binOp, Op.stringOp, str_eq]; rfl)
theorem x_neS (hx : val F x = some (.string a)) (hy : val F y = some (.string b)) : Rd P W0 F H ⟨d, .binOp .neq t x y t', ty, pos, af, g⟩ (.bool (decide (a ≠ b))) :=
  exec_binS hx hy (by simp only [binOp, Op.stringOp, str_eq, decide_not]; rfl)
theorem x_cat (hx : val F x = some (.string a)) (hy : val F y = some (.string b)) (hs : a.size + b.size ≤ 9223372036854775807) : Rd P W0 F H ⟨d, .binOp .add t x y t', ty, pos, af, g⟩ (.string (a ++ b)) :=
  exec_binS hx hy (by
    simp only [binOp, Op.stringOp]
    rw [if_neg (by have : IntKind.i64.max = 9223372036854775807 := by decide
                   omega)]; rfl)
theorem x_convS {t1 t2 : TypeId} (h1 : P.underlying t1 = some .string) (h2 : P.underlying t2 = some .string) (hx : val F x = some (.string a)) : Rd P W0 F H ⟨d, .convert t1 t2 x, ty, pos, af, g⟩ (.string a) :=
  exec_rd (by simp) (by simp [Op.operands, some_of hx]) fun _ => by
    simp only [execOp, ev_of hx, convert, rd_bind, rd_underlying h1, rd_underlying h2, Option.bind_some]; rfl
end
/-- A row of one's own, as a slice. -/
theorem slv_own {α : Type} {n : Nat} {enc : α → List Value} {W0 : World} {H : SHeap} {r : Nat} {e : TypeId} {fz : Nat × Nat} {xs : List α} {post : List Value} {cap : Nat} (hn : ∀ x, (enc x).length = n) (hm : (r, Obj.cells (xs.flatMap enc ++ post).toArray e fz) ∈ H) (hle : xs.length ≤ cap := by decide) (hcb : cap ≤ 9223372036854775807 := by decide) : SlV W0 H n enc (some ⟨r, 0, none⟩) cap xs :=
  ⟨hle, hcb, fun i x hx => ⟨r, 0, rfl, by rw [Nat.zero_add]; exact cells_flat hn hm hx⟩⟩
end Go.Proofs.Ytlhmoojffopheaa.Sym
