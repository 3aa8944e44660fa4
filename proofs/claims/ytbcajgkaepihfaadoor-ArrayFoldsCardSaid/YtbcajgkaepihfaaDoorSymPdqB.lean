/- Sorting more than 256 numbers: bit lengths up to 16. -/
import Derived.Test.YtbcajgkaepihfaaDoorSymPdq
namespace Go.Proofs.YtbcajgkaepihfaaDoor.Sym
set_option linter.unusedVariables false
set_option linter.unusedSimpArgs false
theorem bitLen_big {x : Nat} (h : 256 ≤ x) : bitLen x = bitLen (x / 256) + 8 := by
  have h1 : x ≠ 0 := by omega
  have h2 : x / 256 ≠ 0 := by omega
  unfold bitLen
  rw [if_neg h1, if_neg h2]
  have h3 := Nat.log2_self_le h2
  have h4 : x / 256 < 2 ^ ((x / 256).log2 + 1) := Nat.lt_log2_self
  have e : x.log2 = (x / 256).log2 + 8 := by
    rw [Nat.log2_eq_iff h1]
    rw [Nat.pow_succ] at h4
    rw [show (x / 256).log2 + 8 + 1 = (x / 256).log2 + 9 from rfl, Nat.pow_add, Nat.pow_add]
    generalize 2 ^ (x / 256).log2 = p at h3 h4 ⊢
    have e8 : (2 : Nat) ^ 8 = 256 := by decide
    have e9 : (2 : Nat) ^ 9 = 512 := by decide
    rw [e8, e9]; omega
  omega
theorem bitLen_le16 (x : Nat) (h : x < 65536) : bitLen x ≤ 16 := by
  by_cases q : x < 256
  · have := bitLen_le8 x q; omega
  · rw [bitLen_big (by omega)]
    have := bitLen_le8 (x / 256) (by omega); omega
theorem shlB {L : Nat} (h : L ≤ 16) : IntKind.u64.wrap (1 * 2 ^ (min ((L : Nat) : Int).toNat (IntKind.bits .u64))) = ((2 ^ L : Nat) : Int) := by
  have all : ∀ j : Fin 17, IntKind.u64.wrap (1 * 2 ^ (min ((j.val : Nat) : Int).toNat (IntKind.bits .u64))) = ((2 ^ j.val : Nat) : Int) := by decide +kernel
  exact all ⟨L, by omega⟩
theorem shr8 (x : Nat) : (x : Int).fdiv (2 ^ (min (8 : Int).toNat (IntKind.bits .u64))) = ((x / 256 : Nat) : Int) := by
  show (x : Int).fdiv 256 = _
  rw [Int.fdiv_eq_ediv_of_nonneg _ (by decide)]; omega
end Go.Proofs.YtbcajgkaepihfaaDoor.Sym
