/- Texts of this claim in one: VWire; no condition. -/
import Derived.Laws.BitsLemmas
import Derived.Test.YteopkkoblbmggaaUAF
import Derived.Test.YteopkkoblbmggaaUAL
section
set_option linter.unusedVariables false
set_option linter.unusedSimpArgs false
namespace Go.Proofs.Yteopkkoblbmggaa.P
open Go.RowKit Go.Proofs.YteopkkoblbmggaaW.PrintWords Go.Proofs.YteopkkoblbmggaaW.PrintLast Go.Proofs.YteopkkoblbmggaaW.PrintMore
theorem wrap_in' (x : Int) (h0 : -9223372036854775808 ≤ x) (h1 : x ≤ 9223372036854775807) : wrap64 x = x := by unfold wrap64; omega
theorem u64_eq (x : Int) : IntKind.u64.wrap x = x % 18446744073709551616 := by simp [IntKind.wrap, IntKind.bits, IntKind.signed]
/-- The bytes of a number below 128 ^ (j + 1). -/
def vs : Nat → Nat → List Int
  | 0, u => [(u : Int)]
  | j + 1, u => if u < 128 then [(u : Int)] else ((u % 128 + 128 : Nat) : Int) :: vs j (u / 128)
def zz (n : Int) : Nat := if n < 0 then (-2 * n - 1).toNat else (2 * n).toNat
def enc (n : Int) : List Int := vs 9 (zz n)
def okZ (n : Int) : Prop := -9223372036854775808 ≤ n ∧ n ≤ 9223372036854775807
/-! ### writing -/
set_option maxRecDepth 20000 in
theorem or128 (x : Int) (h0 : 0 ≤ x) (h1 : x < 256) : Go.bits .or .u8 x 128 = x % 128 + 128 := by
  obtain ⟨a, rfl⟩ := Int.eq_ofNat_of_zero_le h0
  have ha : a < 256 := by omega
  have e := (bits_nat .u8 8 (by decide) wraps_u8 a 128 (by omega) (by decide)).2
  have d : ∀ a < 256, a ||| 128 = a % 128 + 128 := by decide
  rw [show ((128 : Int)) = ((128 : Nat) : Int) from rfl, e, d a ha]
  omega
theorem put_l0 : ∀ (j i u : Nat) (out : List Int), u < 128 ^ (j + 1) → out.length + j < 140737488355328 → wire_put.l0 (j + 1 + i) out (u : Int) = some (out ++ vs j u)
  | 0, i, u, out, hu, ho => by
    rw [show 0 + 1 + i = i + 1 by omega]
    have h1 : u < 128 := by simpa using hu
    simp only [wire_put.l0, vs]
    rw [if_neg (by omega), if_pos (by omega), show (u : Int) % 256 = u by omega]
  | j + 1, i, u, out, hu, ho => by
    rw [show j + 1 + 1 + i = (j + 1 + i) + 1 by omega]
    simp only [wire_put.l0, vs]
    by_cases h : u < 128
    · rw [if_neg (by omega), if_pos (by omega), if_pos h, show (u : Int) % 256 = u by omega]
    · rw [if_pos (by omega), if_pos (by omega), if_neg h, or128 _ (by omega) (by omega), show ((u : Int) / 128) = ((u / 128 : Nat) : Int) by omega]
      rw [put_l0 j i (u / 128) _ (by rw [Nat.pow_succ] at hu; omega) (by simp; omega)]
      rw [List.append_assoc]
      have e : (u : Int) % 256 % 128 + 128 = ((u % 128 + 128 : Nat) : Int) := by omega
      rw [e]; rfl
theorem not64 (x : Int) (h0 : 0 ≤ x) (h1 : x < 18446744073709551616) : Go.bits .xor .u64 18446744073709551615 x = 18446744073709551615 - x := by
  obtain ⟨a, rfl⟩ := Int.eq_ofNat_of_zero_le h0
  have e : BitVec.ofInt 64 (18446744073709551615 : Int) = BitVec.allOnes 64 := by decide
  have ha : a < 18446744073709551616 := by omega
  show IntKind.u64.wrap (((BitVec.ofInt 64 (18446744073709551615 : Int) ^^^ BitVec.ofInt 64 (a : Int)).toNat : Nat) : Int) = _
  rw [e, BitVec.allOnes_xor, BitVec.ofInt_natCast, BitVec.toNat_not, BitVec.toNat_ofNat]
  rw [u64_eq, Nat.mod_eq_of_lt (by omega : a < 2 ^ 64)]
  omega
theorem zz_lt (n : Int) (hn : okZ n) : zz n < 18446744073709551616 := by unfold zz; unfold okZ at hn; split <;> omega
theorem put_eq (j : Nat) (out : List Int) (n : Int) (hn : okZ n) (ho : out.length + 9 < 140737488355328) : wire_put.f (11 + j) out n = some (out ++ enc n) := by
  have hz := zz_lt n hn
  have key := put_l0 9 j (zz n) out (by omega) ho
  unfold okZ at hn
  unfold wire_put.f enc
  rw [show 11 + j = (9 + 1 + j) + 1 by omega]
  simp only [wire_put.j0]
  by_cases h : n < 0
  · rw [if_pos h]
    rw [show IntKind.u64.wrap (IntKind.u64.wrap n * 2) = 2 * n + 18446744073709551616 by rw [u64_eq, u64_eq]; omega, not64 _ (by omega) (by omega)]
    rw [show (18446744073709551615 - (2 * n + 18446744073709551616) : Int) = ((zz n : Nat) : Int) by rw [zz, if_pos h]; omega]
    exact key
  · rw [if_neg h]
    rw [show IntKind.u64.wrap (IntKind.u64.wrap n * 2) = ((zz n : Nat) : Int) by rw [u64_eq, u64_eq, zz, if_neg h]; omega]
    exact key
theorem putInt_eq (j : Nat) (out : List Int) (n : Int) (hn : okZ n) (ho : out.length + 20 < 140737488355328) : wire_PutInt.f (11 + j) out n = some (out ++ enc n) := by
  unfold wire_PutInt.f wire_copied.f
  rw [wrap_in' _ (by omega) (by omega), if_pos (by omega), if_pos (by omega)]
  simp only [Option.bind_some, List.length_nil, List.nil_append]
  rw [if_pos (by omega)]
  simp only [Option.bind_some]
  rw [put_eq j out n hn (by omega)]
  rfl
/-! ### reading -/
theorem getD_at {b : List Int} {i : Nat} (h : i < b.length) : b.getD i 0 = b[i] := by simp [List.getD, h]
end Go.Proofs.Yteopkkoblbmggaa.P
end
