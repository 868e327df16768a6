/- What both sides' Take say, as plain functions; no condition. -/
import Derived.Laws.BitsLemmas
import Derived.Test.YtekagaimfdbgiaaP9
import Derived.Test.YtekagaimfdbgiaaP19
import Derived.Test.YtekagaimfdbgiaaP7
import Derived.Test.YtekagaimfdbgiaaTake
import Derived.Test.YtekagaimfdbgiaaP10
import Derived.Test.YtekagaimfdbgiaaP12
import Derived.Test.YtekagaimfdbgiaaP15
import Derived.Test.YtekagaimfdbgiaaP26
import Derived.Test.YtekagaimfdbgiaaRTake
import Derived.Test.YtekagaimfdbgiaaP22
set_option linter.unusedVariables false
set_option linter.unusedSimpArgs false
namespace Go.Proofs.Ytekagaimfdbgiaa.P
open Go.RowKit Go.Proofs.YtekagaimfdbgiaaW.PrintWords Go.Proofs.YtekagaimfdbgiaaW.PrintLast Go.Proofs.YtekagaimfdbgiaaW.PrintMore
theorem wrap_in' (x : Int) (h0 : -9223372036854775808 ≤ x) (h1 : x ≤ 9223372036854775807) : wrap64 x = x := by unfold wrap64; omega
theorem u64_eq (x : Int) : IntKind.u64.wrap x = x % 18446744073709551616 := by simp [IntKind.wrap, IntKind.bits, IntKind.signed]
theorem wraps_u64 (n : Int) (h0 : 0 ≤ n) (h1 : n < 2 ^ 64) : IntKind.u64.wrap n = n := by rw [u64_eq]; omega
/-- The bytes of a number below 128 ^ (j + 1). -/
def vs : Nat → Nat → List Int
  | 0, u => [(u : Int)]
  | j + 1, u => if u < 128 then [(u : Int)] else ((u % 128 + 128 : Nat) : Int) :: vs j (u / 128)
def zz (n : Int) : Nat := if n < 0 then (-2 * n - 1).toNat else (2 * n).toNat
def uz (u : Int) : Int := if u % 2 = 1 then -(u / 2) - 1 else u / 2
def uv : List Int → Int
  | [] => 0
  | x :: xs => x % 128 + 128 * uv xs
def nb : List Int → Nat
  | [] => 0
  | x :: xs => if x < 128 then 1 else if nb xs = 0 then 0 else nb xs + 1
/-- What TakeInt says. -/
def dec (b : List Int) : Int × Int × Int :=
  if nb b = 0 then (0, 0, 13)
  else if 10 < nb b ∨ nb b = 10 ∧ 1 < b.getD 9 0 then (0, 0, 12)
  else if 1 < nb b ∧ b.getD (nb b - 1) 0 = 0 then (0, 0, 2)
  else (uz (uv (b.take (nb b))), (nb b : Int), 0)
def enc (n : Int) : List Int := vs 9 (zz n)
def okZ (n : Int) : Prop := -9223372036854775808 ≤ n ∧ n ≤ 9223372036854775807
def okB (l : List Int) : Prop := ∀ x ∈ l, 0 ≤ x ∧ x ≤ 255
/-! ### writing -/
set_option maxRecDepth 20000 in
theorem or128 (x : Int) (h0 : 0 ≤ x) (h1 : x < 256) : Go.bits .or .u8 x 128 = x % 128 + 128 := by
  obtain ⟨a, rfl⟩ := Int.eq_ofNat_of_zero_le h0
  have ha : a < 256 := by omega
  have e := (bits_nat .u8 8 (by decide) wraps_u8 a 128 (by omega) (by decide)).2
  have d : ∀ a < 256, a ||| 128 = a % 128 + 128 := by decide
  rw [show ((128 : Int)) = ((128 : Nat) : Int) from rfl, e, d a ha]
  omega
theorem put_l0 : ∀ (j i u : Nat) (out : List Int), u < 128 ^ (j + 1) → out.length + j < 140737488355328 → wire_put.l0 (j + 1 + i) out (u : Int) = some (out ++ vs j u)
  | 0, i, u, out, hu, ho => by
    rw [show 0 + 1 + i = i + 1 by omega]
    have h1 : u < 128 := by simpa using hu
    simp only [wire_put.l0, vs]
    rw [if_neg (by omega), if_pos (by omega), show (u : Int) % 256 = u by omega]
  | j + 1, i, u, out, hu, ho => by
    rw [show j + 1 + 1 + i = (j + 1 + i) + 1 by omega]
    simp only [wire_put.l0, vs]
    by_cases h : u < 128
    · rw [if_neg (by omega), if_pos (by omega), if_pos h, show (u : Int) % 256 = u by omega]
    · rw [if_pos (by omega), if_pos (by omega), if_neg h, or128 _ (by omega) (by omega), show ((u : Int) / 128) = ((u / 128 : Nat) : Int) by omega]
      rw [put_l0 j i (u / 128) _ (by rw [Nat.pow_succ] at hu; omega) (by simp; omega)]
      rw [List.append_assoc]
      have e : (u : Int) % 256 % 128 + 128 = ((u % 128 + 128 : Nat) : Int) := by omega
      rw [e]; rfl
theorem not64 (x : Int) (h0 : 0 ≤ x) (h1 : x < 18446744073709551616) : Go.bits .xor .u64 18446744073709551615 x = 18446744073709551615 - x := by
  obtain ⟨a, rfl⟩ := Int.eq_ofNat_of_zero_le h0
  have e : BitVec.ofInt 64 (18446744073709551615 : Int) = BitVec.allOnes 64 := by decide
  have ha : a < 18446744073709551616 := by omega
  show IntKind.u64.wrap (((BitVec.ofInt 64 (18446744073709551615 : Int) ^^^ BitVec.ofInt 64 (a : Int)).toNat : Nat) : Int) = _
  rw [e, BitVec.allOnes_xor, BitVec.ofInt_natCast, BitVec.toNat_not, BitVec.toNat_ofNat]
  rw [u64_eq, Nat.mod_eq_of_lt (by omega : a < 2 ^ 64)]
  omega
theorem zz_lt (n : Int) (hn : okZ n) : zz n < 18446744073709551616 := by unfold zz; unfold okZ at hn; split <;> omega
theorem put_eq (j : Nat) (out : List Int) (n : Int) (hn : okZ n) (ho : out.length + 9 < 140737488355328) : wire_put.f (11 + j) out n = some (out ++ enc n) := by
  have hz := zz_lt n hn
  have key := put_l0 9 j (zz n) out (by omega) ho
  unfold okZ at hn
  unfold wire_put.f enc
  rw [show 11 + j = (9 + 1 + j) + 1 by omega]
  simp only [wire_put.j0]
  by_cases h : n < 0
  · rw [if_pos h]
    rw [show IntKind.u64.wrap (IntKind.u64.wrap n * 2) = 2 * n + 18446744073709551616 by rw [u64_eq, u64_eq]; omega, not64 _ (by omega) (by omega)]
    rw [show (18446744073709551615 - (2 * n + 18446744073709551616) : Int) = ((zz n : Nat) : Int) by rw [zz, if_pos h]; omega]
    exact key
  · rw [if_neg h]
    rw [show IntKind.u64.wrap (IntKind.u64.wrap n * 2) = ((zz n : Nat) : Int) by rw [u64_eq, u64_eq, zz, if_neg h]; omega]
    exact key
theorem putInt_eq (j : Nat) (out : List Int) (n : Int) (hn : okZ n) (ho : out.length + 20 < 140737488355328) : wire_PutInt.f (11 + j) out n = some (out ++ enc n) := by
  unfold wire_PutInt.f wire_copied.f
  rw [wrap_in' _ (by omega) (by omega), if_pos (by omega), if_pos (by omega)]
  simp only [Option.bind_some, List.length_nil, List.nil_append]
  rw [if_pos (by omega)]
  simp only [Option.bind_some]
  rw [put_eq j out n hn (by omega)]
  rfl
/-! ### reading -/
theorem getD_at {b : List Int} {i : Nat} (h : i < b.length) : b.getD i 0 = b[i] := by simp [List.getD, h]
theorem len_l0 : ∀ (m : Nat) (b : List Int) (i k : Nat), b.length - i = m → i ≤ b.length → m < k → b.length < 140737488355328 →
    wire_length.l0 k b (b.length : Int) (i : Int) = some (if nb (b.drop i) = 0 then 0 else ((i + nb (b.drop i) : Nat) : Int))
  | 0, b, i, k, hm, hi, hk, hl => by
    obtain ⟨k, rfl⟩ : ∃ q, k = q + 1 := ⟨k - 1, by omega⟩
    simp only [wire_length.l0]
    rw [if_neg (by omega), List.drop_eq_nil_of_le (by omega)]
    rfl
  | m + 1, b, i, k, hm, hi, hk, hl => by
    obtain ⟨k, rfl⟩ : ∃ q, k = q + 1 := ⟨k - 1, by omega⟩
    have hi' : i < b.length := by omega
    simp only [wire_length.l0]
    rw [if_pos (by omega), if_pos (by omega), if_pos (by omega), wrap_in' _ (by omega) (by omega)]
    have e : rd b (i : Int) = b[i] := by unfold rd; rw [Int.toNat_natCast, getD_at hi']
    rw [e, List.drop_eq_getElem_cons hi']
    by_cases h : b[i] < 128
    · have e2 : nb (b[i] :: b.drop (i + 1)) = 1 := by simp [nb, h]
      rw [e2, if_pos h, if_neg (by decide)]; rfl
    · rw [if_neg h, show ((i : Int) + 1) = ((i + 1 : Nat) : Int) by omega, len_l0 m b (i + 1) k (by omega) (by omega) (by omega) hl]
      by_cases h0 : nb (b.drop (i + 1)) = 0
      · have e2 : nb (b[i] :: b.drop (i + 1)) = 0 := by simp [nb, h, h0]
        rw [e2, if_pos h0, if_pos rfl]
      · have e2 : nb (b[i] :: b.drop (i + 1)) = nb (b.drop (i + 1)) + 1 := by simp [nb, h, h0]
        rw [e2, if_neg h0, if_neg (by omega)]; congr 2; omega
theorem nb_le : ∀ b : List Int, nb b ≤ b.length
  | [] => Nat.le_refl _
  | x :: xs => by
    have := nb_le xs
    simp only [nb, List.length_cons]
    split
    · omega
    · split <;> omega
theorem uv_bound : ∀ l : List Int, 0 ≤ uv l ∧ uv l < 128 ^ l.length
  | [] => by simp [uv]
  | x :: xs => by
    have := uv_bound xs
    simp only [uv, List.length_cons, Int.pow_succ]
    omega
theorem uv_snoc : ∀ (b : List Int) (x : Int), uv (b ++ [x]) = uv b + (x % 128) * 128 ^ b.length
  | [], x => by simp [uv]
  | y :: ys, x => by
    simp only [List.cons_append, uv, uv_snoc ys x, List.length_cons, Int.pow_succ, Int.mul_add]
    rw [Int.add_assoc]
    congr 2
    rw [Int.mul_left_comm, Int.mul_comm 128 (128 ^ ys.length)]
theorem take_snoc (b : List Int) (i : Nat) (h : i < b.length) : b.take (i + 1) = b.take i ++ [b[i]] := by rw [List.take_add_one, List.getElem?_eq_getElem h]; rfl
theorem and127 (x : Int) (h0 : 0 ≤ x) (h1 : x ≤ 255) : Go.bits .and .u8 x 127 = x % 128 := bits_mask .u8 8 (by decide) wraps_u8 7 (by decide) x h0 (by omega)
theorem and1 (x : Int) (h0 : 0 ≤ x) (h1 : x < 18446744073709551616) : Go.bits .and .u64 x 1 = x % 2 := bits_mask .u64 64 (by decide) wraps_u64 1 (by decide) x h0 (by omega)
theorem or_join (i : Nat) (x y : Int) (hx₀ : 0 ≤ x) (hx : x % 2 ^ i = 0) (hx₁ : x < 2 ^ 64) (hy₀ : 0 ≤ y) (hy : y < 2 ^ i) (hy₁ : y < 2 ^ 64) : Go.bits .or .u64 y x = y + x := by
  have e := bits_join .u64 64 (by decide) wraps_u64 i x y hx₀ hx hx₁ hy₀ hy hy₁
  obtain ⟨a, rfl⟩ := Int.eq_ofNat_of_zero_le hx₀
  obtain ⟨b, rfl⟩ := Int.eq_ofNat_of_zero_le hy₀
  have ha : a < 2 ^ 64 := by exact_mod_cast hx₁
  have hb : b < 2 ^ 64 := by exact_mod_cast hy₁
  rw [(bits_nat .u64 64 (by decide) wraps_u64 a b ha hb).2] at e
  rw [(bits_nat .u64 64 (by decide) wraps_u64 b a hb ha).2, Nat.or_comm, e, Int.add_comm]
/-- One step of the reading. -/
theorem read_step (b : List Int) (i : Nat) (hi : i < b.length) (hi9 : i ≤ 9) (hb : okB b) (h9 : i = 9 → b.getD 9 0 ≤ 1) :
    Go.bits .or .u64 (uv (b.take i)) (shl .u64 (IntKind.u64.wrap (Go.bits .and .u8 b[i] 127)) (wrap64 (7 * (i : Int)))) = uv (b.take (i + 1)) := by
  have hx := hb _ (List.getElem_mem hi)
  have ⟨h0, h1⟩ := uv_bound (b.take i)
  have hlen : (b.take i).length = i := by rw [List.length_take]; omega
  rw [hlen] at h1
  rw [and127 _ hx.1 hx.2, wraps_u64 _ (by omega) (by omega), wrap_in' _ (by omega) (by omega)]
  have hs : shl .u64 (b[i] % 128) (7 * (i : Int)) = (b[i] % 128) * 128 ^ i := by
    unfold shl
    rw [show min (7 * (i : Int)).toNat IntKind.u64.bits = 7 * i by show min (7 * (i : Int)).toNat 64 = 7 * i; omega, Int.pow_mul]
    have : (b[i] % 128) * 128 ^ i < 2 ^ 64 ∧ 0 ≤ (b[i] % 128) * 128 ^ i := by
      have c : i ≤ 8 ∨ i = 9 := by omega
      have hm : 0 ≤ b[i] % 128 ∧ b[i] % 128 < 128 := by omega
      rcases c with c | c
      · have : i = 0 ∨ i = 1 ∨ i = 2 ∨ i = 3 ∨ i = 4 ∨ i = 5 ∨ i = 6 ∨ i = 7 ∨ i = 8 := by omega
        generalize b[i] % 128 = y at *
        rcases this with h | h | h | h | h | h | h | h | h <;> subst h <;> simp <;> omega
      · have h9' := h9 c
        subst c
        rw [getD_at hi] at h9'
        simp
        omega
    exact wraps_u64 _ this.2 this.1
  rw [hs, take_snoc b i hi, uv_snoc, hlen]
  have hlt : (b[i] % 128) * 128 ^ i < 2 ^ 64 ∧ 0 ≤ (b[i] % 128) * 128 ^ i := by
    have hm : 0 ≤ b[i] % 128 ∧ b[i] % 128 < 128 := by omega
    have c : i ≤ 8 ∨ i = 9 := by omega
    rcases c with c | c
    · have : i = 0 ∨ i = 1 ∨ i = 2 ∨ i = 3 ∨ i = 4 ∨ i = 5 ∨ i = 6 ∨ i = 7 ∨ i = 8 := by omega
      generalize b[i] % 128 = y at *
      rcases this with h | h | h | h | h | h | h | h | h <;> subst h <;> simp <;> omega
    · have h9' := h9 c
      subst c
      rw [getD_at hi] at h9'
      simp
      omega
  have hle : (128 : Int) ^ i ≤ 128 ^ 9 := by
    have : i = 0 ∨ i = 1 ∨ i = 2 ∨ i = 3 ∨ i = 4 ∨ i = 5 ∨ i = 6 ∨ i = 7 ∨ i = 8 ∨ i = 9 := by omega
    rcases this with h | h | h | h | h | h | h | h | h | h <;> subst h <;> decide
  refine or_join (7 * i) _ _ hlt.2 ?_ hlt.1 h0 ?_ ?_
  · rw [Int.pow_mul]; exact Int.mul_emod_left _ _
  · rw [Int.pow_mul]; exact h1
  · omega
theorem uv_ten (b : List Int) (n : Nat) (hn : n ≤ b.length) (h10 : n ≤ 10) (hb : okB b) (h9 : n = 10 → b.getD 9 0 ≤ 1) : uv (b.take n) < 18446744073709551616 := by
  by_cases h : n = 10
  · subst h
    have := h9 rfl
    have hi : 9 < b.length := by omega
    have hx := hb _ (List.getElem_mem hi)
    rw [getD_at hi] at this
    have ⟨h0, h1⟩ := uv_bound (b.take 9)
    rw [take_snoc b 9 hi, uv_snoc]
    have hlen : (b.take 9).length = 9 := by rw [List.length_take]; omega
    rw [hlen] at h1 ⊢
    simp at h1 ⊢
    omega
  · have ⟨h0, h1⟩ := uv_bound (b.take n)
    have hlen : (b.take n).length = n := by rw [List.length_take]; omega
    rw [hlen] at h1
    have hle : (128 : Int) ^ n ≤ 128 ^ 9 := by
      have : n = 0 ∨ n = 1 ∨ n = 2 ∨ n = 3 ∨ n = 4 ∨ n = 5 ∨ n = 6 ∨ n = 7 ∨ n = 8 ∨ n = 9 := by omega
      rcases this with h | h | h | h | h | h | h | h | h | h <;> subst h <;> decide
    omega
theorem tk_l0 : ∀ (m : Nat) (b : List Int) (n i k : Nat), n - i = m → i ≤ n → n ≤ b.length → n ≤ 10 → okB b → (n = 10 → b.getD 9 0 ≤ 1) → m < k →
    wire_TakeInt.l0 k b (n : Int) (uv (b.take i)) (n : Int) (i : Int) = some (uz (uv (b.take n)), (n : Int), 0)
  | 0, b, n, i, k, hm, hi, hn, h10, hb, h9, hk => by
    obtain ⟨k, rfl⟩ : ∃ q, k = q + 1 := ⟨k - 1, by omega⟩
    obtain rfl : i = n := by omega
    simp only [wire_TakeInt.l0]
    have h0 := (uv_bound (b.take i)).1
    have h1 := uv_ten b i hn h10 hb h9
    rw [if_neg (by omega), and1 _ h0 h1, not64 _ (by omega) (by omega)]
    unfold uz
    split
    · congr 2; unfold wrap64; omega
    · congr 2; unfold wrap64; omega
  | m + 1, b, n, i, k, hm, hi, hn, h10, hb, h9, hk => by
    obtain ⟨k, rfl⟩ : ∃ q, k = q + 1 := ⟨k - 1, by omega⟩
    have hi' : i < b.length := by omega
    simp only [wire_TakeInt.l0]
    have e : rd b (i : Int) = b[i] := by unfold rd; rw [Int.toNat_natCast, getD_at hi']
    rw [if_pos (by omega), if_pos (by omega), if_pos (by omega), e]
    rw [read_step b i hi' (by omega) hb (fun c => h9 (by omega)), wrap_in' ((i : Int) + 1) (by omega) (by omega), wrap_in' (7 * (i : Int)) (by omega) (by omega), if_pos (by omega)]
    exact tk_l0 m b n (i + 1) k (by omega) (by omega) hn h10 hb h9 (by omega)
theorem takeInt_j (k : Nat) (b : List Int) (x : Bool) (hl : b.length < 140737488355328) (hb : okB b) (h0 : nb b ≠ 0) (hx : x = true ↔ (10 < nb b ∨ nb b = 10 ∧ 1 < b.getD 9 0)) : wire_TakeInt.j0 (k + 14) b (nb b : Int) x = some (dec b) := by
  have hle := nb_le b
  simp only [wire_TakeInt.j0, wire_TakeInt.j1]
  unfold dec
  rw [if_neg h0]
  by_cases h : 10 < nb b ∨ nb b = 10 ∧ 1 < b.getD 9 0
  · rw [if_pos (hx.mpr h), if_pos h]
  · rw [if_neg (fun c => h (hx.mp c)), if_neg h]
    have key : wire_TakeInt.l0 (k + 12) b (nb b : Int) 0 (nb b : Int) 0 = some (uz (uv (b.take (nb b))), (nb b : Int), 0) := tk_l0 (nb b) b (nb b) 0 (k + 12) (by omega) (by omega) hle (by omega) hb (by omega) (by omega)
    by_cases h1 : nb b > 1
    · rw [if_pos (by omega), wrap_in' _ (by omega) (by omega), if_pos (by omega), if_pos (by omega)]
      have e : rd b ((nb b : Int) - 1) = b.getD (nb b - 1) 0 := by unfold rd; congr 1; omega
      rw [e]
      by_cases h2 : b.getD (nb b - 1) 0 = 0
      · rw [if_pos h2, if_pos ⟨h1, h2⟩]
      · rw [if_neg h2, if_neg (fun c => h2 c.2), key]
    · rw [if_neg (by omega), if_neg (fun c => h1 c.1)]
      have := tk_l0 (nb b) b (nb b) 0 (k + 12) (by omega) (by omega) hle (by omega) hb (by omega) (by omega)
      exact key
theorem takeInt_eq (k : Nat) (b : List Int) (hl : b.length < 140737488355328) (hb : okB b) (hk : b.length + 14 ≤ k) : wire_TakeInt.f k b = some (dec b) := by
  have hle := nb_le b
  unfold wire_TakeInt.f wire_length.f
  have e := len_l0 b.length b 0 k (by omega) (by omega) (by omega) hl
  rw [List.drop_zero] at e
  rw [show (0 : Int) = ((0 : Nat) : Int) from rfl, e]
  simp only [Option.bind_some]
  obtain ⟨k, rfl⟩ : ∃ q, k = q + 14 := ⟨k - 14, by omega⟩
  by_cases h0 : nb b = 0
  · rw [if_pos h0]
    simp [dec, h0]
  · rw [if_neg h0]
    simp only [Nat.zero_add]
    rw [if_neg (by omega)]
    by_cases h1 : 10 < nb b
    · rw [if_pos (by omega)]
      exact takeInt_j k b true hl hb h0 (by simp; omega)
    · rw [if_neg (by omega)]
      by_cases h2 : nb b = 10
      · rw [if_pos (by omega), if_pos (by omega)]
        exact takeInt_j k b _ hl hb h0 (by simp [rd]; omega)
      · rw [if_neg (by omega)]
        exact takeInt_j k b false hl hb h0 (by simp; omega)
open Go.RowKit Go.Proofs.YtekagaimfdbgiaaW.PrintWords Go.Proofs.YtekagaimfdbgiaaW.PrintLast Go.Proofs.YtekagaimfdbgiaaW.PrintMore
theorem vs_len : ∀ j u, 0 < (vs j u).length ∧ (vs j u).length ≤ j + 1
  | 0, u => by simp [vs]
  | j + 1, u => by
    have := vs_len j (u / 128)
    simp only [vs]
    split <;> simp <;> omega
theorem nb_vs : ∀ j u (rest : List Int), u < 128 ^ (j + 1) → nb (vs j u ++ rest) = (vs j u).length
  | 0, u, rest, h => by
    have h1 : u < 128 := by simpa using h
    simp only [vs, List.cons_append, nb, List.length_cons, List.length_nil]
    rw [if_pos (by omega)]
  | j + 1, u, rest, h => by
    simp only [vs]
    by_cases h1 : u < 128
    · rw [if_pos h1]
      simp only [List.cons_append, nb, List.length_cons, List.length_nil]
      rw [if_pos (by omega)]
    · rw [if_neg h1]
      simp only [List.cons_append, nb, List.length_cons]
      have := vs_len j (u / 128)
      rw [if_neg (by omega), nb_vs j (u / 128) rest (by rw [Nat.pow_succ] at h; omega), if_neg (by omega)]
theorem nb_cut : ∀ j u c, c < (vs j u).length → nb ((vs j u).take c) = 0
  | 0, u, c, h => by
    have : c = 0 := by simp [vs] at h; omega
    subst this; rfl
  | j + 1, u, c, h => by
    simp only [vs] at h ⊢
    by_cases h1 : u < 128
    · rw [if_pos h1] at h ⊢
      have : c = 0 := by simp at h; omega
      subst this; rfl
    · rw [if_neg h1] at h ⊢
      cases c with
      | zero => rfl
      | succ c =>
        simp only [List.take_succ_cons, nb]
        rw [if_neg (by omega), nb_cut j (u / 128) c (by simp at h; omega), if_pos rfl]
theorem uv_vs : ∀ j u, u < 128 ^ (j + 1) → uv (vs j u) = (u : Int)
  | 0, u, h => by
    have h1 : u < 128 := by simpa using h
    simp [vs, uv]; omega
  | j + 1, u, h => by
    simp only [vs]
    by_cases h1 : u < 128
    · rw [if_pos h1]; simp [uv]; omega
    · rw [if_neg h1]; simp only [uv]
      rw [uv_vs j (u / 128) (by rw [Nat.pow_succ] at h; omega)]; omega
theorem vs_last : ∀ j u, u < 128 ^ (j + 1) → u ≠ 0 → (vs j u).getD ((vs j u).length - 1) 0 ≠ 0
  | 0, u, h, h0 => by simp [vs]; omega
  | j + 1, u, h, h0 => by
    simp only [vs]
    by_cases h1 : u < 128
    · rw [if_pos h1]; simp; omega
    · rw [if_neg h1]
      have hl := vs_len j (u / 128)
      have key := vs_last j (u / 128) (by rw [Nat.pow_succ] at h; omega) (by omega)
      rw [List.length_cons, Nat.add_sub_cancel]
      obtain ⟨q, hq⟩ : ∃ q, (vs j (u / 128)).length = q + 1 := ⟨(vs j (u / 128)).length - 1, by omega⟩
      rw [hq] at key ⊢
      rw [List.getD_cons_succ]
      exact key
theorem vs_top : ∀ j u, u < 128 ^ (j + 1) → (vs j u).length = j + 1 → (vs j u).getD j 0 = ((u / 128 ^ j : Nat) : Int)
  | 0, u, h, hl => by simp [vs]
  | j + 1, u, h, hl => by
    simp only [vs] at hl ⊢
    by_cases h1 : u < 128
    · rw [if_pos h1] at hl; simp at hl
    · rw [if_neg h1] at hl ⊢
      rw [List.getD_cons_succ, vs_top j (u / 128) (by rw [Nat.pow_succ] at h; omega) (by simp at hl; exact hl), Nat.div_div_eq_div_mul, Nat.pow_succ, Nat.mul_comm]
theorem uz_zz (n : Int) : uz (zz n : Int) = n := by unfold uz zz; split <;> split <;> omega
theorem zz_uz (u : Int) (h0 : 0 ≤ u) : (zz (uz u) : Int) = u := by unfold uz zz; split <;> split <;> omega
theorem getD_app (a b : List Int) (i : Nat) (h : i < a.length) : (a ++ b).getD i 0 = a.getD i 0 := by simp [List.getD, List.getElem?_append_left h]
theorem dec_enc (n : Int) (hn : okZ n) (rest : List Int) : dec (enc n ++ rest) = (n, ((enc n).length : Int), 0) := by
  have hz := zz_lt n hn
  have hl := vs_len 9 (zz n)
  have hb := nb_vs 9 (zz n) rest (by omega)
  unfold dec enc
  rw [hb, if_neg (by omega), if_neg, if_neg, List.take_append_of_le_length (Nat.le_refl _), List.take_length, uv_vs 9 (zz n) (by omega), uz_zz]
  · rintro ⟨h1, h2⟩
    rw [getD_app _ _ _ (by omega)] at h2
    by_cases h0 : zz n = 0
    · rw [h0] at h1; simp [vs] at h1
    · exact vs_last 9 (zz n) (by omega) h0 h2
  · rintro (h1 | ⟨h1, h2⟩)
    · omega
    · rw [getD_app _ _ _ (by omega), vs_top 9 (zz n) (by omega) h1] at h2
      have : zz n / 128 ^ 9 < 2 := by rw [Nat.div_lt_iff_lt_mul (by decide)]; omega
      omega
theorem dec_cut (n : Int) (c : Nat) (h : c < (enc n).length) : dec ((enc n).take c) = (0, 0, 13) := by
  unfold dec enc
  rw [nb_cut 9 (zz n) c h, if_pos rfl]
/-- Bytes that end are those of their value. -/
theorem vs_uv : ∀ (b : List Int) (j : Nat), okB b → nb b ≠ 0 → nb b ≤ j + 1 → (1 < nb b → b.getD (nb b - 1) 0 ≠ 0) → b.take (nb b) = vs j (uv (b.take (nb b))).toNat
  | [], j, hb, h0, hj, hl => absurd rfl h0
  | x :: xs, j, hb, h0, hj, hl => by
    have hx := hb x (List.mem_cons_self)
    by_cases h : x < 128
    · have e : nb (x :: xs) = 1 := by simp [nb, h]
      rw [e]
      simp only [List.take_succ_cons, List.take_zero, uv]
      have e2 : (x % 128 + 128 * 0).toNat = x.toNat := by omega
      rw [e2]
      have e3 : ((x.toNat : Nat) : Int) = x := by omega
      cases j with
      | zero => simp [vs, e3]
      | succ j => simp only [vs]; rw [if_pos (by omega), e3]
    · by_cases h1 : nb xs = 0
      · exfalso; apply h0; simp [nb, h, h1]
      · have e : nb (x :: xs) = nb xs + 1 := by simp [nb, h, h1]
        rw [e] at hj hl ⊢
        obtain ⟨j, rfl⟩ : ∃ q, j = q + 1 := ⟨j - 1, by omega⟩
        obtain ⟨q, hq⟩ : ∃ q, nb xs = q + 1 := ⟨nb xs - 1, by omega⟩
        have hl' : xs.getD (nb xs - 1) 0 ≠ 0 := by
          have := hl (by omega)
          rw [Nat.add_sub_cancel, hq, List.getD_cons_succ] at this
          rw [hq]; exact this
        have ih := vs_uv xs j (fun y hy => hb y (List.mem_cons_of_mem _ hy)) h1 (by omega) (fun _ => hl')
        have hle := nb_le xs
        have hU := (uv_bound (xs.take (nb xs))).1
        have hne : uv (xs.take (nb xs)) ≠ 0 := by
          intro c
          rw [c] at ih
          have e1 : vs j (0 : Int).toNat = [0] := by cases j <;> simp [vs]
          rw [e1] at ih
          have hlen : (xs.take (nb xs)).length = 1 := by rw [ih]; rfl
          rw [List.length_take] at hlen
          have hn1 : nb xs = 1 := by omega
          rw [hn1] at hl' ih
          cases xs with
          | nil => exact h1 rfl
          | cons y ys => simp at ih hl'; exact hl' ih
        simp only [List.take_succ_cons, uv, vs]
        rw [if_neg (by omega)]
        have e4 : (x % 128 + 128 * uv (xs.take (nb xs))).toNat / 128 = (uv (xs.take (nb xs))).toNat := by omega
        have e5 : (((x % 128 + 128 * uv (xs.take (nb xs))).toNat % 128 + 128 : Nat) : Int) = x := by omega
        rw [e4, e5, ← ih]
theorem dec_inv (b : List Int) (hb : okB b) (n k : Int) (h : dec b = (n, k, 0)) : b = enc n ++ b.drop k.toNat ∧ okZ n ∧ k = ((enc n).length : Int) ∧ 0 ≤ k ∧ k ≤ b.length := by
  unfold dec at h
  by_cases h0 : nb b = 0
  · rw [if_pos h0] at h; simp at h
  · rw [if_neg h0] at h
    by_cases h1 : 10 < nb b ∨ nb b = 10 ∧ 1 < b.getD 9 0
    · rw [if_pos h1] at h; simp at h
    · rw [if_neg h1] at h
      by_cases h2 : 1 < nb b ∧ b.getD (nb b - 1) 0 = 0
      · rw [if_pos h2] at h; simp at h
      · rw [if_neg h2] at h
        simp only [Prod.mk.injEq, and_true] at h
        obtain ⟨rfl, rfl⟩ := h
        have hle := nb_le b
        have ht := vs_uv b 9 hb h0 (by omega) (fun c d => h2 ⟨c, d⟩)
        have hu0 := (uv_bound (b.take (nb b))).1
        have hu1 := uv_ten b (nb b) hle (by omega) hb (by intro c; omega)
        have e : zz (uz (uv (b.take (nb b)))) = (uv (b.take (nb b))).toNat := by have := zz_uz _ hu0; omega
        have e2 : enc (uz (uv (b.take (nb b)))) = b.take (nb b) := by rw [enc, e, ← ht]
        rw [e2]
        refine ⟨?_, ?_, ?_, by omega, by omega⟩
        · rw [Int.toNat_natCast, List.take_append_drop]
        · unfold okZ uz; split <;> omega
        · rw [List.length_take]; omega
theorem vs_ok : ∀ j u, u < 128 ^ (j + 1) → okB (vs j u)
  | 0, u, h => by
    have h1 : u < 128 := by simpa using h
    intro x hx
    simp only [vs, List.mem_singleton] at hx
    omega
  | j + 1, u, h => by
    simp only [vs]
    by_cases h1 : u < 128
    · rw [if_pos h1]
      intro x hx
      simp only [List.mem_singleton] at hx
      omega
    · rw [if_neg h1]
      intro x hx
      rcases List.mem_cons.mp hx with hx | hx
      · omega
      · exact vs_ok j (u / 128) (by rw [Nat.pow_succ] at h; omega) x hx
theorem enc_ok (n : Int) (hn : okZ n) : okB (enc n) := vs_ok 9 _ (by have := zz_lt n hn; omega)
theorem enc_len (n : Int) : 0 < (enc n).length ∧ (enc n).length ≤ 10 := vs_len 9 (zz n)
/-! ### many numbers -/
def encs : List Int → List Int
  | [] => []
  | n :: l => enc n ++ encs l
def okZs (l : List Int) : Prop := ∀ n ∈ l, okZ n
theorem encs_app : ∀ a b, encs (a ++ b) = encs a ++ encs b
  | [], b => rfl
  | n :: a, b => by simp only [List.cons_append, encs, encs_app a b, List.append_assoc]
theorem encs_ok : ∀ l, okZs l → okB (encs l)
  | [], _ => fun x hx => by simp [encs] at hx
  | n :: l, h => by
    intro x hx
    rcases List.mem_append.mp hx with hx | hx
    · exact enc_ok n (h n List.mem_cons_self) x hx
    · exact encs_ok l (fun m hm => h m (List.mem_cons_of_mem _ hm)) x hx
theorem encs_len : ∀ l, l.length ≤ (encs l).length ∧ (encs l).length ≤ 10 * l.length
  | [] => by simp [encs]
  | n :: l => by
    have := encs_len l
    have := enc_len n
    simp only [encs, List.length_append, List.length_cons]; omega
def dks : Nat → List Int → List Int × List Int × Int
  | 0, l => ([], l, 0)
  | n + 1, l => if (dec l).2.2 = 0 then (if (dks n (l.drop (dec l).2.1.toNat)).2.2 = 0 then ((dec l).1 :: (dks n (l.drop (dec l).2.1.toNat)).1, (dks n (l.drop (dec l).2.1.toNat)).2.1, 0) else ([], [], (dks n (l.drop (dec l).2.1.toNat)).2.2)) else ([], [], (dec l).2.2)
theorem dks_encs : ∀ l rest, okZs l → dks l.length (encs l ++ rest) = (l, rest, 0)
  | [], rest, _ => rfl
  | n :: l, rest, h => by
    have hn := h n List.mem_cons_self
    simp only [List.length_cons, dks, encs, List.append_assoc, dec_enc n hn, Int.toNat_natCast, List.drop_left, dks_encs l rest (fun m hm => h m (List.mem_cons_of_mem _ hm)), if_true]
theorem dks_cut : ∀ l c, okZs l → c < (encs l).length → dks l.length ((encs l).take c) = ([], [], 13)
  | [], c, _, hc => by simp [encs] at hc
  | n :: l, c, h, hc => by
    have hn := h n List.mem_cons_self
    simp only [List.length_cons, dks, encs]
    by_cases h1 : c < (enc n).length
    · rw [List.take_append_of_le_length (by omega), dec_cut n c h1]; rfl
    · have e : (enc n ++ encs l).take c = enc n ++ (encs l).take (c - (enc n).length) := by
        rw [List.take_append, List.take_of_length_le (by omega)]
      simp only [encs, List.length_append] at hc
      rw [e]
      simp only [dec_enc n hn, Int.toNat_natCast, List.drop_left, dks_cut l (c - (enc n).length) (fun m hm => h m (List.mem_cons_of_mem _ hm)) (by omega), if_true]
      rfl
theorem okB_drop (b : List Int) (n : Nat) (h : okB b) : okB (b.drop n) := fun x hx => h x (List.mem_of_mem_drop hx)
theorem dks_inv : ∀ n b l rest, okB b → dks n b = (l, rest, 0) → b = encs l ++ rest ∧ okZs l ∧ l.length = n
  | 0, b, l, rest, hb, h => by
    simp only [dks, Prod.mk.injEq, and_true] at h
    obtain ⟨rfl, rfl⟩ := h
    exact ⟨rfl, fun m hm => by simp at hm, rfl⟩
  | n + 1, b, l, rest, hb, h => by
    simp only [dks] at h
    by_cases h1 : (dec b).2.2 = 0
    · rw [if_pos h1] at h
      by_cases h2 : (dks n (b.drop (dec b).2.1.toNat)).2.2 = 0
      · rw [if_pos h2] at h
        simp only [Prod.mk.injEq, and_true] at h
        obtain ⟨rfl, rfl⟩ := h
        obtain ⟨e1, e2, e3⟩ := dks_inv n (b.drop (dec b).2.1.toNat) _ _ (okB_drop _ _ hb) (by rw [← h2])
        obtain ⟨d1, d2, d3, d4, d5⟩ := dec_inv b hb (dec b).1 (dec b).2.1 (by rw [← h1])
        refine ⟨?_, ?_, ?_⟩
        · rw [encs, List.append_assoc, ← e1]; exact d1
        · intro m hm
          rcases List.mem_cons.mp hm with hm | hm
          · rw [hm]; exact d2
          · exact e2 m hm
        · rw [List.length_cons, e3]
      · rw [if_neg h2] at h
        simp only [Prod.mk.injEq] at h
        exact absurd h.2.2 h2
    · rw [if_neg h1] at h
      simp only [Prod.mk.injEq] at h
      exact absurd h.2.2 h1
theorem dks_err : ∀ n b, (dks n b).2.2 ≠ 0 → (dks n b).1 = [] ∧ (dks n b).2.1 = []
  | 0, b, h => absurd rfl h
  | n + 1, b, h => by
    simp only [dks] at h ⊢
    by_cases h1 : (dec b).2.2 = 0
    · rw [if_pos h1] at h ⊢
      by_cases h2 : (dks n (b.drop (dec b).2.1.toNat)).2.2 = 0
      · rw [if_pos h2] at h; exact absurd rfl h
      · rw [if_neg h2]; exact ⟨rfl, rfl⟩
    · rw [if_neg h1]; exact ⟨rfl, rfl⟩
theorem dec_k (b : List Int) : 0 ≤ (dec b).2.1 ∧ (dec b).2.1 ≤ b.length := by
  have := nb_le b
  unfold dec
  split
  · simp
  · split
    · simp
    · split
      · simp
      · simp; omega
open Go.RowKit Go.Proofs.YtekagaimfdbgiaaW.PrintWords Go.Proofs.YtekagaimfdbgiaaW.PrintLast Go.Proofs.YtekagaimfdbgiaaW.PrintMore
theorem wrap_in (x : Int) (h0 : -9223372036854775808 ≤ x) (h1 : x ≤ 9223372036854775807) : wrap64 x = x := by unfold wrap64; omega
def colP (k c : Int) : Prop := if k = 1 ∨ k = 2 then c = 0 ∨ c = 1 else if k = 3 then 2 ≤ c ∧ c < 8 else c = 8
instance (k c : Int) : Decidable (colP k c) := by unfold colP; infer_instance
def sayC (k c d v m : Int) : Int :=
  if k = 1 then (if 0 ≤ d ∧ d ≤ 8 ∧ -1 ≤ v ∧ v ≤ 1 then (if m = 0 then 0 else 2) else 1)
  else if k = 2 then (if d = 0 ∧ v = 0 ∧ m = 0 then 0 else 2)
  else if k = 3 then (ofP (c - 2) d v m).2.2.2
  else if k = 4 then (if d = 0 ∧ v = 0 then (if m < -16 ∨ 16 < m ∨ m = 0 then 1 else 0) else 2) else 0
/-- The error of Check. -/
def chkP (k c b l d v m : Int) : Int :=
  if k < 1 ∨ 4 < k then 9
  else if ¬ colP k c then 16
  else if b < 0 ∨ 8191 < b ∨ l < 1 ∨ 8192 - b < l then 1
  else sayC k c d v m
theorem says_eq (j : Nat) (k c b l d v m : Int) (hc : 0 ≤ c ∧ c ≤ 8) : symbol_says.f (j + 1) k c b l d v m = some (sayC k c d v m) := by
  unfold symbol_says.f sayC
  rw [wrap_in (c - 2) (by omega) (by omega)]
  by_cases k1 : k = 1
  · rw [if_pos k1, if_pos k1]
    have e : dir_Check.f d v = some (if 0 ≤ d ∧ d ≤ 8 ∧ -1 ≤ v ∧ v ≤ 1 then 0 else 1) := aim_Of.dcheck_eq d v
    rw [e, Option.bind_some]
    by_cases h : 0 ≤ d ∧ d ≤ 8 ∧ -1 ≤ v ∧ v ≤ 1
    · rw [if_pos h, if_pos h, if_pos rfl]; split <;> rfl
    · rw [if_neg h, if_neg h, if_neg (by decide)]
  · rw [if_neg k1, if_neg k1]
    by_cases k2 : k = 2
    · rw [if_pos k2, if_pos k2]
      by_cases h : d = 0 <;> by_cases h' : v = 0 <;> by_cases h'' : m = 0 <;> simp [h, h', h'']
    · rw [if_neg k2, if_neg k2]
      by_cases k3 : k = 3
      · rw [if_pos k3, if_pos k3]
        simp only [aim_Of.f, Option.bind_some]
      · rw [if_neg k3, if_neg k3]
        simp only [symbol_says.j0]
        by_cases k4 : k = 4 <;> by_cases h : d = 0 <;> by_cases h' : v = 0 <;> simp [k4, h, h']
        by_cases a : m < -16 <;> by_cases a' : 16 < m <;> by_cases a'' : m = 0 <;> simp [a, a', a'']
theorem place_eq (k c b l d v m : Int) (h : ¬ (k < 1 ∨ 4 < k)) : symbol_place.f k c b l d v m = some (decide (colP k c)) := by
  unfold symbol_place.f symbol_support.f colP
  grind
theorem symCheck_j (j : Nat) (x : Bool) (k c b l d v m : Int) (hx : x = false) (h1 : ¬ (k < 1 ∨ 4 < k)) : symbol_Check.j0 (j + 2) x k c b l d v m = some (chkP k c b l d v m) := by
  subst hx
  simp only [symbol_Check.j0, chkP, if_neg h1]
  rw [place_eq k c b l d v m h1, if_neg (by decide)]
  simp only [Option.bind_some, decide_eq_true_eq]
  by_cases h2 : colP k c
  · have hc : 0 ≤ c ∧ c ≤ 8 := by unfold colP at h2; grind
    rw [if_pos h2, if_neg (not_not_intro h2), says_eq j k c b l d v m hc]
    by_cases h3 : b < 0 ∨ 8191 < b
    · rw [if_pos (by omega : b < 0 ∨ 8191 < b ∨ l < 1 ∨ 8192 - b < l)]
      rcases h3 with h3 | h3
      · rw [if_pos h3]
      · rw [if_neg (by omega), if_pos (by omega)]
    · rw [wrap_in (8192 - b) (by omega) (by omega), if_neg (by omega), if_neg (by omega)]
      by_cases h4 : l < 1 ∨ 8192 - b < l
      · rw [if_pos (by omega : b < 0 ∨ 8191 < b ∨ l < 1 ∨ 8192 - b < l)]
        rcases h4 with h4 | h4
        · rw [if_pos h4]
        · by_cases h5 : l < 1
          · rw [if_pos h5]
          · rw [if_neg h5, if_pos (by omega)]
      · rw [if_neg (by omega), if_neg (by omega), if_neg (by omega : ¬ (b < 0 ∨ 8191 < b ∨ l < 1 ∨ 8192 - b < l))]
        rfl
  · rw [if_neg h2, if_pos h2]
theorem symCheck_eq (j : Nat) (k c b l d v m : Int) : symbol_Check.f (j + 2) k c b l d v m = some (chkP k c b l d v m) := by
  unfold symbol_Check.f
  by_cases h1 : k < 1 ∨ 4 < k
  · have e : chkP k c b l d v m = 9 := by rw [chkP, if_pos h1]
    rw [e]
    rcases h1 with h1 | h1
    · rw [if_pos h1]; simp [symbol_Check.j0]
    · rw [if_neg (by omega)]; simp [symbol_Check.j0, h1]
  · rw [if_neg (by omega)]
    exact symCheck_j j _ k c b l d v m (by simp; omega) h1
open Go.RowKit Go.Proofs.YtekagaimfdbgiaaW.PrintWords Go.Proofs.YtekagaimfdbgiaaW.PrintLast Go.Proofs.YtekagaimfdbgiaaW.PrintMore
def valP (c d : Int) : Bool := decide (1 ≤ c ∧ c ≤ 1000000 ∧ 1 ≤ d ∧ d ≤ 64)
def lessP (a b c d : Int) : Bool := decide (a < c ∨ a = c ∧ b < d)
theorem valid_eq (c d : Int) : edits_valid.f c d = some (valP c d) := by
  unfold edits_valid.f valP
  by_cases h1 : 1 ≤ c <;> by_cases h2 : c ≤ 1000000 <;> by_cases h3 : 1 ≤ d <;> by_cases h4 : d ≤ 64 <;> simp [h1, h2, h3, h4, GE.ge]
theorem eless_eq (a b c d : Int) : edits_Less.f a b c d = some (lessP a b c d) := by
  unfold edits_Less.f lessP
  by_cases h1 : a < c
  · simp [h1]
  · by_cases h2 : a = c <;> simp [h1, h2]
/-- The error of Check. -/
def chkE (a0 a1 a2 a3 a4 : Int) (a5 : Bool) (a6 a7 a8 a9 a10 a11 a12 : Int) : Int :=
  if valP a0 a1 = false ∨ valP a3 a4 = false ∨ lessP a0 a1 a3 a4 = true then 43
  else if a2 < 0 ∨ 12 ≤ a2 then 33
  else if a5 = true then (if a6 = 0 ∧ a7 = 0 ∧ a8 = 0 ∧ a9 = 0 ∧ a10 = 0 ∧ a11 = 0 ∧ a12 = 0 then 0 else 2)
  else chkP a6 a7 a8 a9 a10 a11 a12
theorem chk_j0 (j : Nat) (x : Bool) (a0 a1 a2 a3 a4 : Int) (a5 : Bool) (a6 a7 a8 a9 a10 a11 a12 : Int) :
    edits_Check.j0 (j + 4) x a0 a1 a2 a3 a4 a5 a6 a7 a8 a9 a10 a11 a12 = some (if x = true then 43 else if a2 < 0 ∨ 12 ≤ a2 then 33
      else if a5 = true then (if a6 = 0 ∧ a7 = 0 ∧ a8 = 0 ∧ a9 = 0 ∧ a10 = 0 ∧ a11 = 0 ∧ a12 = 0 then 0 else 2) else chkP a6 a7 a8 a9 a10 a11 a12) := by
  simp only [edits_Check.j0, edits_Check.j1, symCheck_eq, Option.bind_some]
  cases x
  · simp only [Bool.false_eq_true, if_false, if_true]
    by_cases h1 : a2 < 0
    · rw [if_pos h1, if_pos (Or.inl h1)]
    · rw [if_neg h1]
      by_cases h2 : 12 ≤ a2
      · rw [if_pos (by simpa using h2), if_pos (Or.inr h2)]
      · rw [if_neg (by simpa using h2), if_neg (show ¬ (a2 < 0 ∨ 12 ≤ a2) by omega)]
        cases a5
        · simp
        · simp only [if_true]
          by_cases h : a6 = 0 ∧ a7 = 0 ∧ a8 = 0 ∧ a9 = 0 ∧ a10 = 0 ∧ a11 = 0 ∧ a12 = 0
          · obtain ⟨rfl, rfl, rfl, rfl, rfl, rfl, rfl⟩ := h
            rfl
          · rw [if_neg h, if_pos]
            simp only [Bool.or_eq_true, Bool.not_eq_true', beq_eq_false_iff_ne]
            by_cases b1 : a6 = 0
            · by_cases b2 : a7 = 0
              · by_cases b3 : a8 = 0
                · by_cases b4 : a9 = 0
                  · by_cases b5 : a10 = 0
                    · by_cases b6 : a11 = 0
                      · by_cases b7 : a12 = 0
                        · exact absurd ⟨b1, b2, b3, b4, b5, b6, b7⟩ h
                        · exact Or.inr (Or.inr (Or.inr (Or.inr (Or.inr (Or.inr b7)))))
                      · exact Or.inr (Or.inr (Or.inr (Or.inr (Or.inr (Or.inl b6)))))
                    · exact Or.inr (Or.inr (Or.inr (Or.inr (Or.inl b5))))
                  · exact Or.inr (Or.inr (Or.inr (Or.inl b4)))
                · exact Or.inr (Or.inr (Or.inl b3))
              · exact Or.inr (Or.inl b2)
            · exact Or.inl b1
  · simp
theorem check_eq (j : Nat) (a0 a1 a2 a3 a4 : Int) (a5 : Bool) (a6 a7 a8 a9 a10 a11 a12 : Int) :
    edits_Check.f (j + 4) a0 a1 a2 a3 a4 a5 a6 a7 a8 a9 a10 a11 a12 = some (chkE a0 a1 a2 a3 a4 a5 a6 a7 a8 a9 a10 a11 a12) := by
  unfold edits_Check.f chkE
  simp only [valid_eq, eless_eq, Option.bind_some, chk_j0]
  cases h1 : valP a0 a1 <;> cases h2 : valP a3 a4 <;> cases h3 : lessP a0 a1 a3 a4 <;> simp
theorem ints_l0 : ∀ (m : Nat) (out l : List Int) (i k : Nat), l.length - i = m → i ≤ l.length → l.length < 1000 → okZs l → out.length + 10 * m + 20 < 140737488355328 → m + 12 ≤ k →
    edits_ints.l0 k out l (l.length : Int) (i : Int) = some (out ++ encs (l.drop i))
  | 0, out, l, i, k, hm, hi, hs, hl, ho, hk => by
    obtain ⟨k, rfl⟩ : ∃ q, k = q + 1 := ⟨k - 1, by omega⟩
    simp only [edits_ints.l0]
    rw [if_neg (by omega), List.drop_eq_nil_of_le (by omega)]
    simp [encs]
  | m + 1, out, l, i, k, hm, hi, hs, hl, ho, hk => by
    obtain ⟨k, rfl⟩ : ∃ q, k = q + 1 := ⟨k - 1, by omega⟩
    obtain ⟨q, rfl⟩ : ∃ q, k = 11 + q := ⟨k - 11, by omega⟩
    have hi' : i < l.length := by omega
    have hz : okZ l[i] := hl _ (List.getElem_mem hi')
    simp only [edits_ints.l0]
    have e : rd l (i : Int) = l[i] := by unfold rd; rw [Int.toNat_natCast, getD_at hi']
    rw [if_pos (by omega), if_pos (by omega), if_pos (by omega), e, putInt_eq q out l[i] hz (by omega), Option.bind_some, wrap_in' _ (by omega) (by omega)]
    have hlen := enc_len l[i]
    rw [show ((i : Int) + 1) = ((i + 1 : Nat) : Int) by omega, ints_l0 m (out ++ enc l[i]) l (i + 1) (11 + q) (by omega) (by omega) hs hl (by rw [List.length_append]; omega) (by omega)]
    rw [List.drop_eq_getElem_cons hi', encs, List.append_assoc]
theorem ints_eq (k : Nat) (out l : List Int) (hs : l.length ≤ 20) (hl : okZs l) (ho : out.length < 1000) (hk : 40 ≤ k) : edits_ints.f k out l = some (out ++ encs l) := by
  unfold edits_ints.f
  have := ints_l0 l.length out l 0 k (by omega) (by omega) (by omega) hl (by omega) (by omega)
  rw [List.drop_zero] at this
  exact this
def headN (a0 a1 a2 a3 a4 : Int) (a5 : Bool) : List Int := [a0, a1, a2, a3, a4, if a5 = true then 1 else 0]
def tailN (a5 : Bool) (a6 a7 a8 a9 a10 a11 a12 : Int) : List Int := if a5 = true then [] else [a6, a7, a8, a9, a10, a11, a12]
/-- The bytes of an edit. -/
def putB (a0 a1 a2 a3 a4 : Int) (a5 : Bool) (a6 a7 a8 a9 a10 a11 a12 : Int) : List Int := encs (headN a0 a1 a2 a3 a4 a5) ++ encs (tailN a5 a6 a7 a8 a9 a10 a11 a12)
def okE (a0 a1 a2 a3 a4 : Int) (a6 a7 a8 a9 a10 a11 a12 : Int) : Prop := okZ a0 ∧ okZ a1 ∧ okZ a2 ∧ okZ a3 ∧ okZ a4 ∧ okZ a6 ∧ okZ a7 ∧ okZ a8 ∧ okZ a9 ∧ okZ a10 ∧ okZ a11 ∧ okZ a12
theorem head_ok {a0 a1 a2 a3 a4 a6 a7 a8 a9 a10 a11 a12 : Int} (a5 : Bool) (h : okE a0 a1 a2 a3 a4 a6 a7 a8 a9 a10 a11 a12) : okZs (headN a0 a1 a2 a3 a4 a5) := by
  obtain ⟨h0, h1, h2, h3, h4, -⟩ := h
  intro n hn
  simp only [headN, List.mem_cons, List.not_mem_nil, or_false] at hn
  rcases hn with rfl | rfl | rfl | rfl | rfl | rfl <;> first | assumption | (split <;> (unfold okZ; omega))
theorem tail_ok {a0 a1 a2 a3 a4 a6 a7 a8 a9 a10 a11 a12 : Int} (a5 : Bool) (h : okE a0 a1 a2 a3 a4 a6 a7 a8 a9 a10 a11 a12) : okZs (tailN a5 a6 a7 a8 a9 a10 a11 a12) := by
  obtain ⟨-, -, -, -, -, h6, h7, h8, h9, h10, h11, h12⟩ := h
  intro n hn
  cases a5
  · simp only [tailN, Bool.false_eq_true, if_false, List.mem_cons, List.not_mem_nil, or_false] at hn
    rcases hn with rfl | rfl | rfl | rfl | rfl | rfl | rfl <;> assumption
  · simp [tailN] at hn
theorem putB_ok {a0 a1 a2 a3 a4 a6 a7 a8 a9 a10 a11 a12 : Int} (a5 : Bool) (h : okE a0 a1 a2 a3 a4 a6 a7 a8 a9 a10 a11 a12) : okB (putB a0 a1 a2 a3 a4 a5 a6 a7 a8 a9 a10 a11 a12) := by
  intro x hx
  rcases List.mem_append.mp hx with hx | hx
  · exact encs_ok _ (head_ok a5 h) x hx
  · exact encs_ok _ (tail_ok a5 h) x hx
theorem putB_len (a0 a1 a2 a3 a4 : Int) (a5 : Bool) (a6 a7 a8 a9 a10 a11 a12 : Int) : (putB a0 a1 a2 a3 a4 a5 a6 a7 a8 a9 a10 a11 a12).length ≤ 130 := by
  have h1 := (encs_len (headN a0 a1 a2 a3 a4 a5)).2
  have h2 := (encs_len (tailN a5 a6 a7 a8 a9 a10 a11 a12)).2
  have l1 : (headN a0 a1 a2 a3 a4 a5).length = 6 := rfl
  have l2 : (tailN a5 a6 a7 a8 a9 a10 a11 a12).length ≤ 7 := by unfold tailN; split <;> simp
  unfold putB
  rw [List.length_append]
  omega
theorem put_edit_eq (k : Nat) (hk : 40 ≤ k) {a0 a1 a2 a3 a4 a6 a7 a8 a9 a10 a11 a12 : Int} (a5 : Bool) (h : okE a0 a1 a2 a3 a4 a6 a7 a8 a9 a10 a11 a12) :
    edits_Put.f k a0 a1 a2 a3 a4 a5 a6 a7 a8 a9 a10 a11 a12 = some (if chkE a0 a1 a2 a3 a4 a5 a6 a7 a8 a9 a10 a11 a12 = 0 then (putB a0 a1 a2 a3 a4 a5 a6 a7 a8 a9 a10 a11 a12, 0) else ([], chkE a0 a1 a2 a3 a4 a5 a6 a7 a8 a9 a10 a11 a12)) := by
  obtain ⟨h0, h1, h2, h3, h4, h6, h7, h8, h9, h10, h11, h12⟩ := h
  have z0 : okZ 0 := by unfold okZ; omega
  have z1 : okZ 1 := by unfold okZ; omega
  have e1 := ints_eq k [] [a0, a1, a2, a3, a4] (by simp) (by intro n hn; simp only [List.mem_cons, List.not_mem_nil, or_false] at hn; rcases hn with rfl | rfl | rfl | rfl | rfl <;> assumption) (by simp) hk
  have hlen := (encs_len [a0, a1, a2, a3, a4]).2
  have hlen' : (encs [a0, a1, a2, a3, a4]).length ≤ 50 := hlen
  have e2 := ints_eq k (encs [a0, a1, a2, a3, a4]) [1] (by simp) (by intro n hn; simp only [List.mem_cons, List.not_mem_nil, or_false] at hn; rw [hn]; exact z1) (by omega) hk
  have e3 := ints_eq k (encs [a0, a1, a2, a3, a4]) [0, a6, a7, a8, a9, a10, a11, a12] (by simp) (by intro n hn; simp only [List.mem_cons, List.not_mem_nil, or_false] at hn; rcases hn with rfl | rfl | rfl | rfl | rfl | rfl | rfl | rfl <;> assumption) (by omega) hk
  unfold edits_Put.f
  obtain ⟨j, rfl⟩ : ∃ j, k = j + 4 := ⟨k - 4, by omega⟩
  rw [check_eq, Option.bind_some]
  by_cases hc : chkE a0 a1 a2 a3 a4 a5 a6 a7 a8 a9 a10 a11 a12 = 0
  · rw [if_pos hc, if_pos hc, e1, Option.bind_some, List.nil_append]
    cases a5
    · simp only [Bool.false_eq_true, if_false]
      rw [e3, Option.bind_some]
      simp [putB, headN, tailN, encs, List.append_assoc]
    · simp only [if_true]
      rw [e2, Option.bind_some]
      simp [putB, headN, tailN, encs, List.append_assoc]
  · rw [if_neg hc, if_neg hc]
theorem tks_eq (k : Nat) : ∀ (n : Nat) (b : List Int), b.length < 140737488355328 → okB b → b.length + 14 ≤ k → tks k n b = some (dks n b)
  | 0, b, _, _, _ => rfl
  | n + 1, b, hl, hb, hk => by
    have hd := dec_k b
    simp only [tks, dks, takeInt_eq k b hl hb hk, Option.bind_some]
    by_cases h1 : (dec b).2.2 = 0
    · have hdl : (b.drop (dec b).2.1.toNat).length ≤ b.length := by rw [List.length_drop]; omega
      rw [if_pos h1, if_pos h1, if_pos hd.1, if_pos hd.2, tks_eq k n _ (by omega) (okB_drop _ _ hb) (by omega), Option.bind_some]
    · rw [if_neg h1, if_neg h1]
abbrev E14 := Int × Int × Int × Int × Int × Bool × Int × Int × Int × Int × Int × Int × Int × Int
def errE (e : Int) : E14 := (0, 0, 0, 0, 0, false, 0, 0, 0, 0, 0, 0, 0, e)
def endP (a0 a1 a2 a3 a4 : Int) (a5 : Bool) (a6 a7 a8 a9 a10 a11 a12 : Int) (rest : List Int) : E14 :=
  if rest.length = 0 then (if chkE a0 a1 a2 a3 a4 a5 a6 a7 a8 a9 a10 a11 a12 = 0 then (a0, a1, a2, a3, a4, a5, a6, a7, a8, a9, a10, a11, a12, 0) else errE (chkE a0 a1 a2 a3 a4 a5 a6 a7 a8 a9 a10 a11 a12)) else errE 2
theorem end_eq (j : Nat) (a0 a1 a2 a3 a4 : Int) (a5 : Bool) (a6 a7 a8 a9 a10 a11 a12 : Int) (rest : List Int) :
    takeEnd (j + 4) a0 a1 a2 a3 a4 a5 a6 a7 a8 a9 a10 a11 a12 rest = some (endP a0 a1 a2 a3 a4 a5 a6 a7 a8 a9 a10 a11 a12 rest) := by
  unfold takeEnd endP
  rw [check_eq, Option.bind_some]
  split
  · split <;> rfl
  · rfl
/-- What Take says. -/
def takeP (b : List Int) : E14 :=
  if (dks 6 b).2.2 = 0 then
    (if (dks 6 b).1.getD 5 0 = 1 then endP ((dks 6 b).1.getD 0 0) ((dks 6 b).1.getD 1 0) ((dks 6 b).1.getD 2 0) ((dks 6 b).1.getD 3 0) ((dks 6 b).1.getD 4 0) true 0 0 0 0 0 0 0 (dks 6 b).2.1
    else if (dks 6 b).1.getD 5 0 = 0 then
      (if (dks 7 (dks 6 b).2.1).2.2 = 0 then endP ((dks 6 b).1.getD 0 0) ((dks 6 b).1.getD 1 0) ((dks 6 b).1.getD 2 0) ((dks 6 b).1.getD 3 0) ((dks 6 b).1.getD 4 0) false ((dks 7 (dks 6 b).2.1).1.getD 0 0) ((dks 7 (dks 6 b).2.1).1.getD 1 0) ((dks 7 (dks 6 b).2.1).1.getD 2 0) ((dks 7 (dks 6 b).2.1).1.getD 3 0) ((dks 7 (dks 6 b).2.1).1.getD 4 0) ((dks 7 (dks 6 b).2.1).1.getD 5 0) ((dks 7 (dks 6 b).2.1).1.getD 6 0) (dks 7 (dks 6 b).2.1).2.1
      else errE (dks 7 (dks 6 b).2.1).2.2)
    else errE 2)
  else errE (dks 6 b).2.2
theorem take_eq (k : Nat) (b : List Int) (hl : b.length < 140737488355328) (hb : okB b) (hk : b.length + 14 ≤ k) : edits_Take.f k b = some (takeP b) := by
  have e1 := tks_eq k 6 b hl hb hk
  obtain ⟨j, rfl⟩ : ∃ j, k = j + 4 := ⟨k - 4, by omega⟩
  unfold edits_Take.f takeP
  rw [e1, Option.bind_some]
  by_cases h1 : (dks 6 b).2.2 = 0
  · obtain ⟨i1, i2, i3⟩ := dks_inv 6 b (dks 6 b).1 (dks 6 b).2.1 hb (by rw [← h1])
    have hr : (dks 6 b).2.1.length ≤ b.length := by have := congrArg List.length i1; rw [List.length_append] at this; omega
    have hrb : okB (dks 6 b).2.1 := fun x hx => hb x (by rw [i1]; exact List.mem_append_right _ hx)
    have e2 := tks_eq (j + 4) 7 (dks 6 b).2.1 (by omega) hrb (by omega)
    rw [if_pos h1, if_pos h1]
    split
    · rw [end_eq]
    · split
      · rw [e2, Option.bind_some]
        split
        · rw [end_eq]
        · rfl
      · rfl
  · rw [if_neg h1, if_neg h1]; rfl
/-! ### an edit and its bytes -/
theorem take_put {a0 a1 a2 a3 a4 a6 a7 a8 a9 a10 a11 a12 : Int} (a5 : Bool) (h : okE a0 a1 a2 a3 a4 a6 a7 a8 a9 a10 a11 a12) (hc : chkE a0 a1 a2 a3 a4 a5 a6 a7 a8 a9 a10 a11 a12 = 0) (more : List Int) :
    takeP (putB a0 a1 a2 a3 a4 a5 a6 a7 a8 a9 a10 a11 a12 ++ more) = if more.length = 0 then (a0, a1, a2, a3, a4, a5, a6, a7, a8, a9, a10, a11, a12, 0) else errE 2 := by
  have e1 := dks_encs (headN a0 a1 a2 a3 a4 a5) (encs (tailN a5 a6 a7 a8 a9 a10 a11 a12) ++ more) (head_ok a5 h)
  have e2 := dks_encs (tailN a5 a6 a7 a8 a9 a10 a11 a12) more (tail_ok a5 h)
  rw [show (headN a0 a1 a2 a3 a4 a5).length = 6 from rfl, ← List.append_assoc] at e1
  unfold takeP putB
  cases a5
  · rw [show (tailN false a6 a7 a8 a9 a10 a11 a12).length = 7 from rfl] at e2
    simp only [e1, e2]
    simp only [headN, tailN, Bool.false_eq_true, if_false, if_true]
    simp only [List.getD_cons_zero, List.getD_cons_succ, Int.reduceEq, if_false, if_true, endP, hc]
  · rw [e1]
    have hz : a6 = 0 ∧ a7 = 0 ∧ a8 = 0 ∧ a9 = 0 ∧ a10 = 0 ∧ a11 = 0 ∧ a12 = 0 := by
      unfold chkE at hc
      split at hc
      · cases hc
      · split at hc
        · cases hc
        · simp only [if_true] at hc
          split at hc
          · assumption
          · cases hc
    obtain ⟨rfl, rfl, rfl, rfl, rfl, rfl, rfl⟩ := hz
    simp only [headN, tailN, encs, List.nil_append, if_true, List.getD_cons_zero, List.getD_cons_succ, endP, hc]
theorem take_cut {a0 a1 a2 a3 a4 a6 a7 a8 a9 a10 a11 a12 : Int} (a5 : Bool) (h : okE a0 a1 a2 a3 a4 a6 a7 a8 a9 a10 a11 a12) (c : Nat) (hcl : c < (putB a0 a1 a2 a3 a4 a5 a6 a7 a8 a9 a10 a11 a12).length) :
    takeP ((putB a0 a1 a2 a3 a4 a5 a6 a7 a8 a9 a10 a11 a12).take c) = errE 13 := by
  have h6 : (headN a0 a1 a2 a3 a4 a5).length = 6 := rfl
  by_cases h1 : c < (encs (headN a0 a1 a2 a3 a4 a5)).length
  · have e1 := dks_cut (headN a0 a1 a2 a3 a4 a5) c (head_ok a5 h) h1
    rw [h6] at e1
    unfold takeP putB
    rw [List.take_append_of_le_length (by omega), e1]
    rfl
  · have e0 : (putB a0 a1 a2 a3 a4 a5 a6 a7 a8 a9 a10 a11 a12).take c = encs (headN a0 a1 a2 a3 a4 a5) ++ (encs (tailN a5 a6 a7 a8 a9 a10 a11 a12)).take (c - (encs (headN a0 a1 a2 a3 a4 a5)).length) := by
      unfold putB; rw [List.take_append, List.take_of_length_le (by omega)]
    unfold putB at hcl
    rw [List.length_append] at hcl
    have e1 := dks_encs (headN a0 a1 a2 a3 a4 a5) ((encs (tailN a5 a6 a7 a8 a9 a10 a11 a12)).take (c - (encs (headN a0 a1 a2 a3 a4 a5)).length)) (head_ok a5 h)
    have e2 := dks_cut (tailN a5 a6 a7 a8 a9 a10 a11 a12) (c - (encs (headN a0 a1 a2 a3 a4 a5)).length) (tail_ok a5 h) (by omega)
    rw [e0]
    unfold takeP
    rw [h6] at e1
    cases a5
    · rw [show (tailN false a6 a7 a8 a9 a10 a11 a12).length = 7 from rfl] at e2
      simp only [e1, e2]
      simp only [headN, Bool.false_eq_true, if_false, if_true]
      simp only [List.getD_cons_zero, List.getD_cons_succ, Int.reduceEq, if_false, if_true]
    · simp [tailN, encs] at hcl
      omega
open Go.RowKit Go.Proofs.YtekagaimfdbgiaaW.PrintWords Go.Proofs.YtekagaimfdbgiaaW.PrintLast Go.Proofs.YtekagaimfdbgiaaW.PrintMore
theorem column_eq (j : Nat) (k c : Int) (h : ¬ (k < 1 ∨ 4 < k)) : dancestudioref23_column.f (j + 1) k c = some (decide (colP k c)) := by
  unfold dancestudioref23_column.f dancestudioref23_column.j0 colP
  grind
theorem refCheck_1 (j : Nat) (x : Bool) (k c b l d v m : Int) (h1 : ¬ (k < 1 ∨ 4 < k)) (hc : 0 ≤ c ∧ c ≤ 8) : dancestudioref23_Check.j1 (j + 2) x k c b l d v m = some (if x = true then 1 else sayC k c d v m) := by
  simp only [dancestudioref23_Check.j1, sayC]
  rw [wrap_in (c - 2) (by omega) (by omega)]
  cases x with
  | true => simp
  | false =>
    simp only [if_neg (show ¬ (false = true) by decide)]
    by_cases k1 : k = 1
    · rw [if_pos k1, if_pos k1]
      have e : dancestudioref16_Check.f d v = some (if 0 ≤ d ∧ d ≤ 8 ∧ -1 ≤ v ∧ v ≤ 1 then 0 else 1) := dancestudioref18_Of.dcheck_eq d v
      rw [e, Option.bind_some]
      by_cases h : 0 ≤ d ∧ d ≤ 8 ∧ -1 ≤ v ∧ v ≤ 1
      · rw [if_pos h, if_pos h, if_pos rfl]; split <;> rfl
      · rw [if_neg h, if_neg h, if_neg (by decide)]
    · rw [if_neg k1, if_neg k1]
      by_cases k3 : k = 3
      · rw [if_pos k3, if_neg (by omega), if_pos k3]
        simp only [dancestudioref18_Of.f, Option.bind_some]
      · rw [if_neg k3, if_neg k3]
        simp only [dancestudioref23_Check.j2]
        by_cases k2 : k = 2
        · by_cases h : d = 0 <;> by_cases h' : v = 0 <;> by_cases h'' : m = 0 <;> simp [h, h', h'', k2]
        · have k4 : k = 4 := by omega
          by_cases h : d = 0 <;> by_cases h' : v = 0 <;> simp [k4, h, h']
          by_cases a : m < -16 <;> by_cases a' : 16 < m <;> by_cases a'' : m = 0 <;> simp [a, a', a'']
theorem refCheck_j (j : Nat) (x : Bool) (k c b l d v m : Int) (hx : x = false) (h1 : ¬ (k < 1 ∨ 4 < k)) : dancestudioref23_Check.j0 (j + 3) x k c b l d v m = some (chkP k c b l d v m) := by
  subst hx
  simp only [dancestudioref23_Check.j0, chkP, if_neg h1]
  rw [column_eq (j + 1) k c h1, if_neg (by decide)]
  simp only [Option.bind_some, decide_eq_true_eq]
  by_cases h2 : colP k c
  · have hc : 0 ≤ c ∧ c ≤ 8 := by unfold colP at h2; grind
    rw [if_pos h2, if_neg (not_not_intro h2), refCheck_1 j _ k c b l d v m h1 hc, refCheck_1 j _ k c b l d v m h1 hc]
    by_cases h3 : b < 0 ∨ 8191 < b
    · rw [if_pos (by omega : b < 0 ∨ 8191 < b ∨ l < 1 ∨ 8192 - b < l)]
      rcases h3 with h3 | h3
      · rw [if_pos h3]; rfl
      · rw [if_neg (by omega), if_pos (by omega)]; rfl
    · rw [wrap_in (8192 - b) (by omega) (by omega), if_neg (by omega), if_neg (by omega)]
      by_cases h4 : l < 1 ∨ 8192 - b < l
      · rw [if_pos (by omega : b < 0 ∨ 8191 < b ∨ l < 1 ∨ 8192 - b < l)]
        rcases h4 with h4 | h4
        · rw [if_pos h4]; rfl
        · by_cases h5 : l < 1
          · rw [if_pos h5]; rfl
          · rw [if_neg h5, if_pos (by simpa using h4)]
      · rw [if_neg (by omega), if_neg (by simp; omega), if_neg (by omega : ¬ (b < 0 ∨ 8191 < b ∨ l < 1 ∨ 8192 - b < l))]
  · rw [if_neg h2, if_pos h2]
theorem refCheck_eq (j : Nat) (k c b l d v m : Int) : dancestudioref23_Check.f (j + 3) k c b l d v m = some (chkP k c b l d v m) := by
  unfold dancestudioref23_Check.f
  by_cases h1 : k < 1 ∨ 4 < k
  · have e : chkP k c b l d v m = 9 := by rw [chkP, if_pos h1]
    rw [e]
    rcases h1 with h1 | h1
    · rw [if_pos h1]; simp [dancestudioref23_Check.j0]
    · rw [if_neg (by omega)]; simp [dancestudioref23_Check.j0, h1]
  · rw [if_neg (by omega)]
    exact refCheck_j j _ k c b l d v m (by simp; omega) h1
open Go.RowKit Go.Proofs.YtekagaimfdbgiaaW.PrintWords Go.Proofs.YtekagaimfdbgiaaW.PrintLast Go.Proofs.YtekagaimfdbgiaaW.PrintMore
theorem rvalid_eq' (c d : Int) : dancestudioref56_Valid.f c d = some (valP c d) := by
  unfold dancestudioref56_Valid.f valP
  by_cases h1 : 1 ≤ c <;> by_cases h2 : c ≤ 1000000 <;> by_cases h3 : 1 ≤ d <;> by_cases h4 : d ≤ 64 <;> simp [h1, h2, h3, h4, GE.ge]
theorem rless_eq (a b c d : Int) : dancestudioref56_Less.f a b c d = some (lessP a b c d) := by
  unfold dancestudioref56_Less.f lessP
  by_cases h2 : a = c
  · simp [h2]
  · simp [h2]
theorem rchk_j0 (j : Nat) (x : Bool) (a0 a1 a2 a3 a4 : Int) (a5 : Bool) (a6 a7 a8 a9 a10 a11 a12 : Int) :
    dancestudioref56_Check.j0 (j + 5) x a0 a1 a2 a3 a4 a5 a6 a7 a8 a9 a10 a11 a12 = some (if x = true then 43 else if a2 < 0 ∨ 12 ≤ a2 then 33
      else if a5 = true then (if a6 = 0 ∧ a7 = 0 ∧ a8 = 0 ∧ a9 = 0 ∧ a10 = 0 ∧ a11 = 0 ∧ a12 = 0 then 0 else 2) else chkP a6 a7 a8 a9 a10 a11 a12) := by
  have e := chk_j0 (j + 1) x a0 a1 a2 a3 a4 a5 a6 a7 a8 a9 a10 a11 a12
  rw [← e]
  simp only [dancestudioref56_Check.j0, dancestudioref56_Check.j1, edits_Check.j0, edits_Check.j1, symCheck_eq, refCheck_eq]
theorem rcheck_eq (j : Nat) (a0 a1 a2 a3 a4 : Int) (a5 : Bool) (a6 a7 a8 a9 a10 a11 a12 : Int) :
    dancestudioref56_Check.f (j + 5) a0 a1 a2 a3 a4 a5 a6 a7 a8 a9 a10 a11 a12 = some (chkE a0 a1 a2 a3 a4 a5 a6 a7 a8 a9 a10 a11 a12) := by
  unfold dancestudioref56_Check.f chkE
  simp only [rvalid_eq', rless_eq, Option.bind_some, rchk_j0]
  cases h1 : valP a0 a1 <;> cases h2 : valP a3 a4 <;> cases h3 : lessP a0 a1 a3 a4 <;> simp
theorem rput_l0 : ∀ (j i u : Nat) (out : List Int), u < 128 ^ (j + 1) → u < 18446744073709551616 → out.length + j < 140737488355328 → dancestudioref07_PutInt.l0 (j + 1 + i) out (u : Int) = some (out ++ vs j u)
  | 0, i, u, out, hu, hu2, ho => by
    rw [show 0 + 1 + i = i + 1 by omega]
    have h1 : u < 128 := by simpa using hu
    simp only [dancestudioref07_PutInt.l0, vs]
    rw [if_neg (by omega), if_pos (by omega), show (u : Int) % 256 = u by omega]
  | j + 1, i, u, out, hu, hu2, ho => by
    rw [show j + 1 + 1 + i = (j + 1 + i) + 1 by omega]
    simp only [dancestudioref07_PutInt.l0, vs]
    by_cases h : u < 128
    · rw [if_neg (by omega), if_pos (by omega), if_pos h, show (u : Int) % 256 = u by omega]
    · have e1 : Int.tmod (u : Int) 128 = (u : Int) % 128 := Int.tmod_eq_emod_of_nonneg (by omega)
      have e2 : Int.tdiv (u : Int) 128 = (u : Int) / 128 := Int.tdiv_eq_ediv_of_nonneg (by omega)
      rw [if_pos (by omega), if_pos (by omega), if_neg h, e1, e2, u64_eq, u64_eq, show ((u : Int) / 128) % 18446744073709551616 = ((u / 128 : Nat) : Int) by omega]
      rw [rput_l0 j i (u / 128) _ (by rw [Nat.pow_succ] at hu; omega) (by omega) (by simp; omega)]
      rw [List.append_assoc]
      have e : ((u : Int) % 128 + 128) % 18446744073709551616 % 256 = ((u % 128 + 128 : Nat) : Int) := by omega
      rw [e]; rfl
theorem rcode_eq (n : Int) (hn : okZ n) : dancestudioref07_code.f n = some (zz n : Int) := by
  unfold okZ at hn
  unfold dancestudioref07_code.f zz
  by_cases h : n < 0
  · rw [if_pos h, if_pos h, wrap_in' (n + 1) (by omega) (by omega), wrap_in' _ (by omega) (by omega)]
    simp only [u64_eq, Option.some.injEq]
    omega
  · rw [if_neg h, if_neg h]
    simp only [u64_eq, Option.some.injEq]
    omega
theorem rputInt_eq (j : Nat) (out : List Int) (n : Int) (hn : okZ n) (ho : out.length + 20 < 140737488355328) : dancestudioref07_PutInt.f (10 + j) out n = some (out ++ enc n) := by
  have hz := zz_lt n hn
  unfold dancestudioref07_PutInt.f enc
  simp only [Option.bind_some, List.length_nil, List.nil_append]
  rw [if_pos (by omega), rcode_eq n hn, Option.bind_some]
  exact rput_l0 9 j (zz n) out (by omega) hz (by omega)
theorem rput_loop : ∀ (m : Nat) (out l : List Int) (i k : Nat), l.length - i = m → i ≤ l.length → l.length < 1000 → okZs l → out.length + 10 * m + 20 < 140737488355328 → m + 12 ≤ k →
    dancestudioref56_Put.l0 k out l (i : Int) = some (out ++ encs (l.drop i), 0)
  | 0, out, l, i, k, hm, hi, hs, hl, ho, hk => by
    obtain ⟨k, rfl⟩ : ∃ q, k = q + 1 := ⟨k - 1, by omega⟩
    simp only [dancestudioref56_Put.l0]
    rw [if_neg (by omega), List.drop_eq_nil_of_le (by omega)]
    simp [encs]
  | m + 1, out, l, i, k, hm, hi, hs, hl, ho, hk => by
    obtain ⟨k, rfl⟩ : ∃ q, k = q + 1 := ⟨k - 1, by omega⟩
    obtain ⟨q, rfl⟩ : ∃ q, k = 10 + q := ⟨k - 10, by omega⟩
    have hi' : i < l.length := by omega
    have hz : okZ l[i] := hl _ (List.getElem_mem hi')
    simp only [dancestudioref56_Put.l0]
    have e : rd l (i : Int) = l[i] := by unfold rd; rw [Int.toNat_natCast, getD_at hi']
    rw [if_pos (by omega), if_pos (by omega), e, rputInt_eq q out l[i] hz (by omega), Option.bind_some, wrap_in' _ (by omega) (by omega)]
    have hlen := enc_len l[i]
    rw [show ((i : Int) + 1) = ((i + 1 : Nat) : Int) by omega, rput_loop m (out ++ enc l[i]) l (i + 1) (10 + q) (by omega) (by omega) hs hl (by rw [List.length_append]; omega) (by omega)]
    rw [List.drop_eq_getElem_cons hi', encs, List.append_assoc]
theorem rnumbers_eq (a0 a1 a2 a3 a4 : Int) (a5 : Bool) (a6 a7 a8 a9 a10 a11 a12 : Int) : dancestudioref56_numbers.f a0 a1 a2 a3 a4 a5 a6 a7 a8 a9 a10 a11 a12 = some (headN a0 a1 a2 a3 a4 a5 ++ tailN a5 a6 a7 a8 a9 a10 a11 a12) := by
  unfold dancestudioref56_numbers.f headN tailN
  cases a5 <;> simp
theorem rput_edit_eq (k : Nat) (hk : 40 ≤ k) {a0 a1 a2 a3 a4 a6 a7 a8 a9 a10 a11 a12 : Int} (a5 : Bool) (h : okE a0 a1 a2 a3 a4 a6 a7 a8 a9 a10 a11 a12) :
    dancestudioref56_Put.f k a0 a1 a2 a3 a4 a5 a6 a7 a8 a9 a10 a11 a12 = some (if chkE a0 a1 a2 a3 a4 a5 a6 a7 a8 a9 a10 a11 a12 = 0 then (putB a0 a1 a2 a3 a4 a5 a6 a7 a8 a9 a10 a11 a12, 0) else ([], chkE a0 a1 a2 a3 a4 a5 a6 a7 a8 a9 a10 a11 a12)) := by
  unfold dancestudioref56_Put.f
  obtain ⟨j, rfl⟩ : ∃ j, k = j + 5 := ⟨k - 5, by omega⟩
  rw [rcheck_eq, Option.bind_some]
  by_cases hc : chkE a0 a1 a2 a3 a4 a5 a6 a7 a8 a9 a10 a11 a12 = 0
  · rw [if_pos hc, if_pos hc, rnumbers_eq, Option.bind_some]
    have hz : okZs (headN a0 a1 a2 a3 a4 a5 ++ tailN a5 a6 a7 a8 a9 a10 a11 a12) := by
      intro n hn
      rcases List.mem_append.mp hn with hn | hn
      · exact head_ok a5 h n hn
      · exact tail_ok a5 h n hn
    have hlen : (headN a0 a1 a2 a3 a4 a5 ++ tailN a5 a6 a7 a8 a9 a10 a11 a12).length ≤ 13 := by unfold headN tailN; cases a5 <;> simp
    have e := rput_loop _ [] (headN a0 a1 a2 a3 a4 a5 ++ tailN a5 a6 a7 a8 a9 a10 a11 a12) 0 (j + 5) rfl (by omega) (by omega) hz (by rw [List.length_nil]; omega) (by omega)
    rw [List.drop_zero, List.nil_append, encs_app] at e
    exact e
  · rw [if_neg hc, if_neg hc]
open Go.RowKit Go.Proofs.YtekagaimfdbgiaaW.PrintWords Go.Proofs.YtekagaimfdbgiaaW.PrintLast Go.Proofs.YtekagaimfdbgiaaW.PrintMore
theorem rlast_l0 : ∀ (m : Nat) (b : List Int) (i k : Nat), b.length - i = m → i ≤ b.length → m < k → b.length < 140737488355328 →
    dancestudioref07_last.l0 k b (i : Int) = some (if nb (b.drop i) = 0 then -1 else ((i + nb (b.drop i) : Nat) : Int) - 1)
  | 0, b, i, k, hm, hi, hk, hl => by
    obtain ⟨k, rfl⟩ : ∃ q, k = q + 1 := ⟨k - 1, by omega⟩
    simp only [dancestudioref07_last.l0]
    rw [if_neg (by omega), List.drop_eq_nil_of_le (by omega)]
    rfl
  | m + 1, b, i, k, hm, hi, hk, hl => by
    obtain ⟨k, rfl⟩ : ∃ q, k = q + 1 := ⟨k - 1, by omega⟩
    have hi' : i < b.length := by omega
    simp only [dancestudioref07_last.l0]
    have e : rd b (i : Int) = b[i] := by unfold rd; rw [Int.toNat_natCast, getD_at hi']
    rw [if_pos (by omega), if_pos (by omega), wrap_in' _ (by omega) (by omega), e, List.drop_eq_getElem_cons hi']
    by_cases h : b[i] < 128
    · have e2 : nb (b[i] :: b.drop (i + 1)) = 1 := by simp [nb, h]
      rw [e2, if_pos h, if_neg (by decide)]; congr 1; omega
    · rw [if_neg h, show ((i : Int) + 1) = ((i + 1 : Nat) : Int) by omega, rlast_l0 m b (i + 1) k (by omega) (by omega) (by omega) hl]
      by_cases h0 : nb (b.drop (i + 1)) = 0
      · have e2 : nb (b[i] :: b.drop (i + 1)) = 0 := by simp [nb, h, h0]
        rw [e2, if_pos h0, if_pos rfl]
      · have e2 : nb (b[i] :: b.drop (i + 1)) = nb (b.drop (i + 1)) + 1 := by simp [nb, h, h0]
        rw [e2, if_neg h0, if_neg (by omega)]; congr 1; omega
theorem uv_drop : ∀ (l : List Int) (i : Nat), uv (l.drop i) ≤ uv l
  | [], i => by simp
  | x :: xs, 0 => Int.le_refl _
  | x :: xs, i + 1 => by
    have h := uv_drop xs i
    have h0 := (uv_bound xs).1
    simp only [List.drop_succ_cons, uv]
    omega
theorem rtk_l0 (b : List Int) (n : Nat) (hn : n ≤ b.length) (h10 : n ≤ 10) (hb : okB b) (h9 : n = 10 → b.getD 9 0 ≤ 1) : ∀ (m k : Nat), m ≤ n → m < k →
    dancestudioref07_TakeInt.l0 k b ((n : Int) - 1) (uv ((b.take n).drop m)) ((m : Int) - 1) = some (uz (uv (b.take n)), (n : Int), 0)
  | 0, k, hm, hk => by
    obtain ⟨k, rfl⟩ : ∃ q, k = q + 1 := ⟨k - 1, by omega⟩
    have h0 := (uv_bound (b.take n)).1
    have h1 := uv_ten b n hn h10 hb h9
    simp only [dancestudioref07_TakeInt.l0, List.drop_zero]
    have e1 : Int.tmod (uv (b.take n)) 2 = uv (b.take n) % 2 := Int.tmod_eq_emod_of_nonneg h0
    have e2 : Int.tdiv (uv (b.take n)) 2 = uv (b.take n) / 2 := Int.tdiv_eq_ediv_of_nonneg h0
    rw [if_neg (by omega), e1, e2, wraps_u64 _ (by omega) (by omega), wrap_in' ((n : Int) - 1 + 1) (by omega) (by omega), wrap_in' (uv (b.take n) / 2) (by omega) (by omega), wrap_in' (-(uv (b.take n) / 2)) (by omega) (by omega), wrap_in' (-(uv (b.take n) / 2) - 1) (by omega) (by omega)]
    unfold uz
    rw [show (n : Int) - 1 + 1 = n by omega]
    split <;> rfl
  | m + 1, k, hm, hk => by
    obtain ⟨k, rfl⟩ : ∃ q, k = q + 1 := ⟨k - 1, by omega⟩
    have hm' : m < b.length := by omega
    have hlen : m < (b.take n).length := by rw [List.length_take]; omega
    have h1 := uv_ten b n hn h10 hb h9
    have hd := uv_drop (b.take n) m
    have hx := hb _ (List.getElem_mem hm')
    have e0 : (b.take n).drop m = b[m] :: (b.take n).drop (m + 1) := by
      rw [List.drop_eq_getElem_cons hlen]; simp
    have hu : uv ((b.take n).drop m) = b[m] % 128 + 128 * uv ((b.take n).drop (m + 1)) := by rw [e0]; rfl
    have h0 := (uv_bound ((b.take n).drop (m + 1))).1
    simp only [dancestudioref07_TakeInt.l0]
    rw [show (((m + 1 : Nat) : Int) - 1) = (m : Int) by omega]
    have e : rd b (m : Int) = b[m] := by unfold rd; rw [Int.toNat_natCast, getD_at hm']
    have e1 : Int.tmod b[m] 128 = b[m] % 128 := Int.tmod_eq_emod_of_nonneg hx.1
    rw [if_pos (by omega), if_pos (by omega), if_pos (by omega), e, e1, wraps_u64 (b[m] % 128) (by omega) (by omega), wraps_u64 (_ * 128) (by omega) (by omega), wraps_u64 _ (by omega) (by omega), wrap_in' _ (by omega) (by omega)]
    rw [show uv ((b.take n).drop (m + 1)) * 128 + b[m] % 128 = uv ((b.take n).drop m) by omega]
    exact rtk_l0 b n hn h10 hb h9 m k (by omega) (by omega)
theorem rtakeInt_j (k : Nat) (b : List Int) (x : Bool) (hl : b.length < 140737488355328) (hb : okB b) (h0 : nb b ≠ 0) (hx : x = true ↔ (10 < nb b ∨ nb b = 10 ∧ 1 < b.getD 9 0)) : dancestudioref07_TakeInt.j0 (k + 14) b ((nb b : Int) - 1) x = some (dec b) := by
  have hle := nb_le b
  simp only [dancestudioref07_TakeInt.j0, dancestudioref07_TakeInt.j1]
  unfold dec
  rw [if_neg h0]
  by_cases h : 10 < nb b ∨ nb b = 10 ∧ 1 < b.getD 9 0
  · rw [if_pos (hx.mpr h), if_pos h]
  · rw [if_neg (fun c => h (hx.mp c)), if_neg h]
    have key : dancestudioref07_TakeInt.l0 (k + 12) b ((nb b : Int) - 1) 0 ((nb b : Int) - 1) = some (uz (uv (b.take (nb b))), (nb b : Int), 0) := by
      have := rtk_l0 b (nb b) hle (by omega) hb (by omega) (nb b) (k + 12) (Nat.le_refl _) (by omega)
      rw [List.drop_eq_nil_of_le (by rw [List.length_take]; omega)] at this
      exact this
    by_cases h1 : 1 < nb b
    · rw [if_pos (by omega), if_pos (by omega), if_pos (by omega)]
      have e : rd b ((nb b : Int) - 1) = b.getD (nb b - 1) 0 := by unfold rd; congr 1; omega
      rw [e]
      by_cases h2 : b.getD (nb b - 1) 0 = 0
      · rw [if_pos (by simpa using h2), if_pos ⟨h1, h2⟩]
      · rw [if_neg (by simpa using h2), if_neg (fun c => h2 c.2), key]
    · rw [if_neg (by omega), if_neg (by decide), if_neg (fun c => h1 c.1)]
      exact key
theorem rtakeInt_eq (k : Nat) (b : List Int) (hl : b.length < 140737488355328) (hb : okB b) (hk : b.length + 14 ≤ k) : dancestudioref07_TakeInt.f k b = some (dec b) := by
  have hle := nb_le b
  unfold dancestudioref07_TakeInt.f dancestudioref07_last.f
  have e := rlast_l0 b.length b 0 k (by omega) (by omega) (by omega) hl
  rw [List.drop_zero] at e
  rw [show (0 : Int) = ((0 : Nat) : Int) from rfl, e]
  simp only [Option.bind_some]
  obtain ⟨k, rfl⟩ : ∃ q, k = q + 14 := ⟨k - 14, by omega⟩
  by_cases h0 : nb b = 0
  · rw [if_pos h0]
    simp [dec, h0]
  · rw [if_neg h0]
    simp only [Nat.zero_add]
    rw [if_neg (by omega)]
    by_cases h1 : 10 < nb b
    · rw [if_pos (by omega)]
      exact rtakeInt_j k b true hl hb h0 (by simp; omega)
    · rw [if_neg (by omega)]
      by_cases h2 : nb b = 10
      · rw [if_pos (by omega), if_pos (by omega)]
        exact rtakeInt_j k b _ hl hb h0 (by simp [rd]; omega)
      · rw [if_neg (by omega)]
        exact rtakeInt_j k b false hl hb h0 (by simp; omega)
theorem dks_s (m : Nat) (b : List Int) (h1 : (dec b).2.2 = 0) (h2 : (dks m (b.drop (dec b).2.1.toNat)).2.2 = 0) : dks (m + 1) b = ((dec b).1 :: (dks m (b.drop (dec b).2.1.toNat)).1, (dks m (b.drop (dec b).2.1.toNat)).2.1, 0) := by simp only [dks, h1, h2, if_true]
theorem dks_t (m : Nat) (b : List Int) (h1 : (dec b).2.2 = 0) (h2 : ¬ (dks m (b.drop (dec b).2.1.toNat)).2.2 = 0) : dks (m + 1) b = ([], [], (dks m (b.drop (dec b).2.1.toNat)).2.2) := by simp only [dks, h1, h2, if_true, if_false]
theorem dks_u (m : Nat) (b : List Int) (h1 : ¬ (dec b).2.2 = 0) : dks (m + 1) b = ([], [], (dec b).2.2) := by simp only [dks, h1, if_false]
theorem rtake_l0 (N : Nat) (hN : N < 1000) : ∀ (m : Nat) (b acc : List Int) (k : Nat), acc.length + m = N → b.length < 140737488355328 → okB b → b.length + 16 + m ≤ k →
    dancestudioref56_take.l0 k b (N : Int) acc = some (if (dks m b).2.2 = 0 then (acc ++ (dks m b).1, (dks m b).2.1, 0) else ([], [], (dks m b).2.2))
  | 0, b, acc, k, ha, hl, hb, hk => by
    obtain ⟨k, rfl⟩ : ∃ q, k = q + 1 := ⟨k - 1, by omega⟩
    simp only [dancestudioref56_take.l0]
    rw [if_neg (by omega)]
    simp [dks]
  | m + 1, b, acc, k, ha, hl, hb, hk => by
    obtain ⟨k, rfl⟩ : ∃ q, k = q + 1 := ⟨k - 1, by omega⟩
    have hd := dec_k b
    simp only [dancestudioref56_take.l0]
    rw [if_pos (by omega), rtakeInt_eq k b hl hb (by omega), Option.bind_some]
    by_cases h1 : (dec b).2.2 = 0
    · have hdl : (b.drop (dec b).2.1.toNat).length ≤ b.length := by rw [List.length_drop]; omega
      rw [if_pos h1, if_pos (by omega), if_pos hd.1, if_pos hd.2, rtake_l0 N hN m _ _ k (by rw [List.length_append]; simp; omega) (by omega) (okB_drop _ _ hb) (by omega)]
      by_cases h2 : (dks m (b.drop (dec b).2.1.toNat)).2.2 = 0
      · rw [if_pos h2, dks_s m b h1 h2, if_pos rfl, List.append_assoc]; rfl
      · rw [if_neg h2, dks_t m b h1 h2, if_neg h2]
    · rw [if_neg h1, dks_u m b h1, if_neg h1]
theorem rtks_eq (k : Nat) (N : Nat) (hN : N < 20) (b : List Int) (hl : b.length < 140737488355328) (hb : okB b) (hk : b.length + 40 ≤ k) : dancestudioref56_take.f k b (N : Int) = some (dks N b) := by
  unfold dancestudioref56_take.f
  rw [rtake_l0 N (by omega) N b [] k (by simp) hl hb (by omega)]
  by_cases h : (dks N b).2.2 = 0
  · rw [if_pos h, List.nil_append, ← h]
  · obtain ⟨e1, e2⟩ := dks_err N b h
    rw [if_neg h]
    obtain ⟨x, y, z, hz⟩ : ∃ x y z, dks N b = (x, y, z) := ⟨_, _, _, rfl⟩
    rw [hz] at e1 e2 ⊢
    simp only at e1 e2
    rw [e1, e2]
open Go.RowKit Go.Proofs.YtekagaimfdbgiaaW.PrintWords Go.Proofs.YtekagaimfdbgiaaW.PrintLast Go.Proofs.YtekagaimfdbgiaaW.PrintMore
theorem rend_eq (j : Nat) (a0 a1 a2 a3 a4 : Int) (a5 : Bool) (a6 a7 a8 a9 a10 a11 a12 : Int) (rest : List Int) :
    rtakeEnd (j + 5) a0 a1 a2 a3 a4 a5 a6 a7 a8 a9 a10 a11 a12 rest = some (endP a0 a1 a2 a3 a4 a5 a6 a7 a8 a9 a10 a11 a12 rest) := by
  unfold rtakeEnd endP
  rw [rcheck_eq, Option.bind_some]
  split
  · split <;> rfl
  · rfl
theorem rtake_eq (k : Nat) (b : List Int) (hl : b.length < 140737488355328) (hb : okB b) (hk : b.length + 40 ≤ k) : dancestudioref56_Take.f k b = some (takeP b) := by
  have e1 := rtks_eq k 6 (by decide) b hl hb hk
  obtain ⟨j, rfl⟩ : ∃ j, k = j + 5 := ⟨k - 5, by omega⟩
  unfold dancestudioref56_Take.f takeP
  rw [show (6 : Int) = ((6 : Nat) : Int) from rfl, e1, Option.bind_some]
  by_cases h1 : (dks 6 b).2.2 = 0
  · obtain ⟨i1, i2, i3⟩ := dks_inv 6 b (dks 6 b).1 (dks 6 b).2.1 hb (by rw [← h1])
    have hr : (dks 6 b).2.1.length ≤ b.length := by have := congrArg List.length i1; rw [List.length_append] at this; omega
    have hrb : okB (dks 6 b).2.1 := fun x hx => hb x (by rw [i1]; exact List.mem_append_right _ hx)
    have e2 := rtks_eq (j + 5) 7 (by decide) (dks 6 b).2.1 (by omega) hrb (by omega)
    rw [if_pos h1, if_pos h1, if_pos i3]
    split
    · rw [rend_eq]
    · split
      · rw [show (7 : Int) = ((7 : Nat) : Int) from rfl, e2, Option.bind_some]
        by_cases h2 : (dks 7 (dks 6 b).2.1).2.2 = 0
        · obtain ⟨j1, j2, j3⟩ := dks_inv 7 (dks 6 b).2.1 (dks 7 (dks 6 b).2.1).1 (dks 7 (dks 6 b).2.1).2.1 hrb (by rw [← h2])
          rw [if_pos h2, if_pos h2, if_pos j3, rend_eq]
        · rw [if_neg h2, if_neg h2]; rfl
      · rfl
  · rw [if_neg h1, if_neg h1]; rfl
open Go.RowKit Go.Proofs.YtekagaimfdbgiaaW.PrintWords Go.Proofs.YtekagaimfdbgiaaW.PrintLast Go.Proofs.YtekagaimfdbgiaaW.PrintMore
theorem awake_60 : dancestudiolaw56_awake.f 60 = some true := by decide +kernel
theorem awake_at : ∀ n, dancestudiolaw56_awake.f (60 + n) = some true
  | 0 => awake_60
  | n + 1 => dancestudiolaw56_awake.mono (60 + n) true (awake_at n)
theorem awake_eq (k : Nat) (hk : 60 ≤ k) : dancestudiolaw56_awake.f k = some true := by
  obtain ⟨n, rfl⟩ : ∃ n, k = 60 + n := ⟨k - 60, by omega⟩
  exact awake_at n
end Go.Proofs.Ytekagaimfdbgiaa.P
