/- Texts of this claim in one: VWire; no condition. -/
import Derived.Laws.BitsLemmas
import Derived.Test.YteopkkoblbmggaaQAG
import Derived.Test.YteopkkoblbmggaaQAL
section
set_option linter.unusedVariables false
set_option linter.unusedSimpArgs false
namespace Go.Proofs.Yteopkkoblbmggaa.P
open Go.RowKit Go.Proofs.YteopkkoblbmggaaW.PrintWords Go.Proofs.YteopkkoblbmggaaW.PrintLast Go.Proofs.YteopkkoblbmggaaW.PrintMore
theorem Y1R (x : Int) (h0 : -9223372036854775808 ≤ x) (h1 : x ≤ 9223372036854775807) : wrap64 x = x := by unfold wrap64; omega
theorem Y67 (x : Int) : IntKind.u64.wrap x = x % 18446744073709551616 := by simp [IntKind.wrap, IntKind.bits, IntKind.signed]
theorem Y1K (n : Int) (h0 : 0 ≤ n) (h1 : n < 2 ^ 64) : IntKind.u64.wrap n = n := by rw [Y67]; omega
def vs : Nat → Nat → List Int
  | 0, u => [(u : Int)]
  | j + 1, u => if u < 128 then [(u : Int)] else ((u % 128 + 128 : Nat) : Int) :: vs j (u / 128)
def zz (n : Int) : Nat := if n < 0 then (-2 * n - 1).toNat else (2 * n).toNat
def uz (u : Int) : Int := if u % 2 = 1 then -(u / 2) - 1 else u / 2
def uv : List Int → Int
  | [] => 0
  | x :: xs => x % 128 + 128 * uv xs
def nb : List Int → Nat
  | [] => 0
  | x :: xs => if x < 128 then 1 else if nb xs = 0 then 0 else nb xs + 1
def dec (b : List Int) : Int × Int × Int :=
  if nb b = 0 then (0, 0, 13)
  else if 10 < nb b ∨ nb b = 10 ∧ 1 < b.getD 9 0 then (0, 0, 12)
  else if 1 < nb b ∧ b.getD (nb b - 1) 0 = 0 then (0, 0, 2)
  else (uz (uv (b.take (nb b))), (nb b : Int), 0)
def enc (n : Int) : List Int := vs 9 (zz n)
def okZ (n : Int) : Prop := -9223372036854775808 ≤ n ∧ n ≤ 9223372036854775807
def okB (l : List Int) : Prop := ∀ x ∈ l, 0 ≤ x ∧ x ≤ 255
theorem not64 (x : Int) (h0 : 0 ≤ x) (h1 : x < 18446744073709551616) : Go.bits .xor .u64 18446744073709551615 x = 18446744073709551615 - x := by
  obtain ⟨a, rfl⟩ := Int.eq_ofNat_of_zero_le h0
  have e : BitVec.ofInt 64 (18446744073709551615 : Int) = BitVec.allOnes 64 := by decide
  have ha : a < 18446744073709551616 := by omega
  show IntKind.u64.wrap (((BitVec.ofInt 64 (18446744073709551615 : Int) ^^^ BitVec.ofInt 64 (a : Int)).toNat : Nat) : Int) = _
  rw [e, BitVec.allOnes_xor, BitVec.ofInt_natCast, BitVec.toNat_not, BitVec.toNat_ofNat]
  rw [Y67, Nat.mod_eq_of_lt (by omega : a < 2 ^ 64)]
  omega
theorem Y2p {b : List Int} {i : Nat} (h : i < b.length) : b.getD i 0 = b[i] := by simp [List.getD, h]
theorem Y62 : ∀ (m : Nat) (b : List Int) (i k : Nat), b.length - i = m → i ≤ b.length → m < k → b.length < 140737488355328 →
    YQ.l0 k b (b.length : Int) (i : Int) = some (if nb (b.drop i) = 0 then 0 else ((i + nb (b.drop i) : Nat) : Int))
  | 0, b, i, k, hm, hi, hk, hl => by
    obtain ⟨k, rfl⟩ : ∃ q, k = q + 1 := ⟨k - 1, by omega⟩
    simp only [YQ.l0]
    rw [if_neg (by omega), List.drop_eq_nil_of_le (by omega)]
    rfl
  | m + 1, b, i, k, hm, hi, hk, hl => by
    obtain ⟨k, rfl⟩ : ∃ q, k = q + 1 := ⟨k - 1, by omega⟩
    have hi' : i < b.length := by omega
    simp only [YQ.l0]
    rw [if_pos (by omega), if_pos (by omega), if_pos (by omega), Y1R _ (by omega) (by omega)]
    have e : rd b (i : Int) = b[i] := by unfold rd; rw [Int.toNat_natCast, Y2p hi']
    rw [e, List.drop_eq_getElem_cons hi']
    by_cases h : b[i] < 128
    · have e2 : nb (b[i] :: b.drop (i + 1)) = 1 := by simp [nb, h]
      rw [e2, if_pos h, if_neg (by decide)]; rfl
    · rw [if_neg h, show ((i : Int) + 1) = ((i + 1 : Nat) : Int) by omega, Y62 m b (i + 1) k (by omega) (by omega) (by omega) hl]
      by_cases h0 : nb (b.drop (i + 1)) = 0
      · have e2 : nb (b[i] :: b.drop (i + 1)) = 0 := by simp [nb, h, h0]
        rw [e2, if_pos h0, if_pos rfl]
      · have e2 : nb (b[i] :: b.drop (i + 1)) = nb (b.drop (i + 1)) + 1 := by simp [nb, h, h0]
        rw [e2, if_neg h0, if_neg (by omega)]; congr 2; omega
theorem nb_le : ∀ b : List Int, nb b ≤ b.length
  | [] => Nat.le_refl _
  | x :: xs => by
    have := nb_le xs
    simp only [nb, List.length_cons]
    split
    · omega
    · split <;> omega
theorem Y1T : ∀ l : List Int, 0 ≤ uv l ∧ uv l < 128 ^ l.length
  | [] => by simp [uv]
  | x :: xs => by
    have := Y1T xs
    simp only [uv, List.length_cons, Int.pow_succ]
    omega
theorem Y3Z : ∀ (b : List Int) (x : Int), uv (b ++ [x]) = uv b + (x % 128) * 128 ^ b.length
  | [], x => by simp [uv]
  | y :: ys, x => by
    simp only [List.cons_append, uv, Y3Z ys x, List.length_cons, Int.pow_succ, Int.mul_add]
    rw [Int.add_assoc]
    congr 2
    rw [Int.mul_left_comm, Int.mul_comm 128 (128 ^ ys.length)]
theorem Y3I (b : List Int) (i : Nat) (h : i < b.length) : b.take (i + 1) = b.take i ++ [b[i]] := by rw [List.take_add_one, List.getElem?_eq_getElem h]; rfl
theorem Y6E (x : Int) (h0 : 0 ≤ x) (h1 : x ≤ 255) : Go.bits .and .u8 x 127 = x % 128 := bits_mask .u8 8 (by decide) wraps_u8 7 (by decide) x h0 (by omega)
theorem and1 (x : Int) (h0 : 0 ≤ x) (h1 : x < 18446744073709551616) : Go.bits .and .u64 x 1 = x % 2 := bits_mask .u64 64 (by decide) Y1K 1 (by decide) x h0 (by omega)
theorem Y6p (i : Nat) (x y : Int) (hx₀ : 0 ≤ x) (hx : x % 2 ^ i = 0) (hx₁ : x < 2 ^ 64) (hy₀ : 0 ≤ y) (hy : y < 2 ^ i) (hy₁ : y < 2 ^ 64) : Go.bits .or .u64 y x = y + x := by
  have e := bits_join .u64 64 (by decide) Y1K i x y hx₀ hx hx₁ hy₀ hy hy₁
  obtain ⟨a, rfl⟩ := Int.eq_ofNat_of_zero_le hx₀
  obtain ⟨b, rfl⟩ := Int.eq_ofNat_of_zero_le hy₀
  have ha : a < 2 ^ 64 := by exact_mod_cast hx₁
  have hb : b < 2 ^ 64 := by exact_mod_cast hy₁
  rw [(bits_nat .u64 64 (by decide) Y1K a b ha hb).2] at e
  rw [(bits_nat .u64 64 (by decide) Y1K b a hb ha).2, Nat.or_comm, e, Int.add_comm]
theorem Y5a (b : List Int) (i : Nat) (hi : i < b.length) (hi9 : i ≤ 9) (hb : okB b) (h9 : i = 9 → b.getD 9 0 ≤ 1) :
    Go.bits .or .u64 (uv (b.take i)) (shl .u64 (IntKind.u64.wrap (Go.bits .and .u8 b[i] 127)) (wrap64 (7 * (i : Int)))) = uv (b.take (i + 1)) := by
  have hx := hb _ (List.getElem_mem hi)
  have ⟨h0, h1⟩ := Y1T (b.take i)
  have hlen : (b.take i).length = i := by rw [List.length_take]; omega
  rw [hlen] at h1
  rw [Y6E _ hx.1 hx.2, Y1K _ (by omega) (by omega), Y1R _ (by omega) (by omega)]
  have hs : shl .u64 (b[i] % 128) (7 * (i : Int)) = (b[i] % 128) * 128 ^ i := by
    unfold shl
    rw [show min (7 * (i : Int)).toNat IntKind.u64.bits = 7 * i by show min (7 * (i : Int)).toNat 64 = 7 * i; omega, Int.pow_mul]
    have : (b[i] % 128) * 128 ^ i < 2 ^ 64 ∧ 0 ≤ (b[i] % 128) * 128 ^ i := by
      have c : i ≤ 8 ∨ i = 9 := by omega
      have hm : 0 ≤ b[i] % 128 ∧ b[i] % 128 < 128 := by omega
      rcases c with c | c
      · have : i = 0 ∨ i = 1 ∨ i = 2 ∨ i = 3 ∨ i = 4 ∨ i = 5 ∨ i = 6 ∨ i = 7 ∨ i = 8 := by omega
        generalize b[i] % 128 = y at *
        rcases this with h | h | h | h | h | h | h | h | h <;> subst h <;> simp <;> omega
      · have h9' := h9 c
        subst c
        rw [Y2p hi] at h9'
        simp
        omega
    exact Y1K _ this.2 this.1
  rw [hs, Y3I b i hi, Y3Z, hlen]
  have hlt : (b[i] % 128) * 128 ^ i < 2 ^ 64 ∧ 0 ≤ (b[i] % 128) * 128 ^ i := by
    have hm : 0 ≤ b[i] % 128 ∧ b[i] % 128 < 128 := by omega
    have c : i ≤ 8 ∨ i = 9 := by omega
    rcases c with c | c
    · have : i = 0 ∨ i = 1 ∨ i = 2 ∨ i = 3 ∨ i = 4 ∨ i = 5 ∨ i = 6 ∨ i = 7 ∨ i = 8 := by omega
      generalize b[i] % 128 = y at *
      rcases this with h | h | h | h | h | h | h | h | h <;> subst h <;> simp <;> omega
    · have h9' := h9 c
      subst c
      rw [Y2p hi] at h9'
      simp
      omega
  have hle : (128 : Int) ^ i ≤ 128 ^ 9 := by
    have : i = 0 ∨ i = 1 ∨ i = 2 ∨ i = 3 ∨ i = 4 ∨ i = 5 ∨ i = 6 ∨ i = 7 ∨ i = 8 ∨ i = 9 := by omega
    rcases this with h | h | h | h | h | h | h | h | h | h <;> subst h <;> decide
  refine Y6p (7 * i) _ _ hlt.2 ?_ hlt.1 h0 ?_ ?_
  · rw [Int.pow_mul]; exact Int.mul_emod_left _ _
  · rw [Int.pow_mul]; exact h1
  · omega
theorem Y4e (b : List Int) (n : Nat) (hn : n ≤ b.length) (h10 : n ≤ 10) (hb : okB b) (h9 : n = 10 → b.getD 9 0 ≤ 1) : uv (b.take n) < 18446744073709551616 := by
  by_cases h : n = 10
  · subst h
    have := h9 rfl
    have hi : 9 < b.length := by omega
    have hx := hb _ (List.getElem_mem hi)
    rw [Y2p hi] at this
    have ⟨h0, h1⟩ := Y1T (b.take 9)
    rw [Y3I b 9 hi, Y3Z]
    have hlen : (b.take 9).length = 9 := by rw [List.length_take]; omega
    rw [hlen] at h1 ⊢
    simp at h1 ⊢
    omega
  · have ⟨h0, h1⟩ := Y1T (b.take n)
    have hlen : (b.take n).length = n := by rw [List.length_take]; omega
    rw [hlen] at h1
    have hle : (128 : Int) ^ n ≤ 128 ^ 9 := by
      have : n = 0 ∨ n = 1 ∨ n = 2 ∨ n = 3 ∨ n = 4 ∨ n = 5 ∨ n = 6 ∨ n = 7 ∨ n = 8 ∨ n = 9 := by omega
      rcases this with h | h | h | h | h | h | h | h | h | h <;> subst h <;> decide
    omega
theorem tk_l0 : ∀ (m : Nat) (b : List Int) (n i k : Nat), n - i = m → i ≤ n → n ≤ b.length → n ≤ 10 → okB b → (n = 10 → b.getD 9 0 ≤ 1) → m < k →
    Yq.l0 k b (n : Int) (uv (b.take i)) (n : Int) (i : Int) = some (uz (uv (b.take n)), (n : Int), 0)
  | 0, b, n, i, k, hm, hi, hn, h10, hb, h9, hk => by
    obtain ⟨k, rfl⟩ : ∃ q, k = q + 1 := ⟨k - 1, by omega⟩
    obtain rfl : i = n := by omega
    simp only [Yq.l0]
    have h0 := (Y1T (b.take i)).1
    have h1 := Y4e b i hn h10 hb h9
    rw [if_neg (by omega), and1 _ h0 h1, not64 _ (by omega) (by omega)]
    unfold uz
    split
    · congr 2; unfold wrap64; omega
    · congr 2; unfold wrap64; omega
  | m + 1, b, n, i, k, hm, hi, hn, h10, hb, h9, hk => by
    obtain ⟨k, rfl⟩ : ∃ q, k = q + 1 := ⟨k - 1, by omega⟩
    have hi' : i < b.length := by omega
    simp only [Yq.l0]
    have e : rd b (i : Int) = b[i] := by unfold rd; rw [Int.toNat_natCast, Y2p hi']
    rw [if_pos (by omega), if_pos (by omega), if_pos (by omega), e]
    rw [Y5a b i hi' (by omega) hb (fun c => h9 (by omega)), Y1R ((i : Int) + 1) (by omega) (by omega), Y1R (7 * (i : Int)) (by omega) (by omega), if_pos (by omega)]
    exact tk_l0 m b n (i + 1) k (by omega) (by omega) hn h10 hb h9 (by omega)
theorem Y2T (k : Nat) (b : List Int) (x : Bool) (hl : b.length < 140737488355328) (hb : okB b) (h0 : nb b ≠ 0) (hx : x = true ↔ (10 < nb b ∨ nb b = 10 ∧ 1 < b.getD 9 0)) : Yq.j0 (k + 14) b (nb b : Int) x = some (dec b) := by
  have hle := nb_le b
  simp only [Yq.j0, Yq.j1]
  unfold dec
  rw [if_neg h0]
  by_cases h : 10 < nb b ∨ nb b = 10 ∧ 1 < b.getD 9 0
  · rw [if_pos (hx.mpr h), if_pos h]
  · rw [if_neg (fun c => h (hx.mp c)), if_neg h]
    have key : Yq.l0 (k + 12) b (nb b : Int) 0 (nb b : Int) 0 = some (uz (uv (b.take (nb b))), (nb b : Int), 0) := tk_l0 (nb b) b (nb b) 0 (k + 12) (by omega) (by omega) hle (by omega) hb (by omega) (by omega)
    by_cases h1 : nb b > 1
    · rw [if_pos (by omega), Y1R _ (by omega) (by omega), if_pos (by omega), if_pos (by omega)]
      have e : rd b ((nb b : Int) - 1) = b.getD (nb b - 1) 0 := by unfold rd; congr 1; omega
      rw [e]
      by_cases h2 : b.getD (nb b - 1) 0 = 0
      · rw [if_pos h2, if_pos ⟨h1, h2⟩]
      · rw [if_neg h2, if_neg (fun c => h2 c.2), key]
    · rw [if_neg (by omega), if_neg (fun c => h1 c.1)]
      have := tk_l0 (nb b) b (nb b) 0 (k + 12) (by omega) (by omega) hle (by omega) hb (by omega) (by omega)
      exact key
theorem Y3a (k : Nat) (b : List Int) (hl : b.length < 140737488355328) (hb : okB b) (hk : b.length + 14 ≤ k) : Yq.f k b = some (dec b) := by
  have hle := nb_le b
  unfold Yq.f YQ.f
  have e := Y62 b.length b 0 k (by omega) (by omega) (by omega) hl
  rw [List.drop_zero] at e
  rw [show (0 : Int) = ((0 : Nat) : Int) from rfl, e]
  simp only [Option.bind_some]
  obtain ⟨k, rfl⟩ : ∃ q, k = q + 14 := ⟨k - 14, by omega⟩
  by_cases h0 : nb b = 0
  · rw [if_pos h0]
    simp [dec, h0]
  · rw [if_neg h0]
    simp only [Nat.zero_add]
    rw [if_neg (by omega)]
    by_cases h1 : 10 < nb b
    · rw [if_pos (by omega)]
      exact Y2T k b true hl hb h0 (by simp; omega)
    · rw [if_neg (by omega)]
      by_cases h2 : nb b = 10
      · rw [if_pos (by omega), if_pos (by omega)]
        exact Y2T k b _ hl hb h0 (by simp [rd]; omega)
      · rw [if_neg (by omega)]
        exact Y2T k b false hl hb h0 (by simp; omega)
end Go.Proofs.Yteopkkoblbmggaa.P
end
