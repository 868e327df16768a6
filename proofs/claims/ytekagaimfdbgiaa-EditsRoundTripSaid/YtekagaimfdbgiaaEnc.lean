/- Whole numbers and their bytes: what is written is read back, what is read is what is written, a cut number ends too early; no condition. -/
import Derived.Test.YtekagaimfdbgiaaWire
set_option linter.unusedVariables false
set_option linter.unusedSimpArgs false
namespace Go.Proofs.Ytekagaimfdbgiaa.P
open Go.RowKit Go.Proofs.YtekagaimfdbgiaaW.PrintWords Go.Proofs.YtekagaimfdbgiaaW.PrintLast Go.Proofs.YtekagaimfdbgiaaW.PrintMore
theorem vs_len : ∀ j u, 0 < (vs j u).length ∧ (vs j u).length ≤ j + 1
  | 0, u => by simp [vs]
  | j + 1, u => by
    have := vs_len j (u / 128)
    simp only [vs]
    split <;> simp <;> omega
theorem nb_vs : ∀ j u (rest : List Int), u < 128 ^ (j + 1) → nb (vs j u ++ rest) = (vs j u).length
  | 0, u, rest, h => by
    have h1 : u < 128 := by simpa using h
    simp only [vs, List.cons_append, nb, List.length_cons, List.length_nil]
    rw [if_pos (by omega)]
  | j + 1, u, rest, h => by
    simp only [vs]
    by_cases h1 : u < 128
    · rw [if_pos h1]
      simp only [List.cons_append, nb, List.length_cons, List.length_nil]
      rw [if_pos (by omega)]
    · rw [if_neg h1]
      simp only [List.cons_append, nb, List.length_cons]
      have := vs_len j (u / 128)
      rw [if_neg (by omega), nb_vs j (u / 128) rest (by rw [Nat.pow_succ] at h; omega), if_neg (by omega)]
theorem nb_cut : ∀ j u c, c < (vs j u).length → nb ((vs j u).take c) = 0
  | 0, u, c, h => by
    have : c = 0 := by simp [vs] at h; omega
    subst this; rfl
  | j + 1, u, c, h => by
    simp only [vs] at h ⊢
    by_cases h1 : u < 128
    · rw [if_pos h1] at h ⊢
      have : c = 0 := by simp at h; omega
      subst this; rfl
    · rw [if_neg h1] at h ⊢
      cases c with
      | zero => rfl
      | succ c =>
        simp only [List.take_succ_cons, nb]
        rw [if_neg (by omega), nb_cut j (u / 128) c (by simp at h; omega), if_pos rfl]
theorem uv_vs : ∀ j u, u < 128 ^ (j + 1) → uv (vs j u) = (u : Int)
  | 0, u, h => by
    have h1 : u < 128 := by simpa using h
    simp [vs, uv]; omega
  | j + 1, u, h => by
    simp only [vs]
    by_cases h1 : u < 128
    · rw [if_pos h1]; simp [uv]; omega
    · rw [if_neg h1]; simp only [uv]
      rw [uv_vs j (u / 128) (by rw [Nat.pow_succ] at h; omega)]; omega
theorem vs_last : ∀ j u, u < 128 ^ (j + 1) → u ≠ 0 → (vs j u).getD ((vs j u).length - 1) 0 ≠ 0
  | 0, u, h, h0 => by simp [vs]; omega
  | j + 1, u, h, h0 => by
    simp only [vs]
    by_cases h1 : u < 128
    · rw [if_pos h1]; simp; omega
    · rw [if_neg h1]
      have hl := vs_len j (u / 128)
      have key := vs_last j (u / 128) (by rw [Nat.pow_succ] at h; omega) (by omega)
      rw [List.length_cons, Nat.add_sub_cancel]
      obtain ⟨q, hq⟩ : ∃ q, (vs j (u / 128)).length = q + 1 := ⟨(vs j (u / 128)).length - 1, by omega⟩
      rw [hq] at key ⊢
      rw [List.getD_cons_succ]
      exact key
theorem vs_top : ∀ j u, u < 128 ^ (j + 1) → (vs j u).length = j + 1 → (vs j u).getD j 0 = ((u / 128 ^ j : Nat) : Int)
  | 0, u, h, hl => by simp [vs]
  | j + 1, u, h, hl => by
    simp only [vs] at hl ⊢
    by_cases h1 : u < 128
    · rw [if_pos h1] at hl; simp at hl
    · rw [if_neg h1] at hl ⊢
      rw [List.getD_cons_succ, vs_top j (u / 128) (by rw [Nat.pow_succ] at h; omega) (by simp at hl; exact hl), Nat.div_div_eq_div_mul, Nat.pow_succ, Nat.mul_comm]
theorem uz_zz (n : Int) : uz (zz n : Int) = n := by unfold uz zz; split <;> split <;> omega
theorem zz_uz (u : Int) (h0 : 0 ≤ u) : (zz (uz u) : Int) = u := by unfold uz zz; split <;> split <;> omega
theorem getD_app (a b : List Int) (i : Nat) (h : i < a.length) : (a ++ b).getD i 0 = a.getD i 0 := by simp [List.getD, List.getElem?_append_left h]
theorem dec_enc (n : Int) (hn : okZ n) (rest : List Int) : dec (enc n ++ rest) = (n, ((enc n).length : Int), 0) := by
  have hz := zz_lt n hn
  have hl := vs_len 9 (zz n)
  have hb := nb_vs 9 (zz n) rest (by omega)
  unfold dec enc
  rw [hb, if_neg (by omega), if_neg, if_neg, List.take_append_of_le_length (Nat.le_refl _), List.take_length, uv_vs 9 (zz n) (by omega), uz_zz]
  · rintro ⟨h1, h2⟩
    rw [getD_app _ _ _ (by omega)] at h2
    by_cases h0 : zz n = 0
    · rw [h0] at h1; simp [vs] at h1
    · exact vs_last 9 (zz n) (by omega) h0 h2
  · rintro (h1 | ⟨h1, h2⟩)
    · omega
    · rw [getD_app _ _ _ (by omega), vs_top 9 (zz n) (by omega) h1] at h2
      have : zz n / 128 ^ 9 < 2 := by rw [Nat.div_lt_iff_lt_mul (by decide)]; omega
      omega
theorem dec_cut (n : Int) (c : Nat) (h : c < (enc n).length) : dec ((enc n).take c) = (0, 0, 13) := by
  unfold dec enc
  rw [nb_cut 9 (zz n) c h, if_pos rfl]
/-- Bytes that end are those of their value. -/
theorem vs_uv : ∀ (b : List Int) (j : Nat), okB b → nb b ≠ 0 → nb b ≤ j + 1 → (1 < nb b → b.getD (nb b - 1) 0 ≠ 0) → b.take (nb b) = vs j (uv (b.take (nb b))).toNat
  | [], j, hb, h0, hj, hl => absurd rfl h0
  | x :: xs, j, hb, h0, hj, hl => by
    have hx := hb x (List.mem_cons_self)
    by_cases h : x < 128
    · have e : nb (x :: xs) = 1 := by simp [nb, h]
      rw [e]
      simp only [List.take_succ_cons, List.take_zero, uv]
      have e2 : (x % 128 + 128 * 0).toNat = x.toNat := by omega
      rw [e2]
      have e3 : ((x.toNat : Nat) : Int) = x := by omega
      cases j with
      | zero => simp [vs, e3]
      | succ j => simp only [vs]; rw [if_pos (by omega), e3]
    · by_cases h1 : nb xs = 0
      · exfalso; apply h0; simp [nb, h, h1]
      · have e : nb (x :: xs) = nb xs + 1 := by simp [nb, h, h1]
        rw [e] at hj hl ⊢
        obtain ⟨j, rfl⟩ : ∃ q, j = q + 1 := ⟨j - 1, by omega⟩
        obtain ⟨q, hq⟩ : ∃ q, nb xs = q + 1 := ⟨nb xs - 1, by omega⟩
        have hl' : xs.getD (nb xs - 1) 0 ≠ 0 := by
          have := hl (by omega)
          rw [Nat.add_sub_cancel, hq, List.getD_cons_succ] at this
          rw [hq]; exact this
        have ih := vs_uv xs j (fun y hy => hb y (List.mem_cons_of_mem _ hy)) h1 (by omega) (fun _ => hl')
        have hle := nb_le xs
        have hU := (uv_bound (xs.take (nb xs))).1
        have hne : uv (xs.take (nb xs)) ≠ 0 := by
          intro c
          rw [c] at ih
          have e1 : vs j (0 : Int).toNat = [0] := by cases j <;> simp [vs]
          rw [e1] at ih
          have hlen : (xs.take (nb xs)).length = 1 := by rw [ih]; rfl
          rw [List.length_take] at hlen
          have hn1 : nb xs = 1 := by omega
          rw [hn1] at hl' ih
          cases xs with
          | nil => exact h1 rfl
          | cons y ys => simp at ih hl'; exact hl' ih
        simp only [List.take_succ_cons, uv, vs]
        rw [if_neg (by omega)]
        have e4 : (x % 128 + 128 * uv (xs.take (nb xs))).toNat / 128 = (uv (xs.take (nb xs))).toNat := by omega
        have e5 : (((x % 128 + 128 * uv (xs.take (nb xs))).toNat % 128 + 128 : Nat) : Int) = x := by omega
        rw [e4, e5, ← ih]
theorem dec_inv (b : List Int) (hb : okB b) (n k : Int) (h : dec b = (n, k, 0)) : b = enc n ++ b.drop k.toNat ∧ okZ n ∧ k = ((enc n).length : Int) ∧ 0 ≤ k ∧ k ≤ b.length := by
  unfold dec at h
  by_cases h0 : nb b = 0
  · rw [if_pos h0] at h; simp at h
  · rw [if_neg h0] at h
    by_cases h1 : 10 < nb b ∨ nb b = 10 ∧ 1 < b.getD 9 0
    · rw [if_pos h1] at h; simp at h
    · rw [if_neg h1] at h
      by_cases h2 : 1 < nb b ∧ b.getD (nb b - 1) 0 = 0
      · rw [if_pos h2] at h; simp at h
      · rw [if_neg h2] at h
        simp only [Prod.mk.injEq, and_true] at h
        obtain ⟨rfl, rfl⟩ := h
        have hle := nb_le b
        have ht := vs_uv b 9 hb h0 (by omega) (fun c d => h2 ⟨c, d⟩)
        have hu0 := (uv_bound (b.take (nb b))).1
        have hu1 := uv_ten b (nb b) hle (by omega) hb (by intro c; omega)
        have e : zz (uz (uv (b.take (nb b)))) = (uv (b.take (nb b))).toNat := by have := zz_uz _ hu0; omega
        have e2 : enc (uz (uv (b.take (nb b)))) = b.take (nb b) := by rw [enc, e, ← ht]
        rw [e2]
        refine ⟨?_, ?_, ?_, by omega, by omega⟩
        · rw [Int.toNat_natCast, List.take_append_drop]
        · unfold okZ uz; split <;> omega
        · rw [List.length_take]; omega
theorem vs_ok : ∀ j u, u < 128 ^ (j + 1) → okB (vs j u)
  | 0, u, h => by
    have h1 : u < 128 := by simpa using h
    intro x hx
    simp only [vs, List.mem_singleton] at hx
    omega
  | j + 1, u, h => by
    simp only [vs]
    by_cases h1 : u < 128
    · rw [if_pos h1]
      intro x hx
      simp only [List.mem_singleton] at hx
      omega
    · rw [if_neg h1]
      intro x hx
      rcases List.mem_cons.mp hx with hx | hx
      · omega
      · exact vs_ok j (u / 128) (by rw [Nat.pow_succ] at h; omega) x hx
theorem enc_ok (n : Int) (hn : okZ n) : okB (enc n) := vs_ok 9 _ (by have := zz_lt n hn; omega)
theorem enc_len (n : Int) : 0 < (enc n).length ∧ (enc n).length ≤ 10 := vs_len 9 (zz n)
/-! ### many numbers -/
def encs : List Int → List Int
  | [] => []
  | n :: l => enc n ++ encs l
def okZs (l : List Int) : Prop := ∀ n ∈ l, okZ n
theorem encs_app : ∀ a b, encs (a ++ b) = encs a ++ encs b
  | [], b => rfl
  | n :: a, b => by simp only [List.cons_append, encs, encs_app a b, List.append_assoc]
theorem encs_ok : ∀ l, okZs l → okB (encs l)
  | [], _ => fun x hx => by simp [encs] at hx
  | n :: l, h => by
    intro x hx
    rcases List.mem_append.mp hx with hx | hx
    · exact enc_ok n (h n List.mem_cons_self) x hx
    · exact encs_ok l (fun m hm => h m (List.mem_cons_of_mem _ hm)) x hx
theorem encs_len : ∀ l, l.length ≤ (encs l).length ∧ (encs l).length ≤ 10 * l.length
  | [] => by simp [encs]
  | n :: l => by
    have := encs_len l
    have := enc_len n
    simp only [encs, List.length_append, List.length_cons]; omega
def dks : Nat → List Int → List Int × List Int × Int
  | 0, l => ([], l, 0)
  | n + 1, l => if (dec l).2.2 = 0 then (if (dks n (l.drop (dec l).2.1.toNat)).2.2 = 0 then ((dec l).1 :: (dks n (l.drop (dec l).2.1.toNat)).1, (dks n (l.drop (dec l).2.1.toNat)).2.1, 0) else ([], [], (dks n (l.drop (dec l).2.1.toNat)).2.2)) else ([], [], (dec l).2.2)
theorem dks_encs : ∀ l rest, okZs l → dks l.length (encs l ++ rest) = (l, rest, 0)
  | [], rest, _ => rfl
  | n :: l, rest, h => by
    have hn := h n List.mem_cons_self
    simp only [List.length_cons, dks, encs, List.append_assoc, dec_enc n hn, Int.toNat_natCast, List.drop_left, dks_encs l rest (fun m hm => h m (List.mem_cons_of_mem _ hm)), if_true]
theorem dks_cut : ∀ l c, okZs l → c < (encs l).length → dks l.length ((encs l).take c) = ([], [], 13)
  | [], c, _, hc => by simp [encs] at hc
  | n :: l, c, h, hc => by
    have hn := h n List.mem_cons_self
    simp only [List.length_cons, dks, encs]
    by_cases h1 : c < (enc n).length
    · rw [List.take_append_of_le_length (by omega), dec_cut n c h1]; rfl
    · have e : (enc n ++ encs l).take c = enc n ++ (encs l).take (c - (enc n).length) := by
        rw [List.take_append, List.take_of_length_le (by omega)]
      simp only [encs, List.length_append] at hc
      rw [e]
      simp only [dec_enc n hn, Int.toNat_natCast, List.drop_left, dks_cut l (c - (enc n).length) (fun m hm => h m (List.mem_cons_of_mem _ hm)) (by omega), if_true]
      rfl
theorem okB_drop (b : List Int) (n : Nat) (h : okB b) : okB (b.drop n) := fun x hx => h x (List.mem_of_mem_drop hx)
theorem dks_inv : ∀ n b l rest, okB b → dks n b = (l, rest, 0) → b = encs l ++ rest ∧ okZs l ∧ l.length = n
  | 0, b, l, rest, hb, h => by
    simp only [dks, Prod.mk.injEq, and_true] at h
    obtain ⟨rfl, rfl⟩ := h
    exact ⟨rfl, fun m hm => by simp at hm, rfl⟩
  | n + 1, b, l, rest, hb, h => by
    simp only [dks] at h
    by_cases h1 : (dec b).2.2 = 0
    · rw [if_pos h1] at h
      by_cases h2 : (dks n (b.drop (dec b).2.1.toNat)).2.2 = 0
      · rw [if_pos h2] at h
        simp only [Prod.mk.injEq, and_true] at h
        obtain ⟨rfl, rfl⟩ := h
        obtain ⟨e1, e2, e3⟩ := dks_inv n (b.drop (dec b).2.1.toNat) _ _ (okB_drop _ _ hb) (by rw [← h2])
        obtain ⟨d1, d2, d3, d4, d5⟩ := dec_inv b hb (dec b).1 (dec b).2.1 (by rw [← h1])
        refine ⟨?_, ?_, ?_⟩
        · rw [encs, List.append_assoc, ← e1]; exact d1
        · intro m hm
          rcases List.mem_cons.mp hm with hm | hm
          · rw [hm]; exact d2
          · exact e2 m hm
        · rw [List.length_cons, e3]
      · rw [if_neg h2] at h
        simp only [Prod.mk.injEq] at h
        exact absurd h.2.2 h2
    · rw [if_neg h1] at h
      simp only [Prod.mk.injEq] at h
      exact absurd h.2.2 h1
theorem dks_err : ∀ n b, (dks n b).2.2 ≠ 0 → (dks n b).1 = [] ∧ (dks n b).2.1 = []
  | 0, b, h => absurd rfl h
  | n + 1, b, h => by
    simp only [dks] at h ⊢
    by_cases h1 : (dec b).2.2 = 0
    · rw [if_pos h1] at h ⊢
      by_cases h2 : (dks n (b.drop (dec b).2.1.toNat)).2.2 = 0
      · rw [if_pos h2] at h; exact absurd rfl h
      · rw [if_neg h2]; exact ⟨rfl, rfl⟩
    · rw [if_neg h1]; exact ⟨rfl, rfl⟩
theorem dec_k (b : List Int) : 0 ≤ (dec b).2.1 ∧ (dec b).2.1 ≤ b.length := by
  have := nb_le b
  unfold dec
  split
  · simp
  · split
    · simp
    · split
      · simp
      · simp; omega
end Go.Proofs.Ytekagaimfdbgiaa.P
