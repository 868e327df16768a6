/- Texts of this claim in one: VEnc, VEditsP, VJSameP, VCrcP, VJourP, VRAddP; no condition. -/
import Derived.Test.YteopkkoblbmggaaYAD
import Derived.Test.YteopkkoblbmggaaYAT
import Derived.Test.YteopkkoblbmggaaYAG
import Derived.Test.YteopkkoblbmggaaYAP
import Derived.Test.YteopkkoblbmggaaYAI
import Derived.Test.YteopkkoblbmggaaYAH
import Derived.Test.YteopkkoblbmggaaYAJ
section
set_option linter.unusedVariables false
set_option linter.unusedSimpArgs false
namespace Go.Proofs.Yteopkkoblbmggaa.P
open Go.RowKit Go.Proofs.YteopkkoblbmggaaW.PrintWords Go.Proofs.YteopkkoblbmggaaW.PrintLast Go.Proofs.YteopkkoblbmggaaW.PrintMore
theorem vs_len : ∀ j u, 0 < (vs j u).length ∧ (vs j u).length ≤ j + 1
  | 0, u => by simp [vs]
  | j + 1, u => by
    have := vs_len j (u / 128)
    simp only [vs]
    split <;> simp <;> omega
theorem nb_vs : ∀ j u (rest : List Int), u < 128 ^ (j + 1) → nb (vs j u ++ rest) = (vs j u).length
  | 0, u, rest, h => by
    have h1 : u < 128 := by simpa using h
    simp only [vs, List.cons_append, nb, List.length_cons, List.length_nil]
    rw [if_pos (by omega)]
  | j + 1, u, rest, h => by
    simp only [vs]
    by_cases h1 : u < 128
    · rw [if_pos h1]
      simp only [List.cons_append, nb, List.length_cons, List.length_nil]
      rw [if_pos (by omega)]
    · rw [if_neg h1]
      simp only [List.cons_append, nb, List.length_cons]
      have := vs_len j (u / 128)
      rw [if_neg (by omega), nb_vs j (u / 128) rest (by rw [Nat.pow_succ] at h; omega), if_neg (by omega)]
theorem nb_cut : ∀ j u c, c < (vs j u).length → nb ((vs j u).take c) = 0
  | 0, u, c, h => by
    have : c = 0 := by simp [vs] at h; omega
    subst this; rfl
  | j + 1, u, c, h => by
    simp only [vs] at h ⊢
    by_cases h1 : u < 128
    · rw [if_pos h1] at h ⊢
      have : c = 0 := by simp at h; omega
      subst this; rfl
    · rw [if_neg h1] at h ⊢
      cases c with
      | zero => rfl
      | succ c =>
        simp only [List.take_succ_cons, nb]
        rw [if_neg (by omega), nb_cut j (u / 128) c (by simp at h; omega), if_pos rfl]
theorem uv_vs : ∀ j u, u < 128 ^ (j + 1) → uv (vs j u) = (u : Int)
  | 0, u, h => by
    have h1 : u < 128 := by simpa using h
    simp [vs, uv]; omega
  | j + 1, u, h => by
    simp only [vs]
    by_cases h1 : u < 128
    · rw [if_pos h1]; simp [uv]; omega
    · rw [if_neg h1]; simp only [uv]
      rw [uv_vs j (u / 128) (by rw [Nat.pow_succ] at h; omega)]; omega
theorem vs_last : ∀ j u, u < 128 ^ (j + 1) → u ≠ 0 → (vs j u).getD ((vs j u).length - 1) 0 ≠ 0
  | 0, u, h, h0 => by simp [vs]; omega
  | j + 1, u, h, h0 => by
    simp only [vs]
    by_cases h1 : u < 128
    · rw [if_pos h1]; simp; omega
    · rw [if_neg h1]
      have hl := vs_len j (u / 128)
      have key := vs_last j (u / 128) (by rw [Nat.pow_succ] at h; omega) (by omega)
      rw [List.length_cons, Nat.add_sub_cancel]
      obtain ⟨q, hq⟩ : ∃ q, (vs j (u / 128)).length = q + 1 := ⟨(vs j (u / 128)).length - 1, by omega⟩
      rw [hq] at key ⊢
      rw [List.getD_cons_succ]
      exact key
theorem vs_top : ∀ j u, u < 128 ^ (j + 1) → (vs j u).length = j + 1 → (vs j u).getD j 0 = ((u / 128 ^ j : Nat) : Int)
  | 0, u, h, hl => by simp [vs]
  | j + 1, u, h, hl => by
    simp only [vs] at hl ⊢
    by_cases h1 : u < 128
    · rw [if_pos h1] at hl; simp at hl
    · rw [if_neg h1] at hl ⊢
      rw [List.getD_cons_succ, vs_top j (u / 128) (by rw [Nat.pow_succ] at h; omega) (by simp at hl; exact hl), Nat.div_div_eq_div_mul, Nat.pow_succ, Nat.mul_comm]
theorem uz_zz (n : Int) : uz (zz n : Int) = n := by unfold uz zz; split <;> split <;> omega
theorem zz_uz (u : Int) (h0 : 0 ≤ u) : (zz (uz u) : Int) = u := by unfold uz zz; split <;> split <;> omega
theorem getD_app (a b : List Int) (i : Nat) (h : i < a.length) : (a ++ b).getD i 0 = a.getD i 0 := by simp [List.getD, List.getElem?_append_left h]
theorem dec_enc (n : Int) (hn : okZ n) (rest : List Int) : dec (enc n ++ rest) = (n, ((enc n).length : Int), 0) := by
  have hz := zz_lt n hn
  have hl := vs_len 9 (zz n)
  have hb := nb_vs 9 (zz n) rest (by omega)
  unfold dec enc
  rw [hb, if_neg (by omega), if_neg, if_neg, List.take_append_of_le_length (Nat.le_refl _), List.take_length, uv_vs 9 (zz n) (by omega), uz_zz]
  · rintro ⟨h1, h2⟩
    rw [getD_app _ _ _ (by omega)] at h2
    by_cases h0 : zz n = 0
    · rw [h0] at h1; simp [vs] at h1
    · exact vs_last 9 (zz n) (by omega) h0 h2
  · rintro (h1 | ⟨h1, h2⟩)
    · omega
    · rw [getD_app _ _ _ (by omega), vs_top 9 (zz n) (by omega) h1] at h2
      have : zz n / 128 ^ 9 < 2 := by rw [Nat.div_lt_iff_lt_mul (by decide)]; omega
      omega
theorem dec_cut (n : Int) (c : Nat) (h : c < (enc n).length) : dec ((enc n).take c) = (0, 0, 13) := by
  unfold dec enc
  rw [nb_cut 9 (zz n) c h, if_pos rfl]
/-- Bytes that end are those of their value. -/
theorem vs_uv : ∀ (b : List Int) (j : Nat), okB b → nb b ≠ 0 → nb b ≤ j + 1 → (1 < nb b → b.getD (nb b - 1) 0 ≠ 0) → b.take (nb b) = vs j (uv (b.take (nb b))).toNat
  | [], j, hb, h0, hj, hl => absurd rfl h0
  | x :: xs, j, hb, h0, hj, hl => by
    have hx := hb x (List.mem_cons_self)
    by_cases h : x < 128
    · have e : nb (x :: xs) = 1 := by simp [nb, h]
      rw [e]
      simp only [List.take_succ_cons, List.take_zero, uv]
      have e2 : (x % 128 + 128 * 0).toNat = x.toNat := by omega
      rw [e2]
      have e3 : ((x.toNat : Nat) : Int) = x := by omega
      cases j with
      | zero => simp [vs, e3]
      | succ j => simp only [vs]; rw [if_pos (by omega), e3]
    · by_cases h1 : nb xs = 0
      · exfalso; apply h0; simp [nb, h, h1]
      · have e : nb (x :: xs) = nb xs + 1 := by simp [nb, h, h1]
        rw [e] at hj hl ⊢
        obtain ⟨j, rfl⟩ : ∃ q, j = q + 1 := ⟨j - 1, by omega⟩
        obtain ⟨q, hq⟩ : ∃ q, nb xs = q + 1 := ⟨nb xs - 1, by omega⟩
        have hl' : xs.getD (nb xs - 1) 0 ≠ 0 := by
          have := hl (by omega)
          rw [Nat.add_sub_cancel, hq, List.getD_cons_succ] at this
          rw [hq]; exact this
        have ih := vs_uv xs j (fun y hy => hb y (List.mem_cons_of_mem _ hy)) h1 (by omega) (fun _ => hl')
        have hle := nb_le xs
        have hU := (uv_bound (xs.take (nb xs))).1
        have hne : uv (xs.take (nb xs)) ≠ 0 := by
          intro c
          rw [c] at ih
          have e1 : vs j (0 : Int).toNat = [0] := by cases j <;> simp [vs]
          rw [e1] at ih
          have hlen : (xs.take (nb xs)).length = 1 := by rw [ih]; rfl
          rw [List.length_take] at hlen
          have hn1 : nb xs = 1 := by omega
          rw [hn1] at hl' ih
          cases xs with
          | nil => exact h1 rfl
          | cons y ys => simp at ih hl'; exact hl' ih
        simp only [List.take_succ_cons, uv, vs]
        rw [if_neg (by omega)]
        have e4 : (x % 128 + 128 * uv (xs.take (nb xs))).toNat / 128 = (uv (xs.take (nb xs))).toNat := by omega
        have e5 : (((x % 128 + 128 * uv (xs.take (nb xs))).toNat % 128 + 128 : Nat) : Int) = x := by omega
        rw [e4, e5, ← ih]
theorem dec_inv (b : List Int) (hb : okB b) (n k : Int) (h : dec b = (n, k, 0)) : b = enc n ++ b.drop k.toNat ∧ okZ n ∧ k = ((enc n).length : Int) ∧ 0 ≤ k ∧ k ≤ b.length := by
  unfold dec at h
  by_cases h0 : nb b = 0
  · rw [if_pos h0] at h; simp at h
  · rw [if_neg h0] at h
    by_cases h1 : 10 < nb b ∨ nb b = 10 ∧ 1 < b.getD 9 0
    · rw [if_pos h1] at h; simp at h
    · rw [if_neg h1] at h
      by_cases h2 : 1 < nb b ∧ b.getD (nb b - 1) 0 = 0
      · rw [if_pos h2] at h; simp at h
      · rw [if_neg h2] at h
        simp only [Prod.mk.injEq, and_true] at h
        obtain ⟨rfl, rfl⟩ := h
        have hle := nb_le b
        have ht := vs_uv b 9 hb h0 (by omega) (fun c d => h2 ⟨c, d⟩)
        have hu0 := (uv_bound (b.take (nb b))).1
        have hu1 := uv_ten b (nb b) hle (by omega) hb (by intro c; omega)
        have e : zz (uz (uv (b.take (nb b)))) = (uv (b.take (nb b))).toNat := by have := zz_uz _ hu0; omega
        have e2 : enc (uz (uv (b.take (nb b)))) = b.take (nb b) := by rw [enc, e, ← ht]
        rw [e2]
        refine ⟨?_, ?_, ?_, by omega, by omega⟩
        · rw [Int.toNat_natCast, List.take_append_drop]
        · unfold okZ uz; split <;> omega
        · rw [List.length_take]; omega
theorem vs_ok : ∀ j u, u < 128 ^ (j + 1) → okB (vs j u)
  | 0, u, h => by
    have h1 : u < 128 := by simpa using h
    intro x hx
    simp only [vs, List.mem_singleton] at hx
    omega
  | j + 1, u, h => by
    simp only [vs]
    by_cases h1 : u < 128
    · rw [if_pos h1]
      intro x hx
      simp only [List.mem_singleton] at hx
      omega
    · rw [if_neg h1]
      intro x hx
      rcases List.mem_cons.mp hx with hx | hx
      · omega
      · exact vs_ok j (u / 128) (by rw [Nat.pow_succ] at h; omega) x hx
theorem enc_ok (n : Int) (hn : okZ n) : okB (enc n) := vs_ok 9 _ (by have := zz_lt n hn; omega)
theorem enc_len (n : Int) : 0 < (enc n).length ∧ (enc n).length ≤ 10 := vs_len 9 (zz n)
/-! ### many numbers -/
def encs : List Int → List Int
  | [] => []
  | n :: l => enc n ++ encs l
def okZs (l : List Int) : Prop := ∀ n ∈ l, okZ n
theorem encs_ok : ∀ l, okZs l → okB (encs l)
  | [], _ => fun x hx => by simp [encs] at hx
  | n :: l, h => by
    intro x hx
    rcases List.mem_append.mp hx with hx | hx
    · exact enc_ok n (h n List.mem_cons_self) x hx
    · exact encs_ok l (fun m hm => h m (List.mem_cons_of_mem _ hm)) x hx
theorem encs_len : ∀ l, l.length ≤ (encs l).length ∧ (encs l).length ≤ 10 * l.length
  | [] => by simp [encs]
  | n :: l => by
    have := encs_len l
    have := enc_len n
    simp only [encs, List.length_append, List.length_cons]; omega
def dks : Nat → List Int → List Int × List Int × Int
  | 0, l => ([], l, 0)
  | n + 1, l => if (dec l).2.2 = 0 then (if (dks n (l.drop (dec l).2.1.toNat)).2.2 = 0 then ((dec l).1 :: (dks n (l.drop (dec l).2.1.toNat)).1, (dks n (l.drop (dec l).2.1.toNat)).2.1, 0) else ([], [], (dks n (l.drop (dec l).2.1.toNat)).2.2)) else ([], [], (dec l).2.2)
theorem dks_encs : ∀ l rest, okZs l → dks l.length (encs l ++ rest) = (l, rest, 0)
  | [], rest, _ => rfl
  | n :: l, rest, h => by
    have hn := h n List.mem_cons_self
    simp only [List.length_cons, dks, encs, List.append_assoc, dec_enc n hn, Int.toNat_natCast, List.drop_left, dks_encs l rest (fun m hm => h m (List.mem_cons_of_mem _ hm)), if_true]
theorem dks_cut : ∀ l c, okZs l → c < (encs l).length → dks l.length ((encs l).take c) = ([], [], 13)
  | [], c, _, hc => by simp [encs] at hc
  | n :: l, c, h, hc => by
    have hn := h n List.mem_cons_self
    simp only [List.length_cons, dks, encs]
    by_cases h1 : c < (enc n).length
    · rw [List.take_append_of_le_length (by omega), dec_cut n c h1]; rfl
    · have e : (enc n ++ encs l).take c = enc n ++ (encs l).take (c - (enc n).length) := by
        rw [List.take_append, List.take_of_length_le (by omega)]
      simp only [encs, List.length_append] at hc
      rw [e]
      simp only [dec_enc n hn, Int.toNat_natCast, List.drop_left, dks_cut l (c - (enc n).length) (fun m hm => h m (List.mem_cons_of_mem _ hm)) (by omega), if_true]
      rfl
theorem okB_drop (b : List Int) (n : Nat) (h : okB b) : okB (b.drop n) := fun x hx => h x (List.mem_of_mem_drop hx)
theorem dks_inv : ∀ n b l rest, okB b → dks n b = (l, rest, 0) → b = encs l ++ rest ∧ okZs l ∧ l.length = n
  | 0, b, l, rest, hb, h => by
    simp only [dks, Prod.mk.injEq, and_true] at h
    obtain ⟨rfl, rfl⟩ := h
    exact ⟨rfl, fun m hm => by simp at hm, rfl⟩
  | n + 1, b, l, rest, hb, h => by
    simp only [dks] at h
    by_cases h1 : (dec b).2.2 = 0
    · rw [if_pos h1] at h
      by_cases h2 : (dks n (b.drop (dec b).2.1.toNat)).2.2 = 0
      · rw [if_pos h2] at h
        simp only [Prod.mk.injEq, and_true] at h
        obtain ⟨rfl, rfl⟩ := h
        obtain ⟨e1, e2, e3⟩ := dks_inv n (b.drop (dec b).2.1.toNat) _ _ (okB_drop _ _ hb) (by rw [← h2])
        obtain ⟨d1, d2, d3, d4, d5⟩ := dec_inv b hb (dec b).1 (dec b).2.1 (by rw [← h1])
        refine ⟨?_, ?_, ?_⟩
        · rw [encs, List.append_assoc, ← e1]; exact d1
        · intro m hm
          rcases List.mem_cons.mp hm with hm | hm
          · rw [hm]; exact d2
          · exact e2 m hm
        · rw [List.length_cons, e3]
      · rw [if_neg h2] at h
        simp only [Prod.mk.injEq] at h
        exact absurd h.2.2 h2
    · rw [if_neg h1] at h
      simp only [Prod.mk.injEq] at h
      exact absurd h.2.2 h1
theorem dec_k (b : List Int) : 0 ≤ (dec b).2.1 ∧ (dec b).2.1 ≤ b.length := by
  have := nb_le b
  unfold dec
  split
  · simp
  · split
    · simp
    · split
      · simp
      · simp; omega
theorem ints_l0 : ∀ (m : Nat) (out l : List Int) (i k : Nat), l.length - i = m → i ≤ l.length → l.length < 1000 → okZs l → out.length + 10 * m + 20 < 140737488355328 → m + 12 ≤ k →
    edits_ints.l0 k out l (l.length : Int) (i : Int) = some (out ++ encs (l.drop i))
  | 0, out, l, i, k, hm, hi, hs, hl, ho, hk => by
    obtain ⟨k, rfl⟩ : ∃ q, k = q + 1 := ⟨k - 1, by omega⟩
    simp only [edits_ints.l0]
    rw [if_neg (by omega), List.drop_eq_nil_of_le (by omega)]
    simp [encs]
  | m + 1, out, l, i, k, hm, hi, hs, hl, ho, hk => by
    obtain ⟨k, rfl⟩ : ∃ q, k = q + 1 := ⟨k - 1, by omega⟩
    obtain ⟨q, rfl⟩ : ∃ q, k = 11 + q := ⟨k - 11, by omega⟩
    have hi' : i < l.length := by omega
    have hz : okZ l[i] := hl _ (List.getElem_mem hi')
    simp only [edits_ints.l0]
    have e : rd l (i : Int) = l[i] := by unfold rd; rw [Int.toNat_natCast, getD_at hi']
    rw [if_pos (by omega), if_pos (by omega), if_pos (by omega), e, putInt_eq q out l[i] hz (by omega), Option.bind_some, wrap_in' _ (by omega) (by omega)]
    have hlen := enc_len l[i]
    rw [show ((i : Int) + 1) = ((i + 1 : Nat) : Int) by omega, ints_l0 m (out ++ enc l[i]) l (i + 1) (11 + q) (by omega) (by omega) hs hl (by rw [List.length_append]; omega) (by omega)]
    rw [List.drop_eq_getElem_cons hi', encs, List.append_assoc]
theorem ints_eq (k : Nat) (out l : List Int) (hs : l.length ≤ 20) (hl : okZs l) (ho : out.length < 1000) (hk : 40 ≤ k) : edits_ints.f k out l = some (out ++ encs l) := by
  unfold edits_ints.f
  have := ints_l0 l.length out l 0 k (by omega) (by omega) (by omega) hl (by omega) (by omega)
  rw [List.drop_zero] at this
  exact this
def headN (a0 a1 a2 a3 a4 : Int) (a5 : Bool) : List Int := [a0, a1, a2, a3, a4, if a5 = true then 1 else 0]
def tailN (a5 : Bool) (a6 a7 a8 a9 a10 a11 a12 : Int) : List Int := if a5 = true then [] else [a6, a7, a8, a9, a10, a11, a12]
/-- The bytes of an edit. -/
def putB (a0 a1 a2 a3 a4 : Int) (a5 : Bool) (a6 a7 a8 a9 a10 a11 a12 : Int) : List Int := encs (headN a0 a1 a2 a3 a4 a5) ++ encs (tailN a5 a6 a7 a8 a9 a10 a11 a12)
def okE (a0 a1 a2 a3 a4 : Int) (a6 a7 a8 a9 a10 a11 a12 : Int) : Prop := okZ a0 ∧ okZ a1 ∧ okZ a2 ∧ okZ a3 ∧ okZ a4 ∧ okZ a6 ∧ okZ a7 ∧ okZ a8 ∧ okZ a9 ∧ okZ a10 ∧ okZ a11 ∧ okZ a12
theorem head_ok {a0 a1 a2 a3 a4 a6 a7 a8 a9 a10 a11 a12 : Int} (a5 : Bool) (h : okE a0 a1 a2 a3 a4 a6 a7 a8 a9 a10 a11 a12) : okZs (headN a0 a1 a2 a3 a4 a5) := by
  obtain ⟨h0, h1, h2, h3, h4, -⟩ := h
  intro n hn
  simp only [headN, List.mem_cons, List.not_mem_nil, or_false] at hn
  rcases hn with rfl | rfl | rfl | rfl | rfl | rfl <;> first | assumption | (split <;> (unfold okZ; omega))
theorem tail_ok {a0 a1 a2 a3 a4 a6 a7 a8 a9 a10 a11 a12 : Int} (a5 : Bool) (h : okE a0 a1 a2 a3 a4 a6 a7 a8 a9 a10 a11 a12) : okZs (tailN a5 a6 a7 a8 a9 a10 a11 a12) := by
  obtain ⟨-, -, -, -, -, h6, h7, h8, h9, h10, h11, h12⟩ := h
  intro n hn
  cases a5
  · simp only [tailN, Bool.false_eq_true, if_false, List.mem_cons, List.not_mem_nil, or_false] at hn
    rcases hn with rfl | rfl | rfl | rfl | rfl | rfl | rfl <;> assumption
  · simp [tailN] at hn
theorem putB_ok {a0 a1 a2 a3 a4 a6 a7 a8 a9 a10 a11 a12 : Int} (a5 : Bool) (h : okE a0 a1 a2 a3 a4 a6 a7 a8 a9 a10 a11 a12) : okB (putB a0 a1 a2 a3 a4 a5 a6 a7 a8 a9 a10 a11 a12) := by
  intro x hx
  rcases List.mem_append.mp hx with hx | hx
  · exact encs_ok _ (head_ok a5 h) x hx
  · exact encs_ok _ (tail_ok a5 h) x hx
theorem putB_len (a0 a1 a2 a3 a4 : Int) (a5 : Bool) (a6 a7 a8 a9 a10 a11 a12 : Int) : (putB a0 a1 a2 a3 a4 a5 a6 a7 a8 a9 a10 a11 a12).length ≤ 130 := by
  have h1 := (encs_len (headN a0 a1 a2 a3 a4 a5)).2
  have h2 := (encs_len (tailN a5 a6 a7 a8 a9 a10 a11 a12)).2
  have l1 : (headN a0 a1 a2 a3 a4 a5).length = 6 := rfl
  have l2 : (tailN a5 a6 a7 a8 a9 a10 a11 a12).length ≤ 7 := by unfold tailN; split <;> simp
  unfold putB
  rw [List.length_append]
  omega
theorem put_edit_eq (k : Nat) (hk : 40 ≤ k) {a0 a1 a2 a3 a4 a6 a7 a8 a9 a10 a11 a12 : Int} (a5 : Bool) (h : okE a0 a1 a2 a3 a4 a6 a7 a8 a9 a10 a11 a12) :
    edits_Put.f k a0 a1 a2 a3 a4 a5 a6 a7 a8 a9 a10 a11 a12 = some (if chkE a0 a1 a2 a3 a4 a5 a6 a7 a8 a9 a10 a11 a12 = 0 then (putB a0 a1 a2 a3 a4 a5 a6 a7 a8 a9 a10 a11 a12, 0) else ([], chkE a0 a1 a2 a3 a4 a5 a6 a7 a8 a9 a10 a11 a12)) := by
  obtain ⟨h0, h1, h2, h3, h4, h6, h7, h8, h9, h10, h11, h12⟩ := h
  have z0 : okZ 0 := by unfold okZ; omega
  have z1 : okZ 1 := by unfold okZ; omega
  have e1 := ints_eq k [] [a0, a1, a2, a3, a4] (by simp) (by intro n hn; simp only [List.mem_cons, List.not_mem_nil, or_false] at hn; rcases hn with rfl | rfl | rfl | rfl | rfl <;> assumption) (by simp) hk
  have hlen := (encs_len [a0, a1, a2, a3, a4]).2
  have hlen' : (encs [a0, a1, a2, a3, a4]).length ≤ 50 := hlen
  have e2 := ints_eq k (encs [a0, a1, a2, a3, a4]) [1] (by simp) (by intro n hn; simp only [List.mem_cons, List.not_mem_nil, or_false] at hn; rw [hn]; exact z1) (by omega) hk
  have e3 := ints_eq k (encs [a0, a1, a2, a3, a4]) [0, a6, a7, a8, a9, a10, a11, a12] (by simp) (by intro n hn; simp only [List.mem_cons, List.not_mem_nil, or_false] at hn; rcases hn with rfl | rfl | rfl | rfl | rfl | rfl | rfl | rfl <;> assumption) (by omega) hk
  unfold edits_Put.f
  obtain ⟨j, rfl⟩ : ∃ j, k = j + 4 := ⟨k - 4, by omega⟩
  rw [check_eq, Option.bind_some]
  by_cases hc : chkE a0 a1 a2 a3 a4 a5 a6 a7 a8 a9 a10 a11 a12 = 0
  · rw [if_pos hc, if_pos hc, e1, Option.bind_some, List.nil_append]
    cases a5
    · simp only [Bool.false_eq_true, if_false]
      rw [e3, Option.bind_some]
      simp [putB, headN, tailN, encs, List.append_assoc]
    · simp only [if_true]
      rw [e2, Option.bind_some]
      simp [putB, headN, tailN, encs, List.append_assoc]
  · rw [if_neg hc, if_neg hc]
theorem tks_eq (k : Nat) : ∀ (n : Nat) (b : List Int), b.length < 140737488355328 → okB b → b.length + 14 ≤ k → tks k n b = some (dks n b)
  | 0, b, _, _, _ => rfl
  | n + 1, b, hl, hb, hk => by
    have hd := dec_k b
    simp only [tks, dks, takeInt_eq k b hl hb hk, Option.bind_some]
    by_cases h1 : (dec b).2.2 = 0
    · have hdl : (b.drop (dec b).2.1.toNat).length ≤ b.length := by rw [List.length_drop]; omega
      rw [if_pos h1, if_pos h1, if_pos hd.1, if_pos hd.2, tks_eq k n _ (by omega) (okB_drop _ _ hb) (by omega), Option.bind_some]
    · rw [if_neg h1, if_neg h1]
abbrev E14 := Int × Int × Int × Int × Int × Bool × Int × Int × Int × Int × Int × Int × Int × Int
def errE (e : Int) : E14 := (0, 0, 0, 0, 0, false, 0, 0, 0, 0, 0, 0, 0, e)
def endP (a0 a1 a2 a3 a4 : Int) (a5 : Bool) (a6 a7 a8 a9 a10 a11 a12 : Int) (rest : List Int) : E14 :=
  if rest.length = 0 then (if chkE a0 a1 a2 a3 a4 a5 a6 a7 a8 a9 a10 a11 a12 = 0 then (a0, a1, a2, a3, a4, a5, a6, a7, a8, a9, a10, a11, a12, 0) else errE (chkE a0 a1 a2 a3 a4 a5 a6 a7 a8 a9 a10 a11 a12)) else errE 2
theorem end_eq (j : Nat) (a0 a1 a2 a3 a4 : Int) (a5 : Bool) (a6 a7 a8 a9 a10 a11 a12 : Int) (rest : List Int) :
    takeEnd (j + 4) a0 a1 a2 a3 a4 a5 a6 a7 a8 a9 a10 a11 a12 rest = some (endP a0 a1 a2 a3 a4 a5 a6 a7 a8 a9 a10 a11 a12 rest) := by
  unfold takeEnd endP
  rw [check_eq, Option.bind_some]
  split
  · split <;> rfl
  · rfl
/-- What Take says. -/
def takeP (b : List Int) : E14 :=
  if (dks 6 b).2.2 = 0 then
    (if (dks 6 b).1.getD 5 0 = 1 then endP ((dks 6 b).1.getD 0 0) ((dks 6 b).1.getD 1 0) ((dks 6 b).1.getD 2 0) ((dks 6 b).1.getD 3 0) ((dks 6 b).1.getD 4 0) true 0 0 0 0 0 0 0 (dks 6 b).2.1
    else if (dks 6 b).1.getD 5 0 = 0 then
      (if (dks 7 (dks 6 b).2.1).2.2 = 0 then endP ((dks 6 b).1.getD 0 0) ((dks 6 b).1.getD 1 0) ((dks 6 b).1.getD 2 0) ((dks 6 b).1.getD 3 0) ((dks 6 b).1.getD 4 0) false ((dks 7 (dks 6 b).2.1).1.getD 0 0) ((dks 7 (dks 6 b).2.1).1.getD 1 0) ((dks 7 (dks 6 b).2.1).1.getD 2 0) ((dks 7 (dks 6 b).2.1).1.getD 3 0) ((dks 7 (dks 6 b).2.1).1.getD 4 0) ((dks 7 (dks 6 b).2.1).1.getD 5 0) ((dks 7 (dks 6 b).2.1).1.getD 6 0) (dks 7 (dks 6 b).2.1).2.1
      else errE (dks 7 (dks 6 b).2.1).2.2)
    else errE 2)
  else errE (dks 6 b).2.2
theorem take_eq (k : Nat) (b : List Int) (hl : b.length < 140737488355328) (hb : okB b) (hk : b.length + 14 ≤ k) : edits_Take.f k b = some (takeP b) := by
  have e1 := tks_eq k 6 b hl hb hk
  obtain ⟨j, rfl⟩ : ∃ j, k = j + 4 := ⟨k - 4, by omega⟩
  unfold edits_Take.f takeP
  rw [e1, Option.bind_some]
  by_cases h1 : (dks 6 b).2.2 = 0
  · obtain ⟨i1, i2, i3⟩ := dks_inv 6 b (dks 6 b).1 (dks 6 b).2.1 hb (by rw [← h1])
    have hr : (dks 6 b).2.1.length ≤ b.length := by have := congrArg List.length i1; rw [List.length_append] at this; omega
    have hrb : okB (dks 6 b).2.1 := fun x hx => hb x (by rw [i1]; exact List.mem_append_right _ hx)
    have e2 := tks_eq (j + 4) 7 (dks 6 b).2.1 (by omega) hrb (by omega)
    rw [if_pos h1, if_pos h1]
    split
    · rw [end_eq]
    · split
      · rw [e2, Option.bind_some]
        split
        · rw [end_eq]
        · rfl
      · rfl
  · rw [if_neg h1, if_neg h1]; rfl
/-! ### an edit and its bytes -/
theorem take_put {a0 a1 a2 a3 a4 a6 a7 a8 a9 a10 a11 a12 : Int} (a5 : Bool) (h : okE a0 a1 a2 a3 a4 a6 a7 a8 a9 a10 a11 a12) (hc : chkE a0 a1 a2 a3 a4 a5 a6 a7 a8 a9 a10 a11 a12 = 0) (more : List Int) :
    takeP (putB a0 a1 a2 a3 a4 a5 a6 a7 a8 a9 a10 a11 a12 ++ more) = if more.length = 0 then (a0, a1, a2, a3, a4, a5, a6, a7, a8, a9, a10, a11, a12, 0) else errE 2 := by
  have e1 := dks_encs (headN a0 a1 a2 a3 a4 a5) (encs (tailN a5 a6 a7 a8 a9 a10 a11 a12) ++ more) (head_ok a5 h)
  have e2 := dks_encs (tailN a5 a6 a7 a8 a9 a10 a11 a12) more (tail_ok a5 h)
  rw [show (headN a0 a1 a2 a3 a4 a5).length = 6 from rfl, ← List.append_assoc] at e1
  unfold takeP putB
  cases a5
  · rw [show (tailN false a6 a7 a8 a9 a10 a11 a12).length = 7 from rfl] at e2
    simp only [e1, e2]
    simp only [headN, tailN, Bool.false_eq_true, if_false, if_true]
    simp only [List.getD_cons_zero, List.getD_cons_succ, Int.reduceEq, if_false, if_true, endP, hc]
  · rw [e1]
    have hz : a6 = 0 ∧ a7 = 0 ∧ a8 = 0 ∧ a9 = 0 ∧ a10 = 0 ∧ a11 = 0 ∧ a12 = 0 := by
      unfold chkE at hc
      split at hc
      · cases hc
      · split at hc
        · cases hc
        · simp only [if_true] at hc
          split at hc
          · assumption
          · cases hc
    obtain ⟨rfl, rfl, rfl, rfl, rfl, rfl, rfl⟩ := hz
    simp only [headN, tailN, encs, List.nil_append, if_true, List.getD_cons_zero, List.getD_cons_succ, endP, hc]
theorem take_cut {a0 a1 a2 a3 a4 a6 a7 a8 a9 a10 a11 a12 : Int} (a5 : Bool) (h : okE a0 a1 a2 a3 a4 a6 a7 a8 a9 a10 a11 a12) (c : Nat) (hcl : c < (putB a0 a1 a2 a3 a4 a5 a6 a7 a8 a9 a10 a11 a12).length) :
    takeP ((putB a0 a1 a2 a3 a4 a5 a6 a7 a8 a9 a10 a11 a12).take c) = errE 13 := by
  have h6 : (headN a0 a1 a2 a3 a4 a5).length = 6 := rfl
  by_cases h1 : c < (encs (headN a0 a1 a2 a3 a4 a5)).length
  · have e1 := dks_cut (headN a0 a1 a2 a3 a4 a5) c (head_ok a5 h) h1
    rw [h6] at e1
    unfold takeP putB
    rw [List.take_append_of_le_length (by omega), e1]
    rfl
  · have e0 : (putB a0 a1 a2 a3 a4 a5 a6 a7 a8 a9 a10 a11 a12).take c = encs (headN a0 a1 a2 a3 a4 a5) ++ (encs (tailN a5 a6 a7 a8 a9 a10 a11 a12)).take (c - (encs (headN a0 a1 a2 a3 a4 a5)).length) := by
      unfold putB; rw [List.take_append, List.take_of_length_le (by omega)]
    unfold putB at hcl
    rw [List.length_append] at hcl
    have e1 := dks_encs (headN a0 a1 a2 a3 a4 a5) ((encs (tailN a5 a6 a7 a8 a9 a10 a11 a12)).take (c - (encs (headN a0 a1 a2 a3 a4 a5)).length)) (head_ok a5 h)
    have e2 := dks_cut (tailN a5 a6 a7 a8 a9 a10 a11 a12) (c - (encs (headN a0 a1 a2 a3 a4 a5)).length) (tail_ok a5 h) (by omega)
    rw [e0]
    unfold takeP
    rw [h6] at e1
    cases a5
    · rw [show (tailN false a6 a7 a8 a9 a10 a11 a12).length = 7 from rfl] at e2
      simp only [e1, e2]
      simp only [headN, Bool.false_eq_true, if_false, if_true]
      simp only [List.getD_cons_zero, List.getD_cons_succ, Int.reduceEq, if_false, if_true]
    · simp [tailN, encs] at hcl
      omega
theorem edits_self0 (l : List S30) (hl : l.length ≤ 1000000) : ∀ (m i k : Nat), l.length - i = m → i ≤ l.length → m + 1 ≤ k → dancestudioref58_Edits.l0 k l l (i : Int) = some true
  | 0, i, k, hm, hi, hk => by
    obtain ⟨k, rfl⟩ : ∃ j, k = j + 1 := ⟨k - 1, by omega⟩
    unfold dancestudioref58_Edits.l0
    rw [if_neg (by omega)]
  | m + 1, i, k, hm, hi, hk => by
    obtain ⟨k, rfl⟩ : ∃ j, k = j + 1 := ⟨k - 1, by omega⟩
    unfold dancestudioref58_Edits.l0
    rw [if_pos (by omega), if_pos (by omega), if_pos (by omega), if_neg (by simp), show wrap64 ((i : Int) + 1) = ((i + 1 : Nat) : Int) by unfold wrap64; omega]
    exact edits_self0 l hl m (i + 1) k (by omega) (by omega) (by omega)
theorem edits_self (k : Nat) (l : List S30) (hl : l.length ≤ 1000000) (hk : l.length + 1 ≤ k) : dancestudioref58_Edits.f k l l = some true := by
  unfold dancestudioref58_Edits.f
  rw [if_pos rfl]
  exact edits_self0 l hl l.length 0 k (by omega) (by omega) hk
theorem same_self (k : Nat) (d : Int) (l : List S30) (hl : l.length ≤ 1000000) (hk : l.length + 1 ≤ k) : dancestudioref58_Same.f k d l d l = some true := by
  unfold dancestudioref58_Same.f
  rw [if_pos rfl, edits_self k l hl hk]
  rfl
/-- One bit, eight bits, a byte, bytes. -/
def st1 (x : Int) : Int := if Go.bits .and .u32 x 1 = 1 then Go.bits .xor .u32 (x / 2) 2197175160 else x / 2
def stN : Nat → Int → Int
  | 0, x => x
  | n + 1, x => stN n (st1 x)
def crcL : Int → List Int → Int
  | r, [] => r
  | r, c :: t => crcL (stN 8 (Go.bits .xor .u32 r (c % 4294967296))) t
def crcE (s : Int) (b : List Int) : Int := Go.bits .xor .u32 4294967295 (crcL (Go.bits .xor .u32 4294967295 s) b)
theorem crcE_range (s : Int) (b : List Int) : 0 ≤ crcE s b ∧ crcE s b < 4294967296 := by
  unfold crcE Go.bits
  rw [IntKind.wrap_u32]
  omega
theorem rd_at8 {b : List Int} {i : Nat} (h : i < b.length) : rd b (i : Int) = b[i] := by
  unfold rd; rw [Int.toNat_natCast, List.getD_eq_getElem?_getD, List.getElem?_eq_getElem h, Option.getD_some]
theorem ext_l1 (l : List Int) (n i : Int) : ∀ (m : Nat) (x j : Int) (k : Nat), 0 ≤ j → j + m = 8 → crc_Extend.l1 (k + m + 1) x l n i j = crc_Extend.l0 k (stN m x) l n (wrap64 (i + 1))
  | 0, x, j, k, h0, hj => by
    unfold crc_Extend.l1
    rw [if_neg (by omega)]
    rfl
  | m + 1, x, j, k, h0, hj => by
    rw [show k + (m + 1) + 1 = (k + m + 1) + 1 by omega]
    unfold crc_Extend.l1
    rw [if_pos (by omega), show wrap64 (j + 1) = j + 1 by unfold wrap64; omega]
    unfold stN st1
    by_cases h : Go.bits .and .u32 x 1 = 1
    · rw [if_pos h, if_pos h, ext_l1 l n i m _ _ _ (by omega) (by omega)]
    · rw [if_neg h, if_neg h, ext_l1 l n i m _ _ _ (by omega) (by omega)]
theorem ext_l0 (l : List Int) (hl : l.length < 140737488355328) : ∀ (m i k : Nat) (r : Int), l.length - i = m → i ≤ l.length → 10 * m + 1 ≤ k → crc_Extend.l0 k r l (l.length : Int) (i : Int) = some (Go.bits .xor .u32 4294967295 (crcL r (l.drop i)))
  | 0, i, k, r, hm, hi, hk => by
    obtain ⟨k, rfl⟩ : ∃ j, k = j + 1 := ⟨k - 1, by omega⟩
    unfold crc_Extend.l0
    rw [if_neg (by omega), List.drop_of_length_le (by omega)]
    rfl
  | m + 1, i, k, r, hm, hi, hk => by
    obtain ⟨k, rfl⟩ : ∃ j, k = (j + 8 + 1) + 1 := ⟨k - 10, by omega⟩
    have hlt : i < l.length := by omega
    unfold crc_Extend.l0
    rw [if_pos (by omega), if_pos (by omega), if_pos (by omega), ext_l1 l _ _ 8 _ 0 k (by omega) (by omega), show wrap64 ((i : Int) + 1) = ((i + 1 : Nat) : Int) by unfold wrap64; omega,
      ext_l0 l hl m (i + 1) k _ (by omega) (by omega) (by omega), List.drop_eq_getElem_cons hlt, rd_at8 hlt]
    rfl
theorem ext_eq (k : Nat) (s : Int) (l : List Int) (hl : l.length < 140737488355328) (hk : 10 * l.length + 1 ≤ k) : crc_Extend.f k s l = some (crcE s l) := by
  unfold crc_Extend.f crcE
  have := ext_l0 l hl l.length 0 k (Go.bits .xor .u32 4294967295 s) (by omega) (by omega) hk
  rw [List.drop_zero] at this
  exact this
theorem sum_eq (k : Nat) (l : List Int) (hl : l.length < 140737488355328) (hk : 10 * l.length + 1 ≤ k) : crc_Sum.f k l = some (crcE 0 l) := by
  unfold crc_Sum.f
  rw [ext_eq k 0 l hl hk]
  rfl
/-- The four bytes of a checksum. -/
def fourP (n : Int) : List Int := [n % 256, n / 256 % 256, n / 65536 % 256, n / 16777216 % 256]
/-- The frame of a content. -/
def frameB (c : List Int) : List Int := enc (c.length : Int) ++ (fourP (crcE (crcE 0 (enc (c.length : Int))) c) ++ c)
theorem okZ_len (c : List Int) (h : c.length ≤ 65536) : okZ (c.length : Int) := by unfold okZ; omega
theorem frame_loop (k : Nat) (c h : List Int) (s : Int) (hc : c.length ≤ 65536) (hh : h.length ≤ 10) (hk : 5 ≤ k) : crc_Frame.l0 k c h s 0 = some (h ++ (fourP s ++ c), 0) := by
  obtain ⟨k, rfl⟩ : ∃ j, k = j + 5 := ⟨k - 5, by omega⟩
  rw [show k + 5 = (k + 4) + 1 by omega]
  unfold crc_Frame.l0
  rw [if_pos (by decide), show wrap64 (8 * 0) = 0 by unfold wrap64; omega, if_pos (by decide), if_pos (by omega), show wrap64 (0 + 1) = 1 by unfold wrap64; omega]
  rw [show k + 4 = (k + 3) + 1 by omega]
  unfold crc_Frame.l0
  rw [if_pos (by decide), show wrap64 (8 * 1) = 8 by unfold wrap64; omega, if_pos (by decide), if_pos (by simp; omega), show wrap64 (1 + 1) = 2 by unfold wrap64; omega]
  rw [show k + 3 = (k + 2) + 1 by omega]
  unfold crc_Frame.l0
  rw [if_pos (by decide), show wrap64 (8 * 2) = 16 by unfold wrap64; omega, if_pos (by decide), if_pos (by simp; omega), show wrap64 (2 + 1) = 3 by unfold wrap64; omega]
  rw [show k + 2 = (k + 1) + 1 by omega]
  unfold crc_Frame.l0
  rw [if_pos (by decide), show wrap64 (8 * 3) = 24 by unfold wrap64; omega, if_pos (by decide), if_pos (by simp; omega), show wrap64 (3 + 1) = 4 by unfold wrap64; omega]
  unfold crc_Frame.l0
  rw [if_neg (by decide), if_pos (by simp; omega)]
  have t0 : shr .u32 s 0 = s := by unfold shr; simp
  have t1 : shr .u32 s 8 = s / 256 := by unfold shr; rfl
  have t2 : shr .u32 s 16 = s / 65536 := by unfold shr; rfl
  have t3 : shr .u32 s 24 = s / 16777216 := by unfold shr; rfl
  rw [t0, t1, t2, t3]
  unfold fourP
  simp
theorem frame_eq (k : Nat) (c : List Int) (hc : c.length ≤ 65536) (hk : 10 * c.length + 200 ≤ k) : crc_Frame.f k c = some (frameB c, 0) := by
  obtain ⟨j, hj⟩ : ∃ j, k = 11 + j := ⟨k - 11, by omega⟩
  have hel := (enc_len (c.length : Int)).2
  unfold crc_Frame.f
  rw [if_neg (by omega), hj, putInt_eq j [] _ (okZ_len c hc) (by simp), ← hj, Option.bind_some, List.nil_append, sum_eq k _ (by omega) (by omega), Option.bind_some, ext_eq k _ _ (by omega) (by omega), Option.bind_some, frame_loop k c _ _ hc hel (by omega)]
  rfl
theorem frameB_len (c : List Int) : (frameB c).length = (enc (c.length : Int)).length + 4 + c.length := by
  unfold frameB fourP
  simp
  omega
theorem append_eq (k : Nat) (hk : 2000 ≤ k) (out : List Int) (ho : out.length ≤ 1000000) {a0 a1 a2 a3 a4 a6 a7 a8 a9 a10 a11 a12 : Int} (a5 : Bool) (h : okE a0 a1 a2 a3 a4 a6 a7 a8 a9 a10 a11 a12) :
    journal_Append.f k out a0 a1 a2 a3 a4 a5 a6 a7 a8 a9 a10 a11 a12 = some (if chkE a0 a1 a2 a3 a4 a5 a6 a7 a8 a9 a10 a11 a12 = 0 then (out ++ frameB (putB a0 a1 a2 a3 a4 a5 a6 a7 a8 a9 a10 a11 a12), 0) else ([], chkE a0 a1 a2 a3 a4 a5 a6 a7 a8 a9 a10 a11 a12)) := by
  unfold journal_Append.f
  rw [put_edit_eq k (by omega) a5 h, Option.bind_some]
  by_cases hz : chkE a0 a1 a2 a3 a4 a5 a6 a7 a8 a9 a10 a11 a12 = 0
  · rw [if_pos hz]
    have hl := putB_len a0 a1 a2 a3 a4 a5 a6 a7 a8 a9 a10 a11 a12
    dsimp only
    rw [if_pos rfl, frame_eq k _ (by omega) (by omega), Option.bind_some]
    dsimp only
    rw [if_pos rfl]
    have he := (enc_len ((putB a0 a1 a2 a3 a4 a5 a6 a7 a8 a9 a10 a11 a12).length : Int)).2
    have hf := frameB_len (putB a0 a1 a2 a3 a4 a5 a6 a7 a8 a9 a10 a11 a12)
    rw [show slices_Clone_byte_byte.f out = some out from by unfold slices_Clone_byte_byte.f; rw [if_pos (by omega)], Option.bind_some, if_pos (by omega), if_pos hz]
  · rw [if_neg hz]
    dsimp only
    rw [if_neg hz, if_neg hz]
/-- An edit founds another one. -/
def fndB (x y : S30) : Bool := fndsE x && decide (y.f1 = x.f1 ∧ y.f2.f0 = x.f2.f0 ∧ y.f2.f1 = x.f2.f1)
theorem kno_any (l : List S30) (y : S30) : kno30 l y = l.any (fun e => fndB e y) := rfl
theorem fndB_self (y : S30) : fndB y y = fndsE y := by unfold fndB; simp
theorem less_trans {a b c d e f : Int} (h : lessP a b c d = true) (g : lessP c d e f = true) : lessP a b e f = true := by
  unfold lessP at *
  simp only [decide_eq_true_eq] at *
  omega
theorem ord_tail {x : S30} {t : List S30} (h : ord30 (x :: t) = true) : ord30 t = true ∧ ∀ e ∈ t, less26 x.f0 e.f0 = true := by
  induction t generalizing x with
  | nil => exact ⟨rfl, fun e he => by cases he⟩
  | cons z t ih =>
    have h2 : (less26 x.f0 z.f0 && ord30 (z :: t)) = true := h
    rw [Bool.and_eq_true] at h2
    obtain ⟨g1, g2⟩ := ih h2.2
    refine ⟨h2.2, fun e he => ?_⟩
    rcases List.mem_cons.1 he with rfl | he
    · exact h2.1
    · exact less_trans h2.1 (g2 e he)
theorem rchk_ord {d : Int} {l : List S30} (h : rchkP d l = 0) : ord30 l = true ∧ l.length ≤ 512 ∧ chkL30 l = 0 ∧ l.all (kno30 l) = true ∧ 1 ≤ d ∧ d ≤ 64 := by
  unfold rchkP at h
  split at h
  · cases h
  · split at h
    · cases h
    · split at h
      · split at h
        · split at h
          · exact ⟨by assumption, by omega, by assumption, by assumption, by omega, by omega⟩
          · cases h
        · cases h
      · exact absurd h (by assumption)
end Go.Proofs.Yteopkkoblbmggaa.P
end
