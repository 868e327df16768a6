/- Texts of this claim in one: VSpoilP, VSpoilC, VSpoilQ, VSpoilT, VSpoilH, PureJournalSpoilt; no condition. -/
import Derived.Test.YteopkkoblbmggaaYAD
import Derived.Test.YteopkkoblbmggaaYAJ
import Derived.Test.YteopkkoblbmggaaYAI
import Derived.Test.YteopkkoblbmggaaYAU
import Derived.Test.YteopkkoblbmggaaYAW
import Derived.Test.YteopkkoblbmggaaYAT
import Derived.Test.YteopkkoblbmggaaYAV
import Derived.Test.YteopkkoblbmggaaYAS
import Derived.Test.YteopkkoblbmggaaYBB
import Derived.Test.YteopkkoblbmggaaYAY
section
set_option linter.unusedVariables false
set_option linter.unusedSimpArgs false
namespace Go.Proofs.Yteopkkoblbmggaa.P
open Go.RowKit Go.Proofs.YteopkkoblbmggaaW.PrintWords Go.Proofs.YteopkkoblbmggaaW.PrintLast Go.Proofs.YteopkkoblbmggaaW.PrintMore
theorem enc_one (n : Nat) (h : n < 64) : enc (n : Int) = [2 * (n : Int)] := by
  have e : zz (n : Int) = 2 * n := by unfold zz; rw [if_neg (by omega)]; omega
  unfold enc
  rw [e, vs, if_pos (by omega)]
  congr 1
theorem vs_short : ∀ (J j u : Nat), u < 128 ^ (j + 1) → (vs J u).length ≤ j + 1
  | 0, j, u, _ => by simp [vs]
  | J + 1, 0, u, h => by
    have : u < 128 := by simpa using h
    simp [vs, this]
  | J + 1, j + 1, u, h => by
    have h1 : u / 128 < 128 ^ (j + 1) := by rw [Nat.pow_succ] at h; omega
    have := vs_short J j (u / 128) h1
    rw [vs]
    split
    · simp
    · simp only [List.length_cons]; omega
theorem enc_short (n : Int) (j : Nat) (h : zz n < 128 ^ (j + 1)) : (enc n).length ≤ j + 1 := vs_short 9 j _ h
theorem zz_le (n : Int) (m : Nat) (h0 : 0 ≤ n) (h1 : 2 * n < (m : Int)) : zz n < m := by unfold zz; rw [if_neg (by omega)]; omega
theorem val_facts {c d : Int} (h : valP c d ≠ false) : 1 ≤ c ∧ c ≤ 1000000 ∧ 1 ≤ d ∧ d ≤ 64 := by
  unfold valP at h
  simpa using h
theorem chk_facts {x : S30} (h : chk30 x = 0) : (1 ≤ x.f0.f0 ∧ x.f0.f0 ≤ 1000000 ∧ 1 ≤ x.f0.f1 ∧ x.f0.f1 ≤ 64) ∧ (0 ≤ x.f1 ∧ x.f1 < 12) ∧ (1 ≤ x.f2.f0 ∧ x.f2.f0 ≤ 1000000 ∧ 1 ≤ x.f2.f1 ∧ x.f2.f1 ≤ 64) ∧ (x.f3 = false → (1 ≤ x.f4.f0 ∧ x.f4.f0 ≤ 4) ∧ (0 ≤ x.f4.f2 ∧ x.f4.f2 ≤ 8191) ∧ (1 ≤ x.f4.f3 ∧ x.f4.f3 ≤ 8192)) := by
  unfold chk30 chkE at h
  split at h
  · cases h
  rename_i h1
  split at h
  · cases h
  rename_i h2
  refine ⟨val_facts fun e => h1 (.inl e), by omega, val_facts fun e => h1 (.inr (.inl e)), fun h3 => ?_⟩
  rw [h3, if_neg (by decide)] at h
  unfold chkP at h
  split at h
  · cases h
  rename_i h4
  split at h
  · cases h
  split at h
  · cases h
  rename_i h5
  omega
theorem con_small {x : S30} (hc : chk30 x = 0) : 6 ≤ (conS x).length ∧ (conS x).length < 64 := by
  obtain ⟨⟨a1, a2, a3, a4⟩, ⟨b1, b2⟩, ⟨c1, c2, c3, c4⟩, ht⟩ := chk_facts hc
  have e0 := enc_short x.f0.f0 2 (zz_le _ _ (by omega) (by simp; omega))
  have e1 := enc_short x.f0.f1 1 (zz_le _ _ (by omega) (by simp; omega))
  have e2 := enc_short x.f1 0 (zz_le _ _ (by omega) (by simp; omega))
  have e3 := enc_short x.f2.f0 2 (zz_le _ _ (by omega) (by simp; omega))
  have e4 := enc_short x.f2.f1 1 (zz_le _ _ (by omega) (by simp; omega))
  have l0 := (encs_len (headN x.f0.f0 x.f0.f1 x.f1 x.f2.f0 x.f2.f1 x.f3)).1
  rw [show (headN x.f0.f0 x.f0.f1 x.f1 x.f2.f0 x.f2.f1 x.f3).length = 6 from rfl] at l0
  unfold conS putB
  rw [List.length_append]
  refine ⟨by omega, ?_⟩
  cases h3 : x.f3
  · obtain ⟨⟨d1, d2⟩, ⟨d3, d4⟩, d5, d6⟩ := ht h3
    have g0 := enc_short x.f4.f0 0 (zz_le _ _ (by omega) (by simp; omega))
    have g2 := enc_short x.f4.f2 1 (zz_le _ _ (by omega) (by simp; omega))
    have g3 := enc_short x.f4.f3 2 (zz_le _ _ (by omega) (by simp; omega))
    have g1 := (enc_len x.f4.f1).2
    have g4 := (enc_len x.f4.f4).2
    have g5 := (enc_len x.f4.f5).2
    have g6 := (enc_len x.f4.f6).2
    have z := enc_short 0 0 (by decide)
    simp only [headN, tailN, encs, List.length_append, List.length_nil, Bool.false_eq_true, if_false]
    omega
  · have z := enc_short 1 0 (by decide)
    simp only [headN, tailN, encs, List.length_append, List.length_nil, if_true]
    omega
/-- What opening says of a head of one byte. -/
theorem open_gen (n : Nat) (hn : n < 64) (f c q : List Int) (hf : f.length = 4) (hc : c.length = n) :
    openP (2 * (n : Int) :: (f ++ (c ++ q))) = if crcE (crcE 0 [2 * (n : Int)]) c = val4 (f ++ (c ++ q)) then (c, 1 + 4 + (n : Int), 0) else ([], 0, 14) := by
  have hd : dec (2 * (n : Int) :: (f ++ (c ++ q))) = ((n : Int), 1, 0) := by
    have := dec_enc (n : Int) (by unfold okZ; omega) (f ++ (c ++ q))
    rw [enc_one n hn] at this
    exact this
  unfold openP
  rw [hd]
  dsimp only
  have e : ((2 * (n : Int) :: (f ++ (c ++ q))).take (1 + 4 + n)).drop (1 + 4) = c := by
    rw [show 1 + 4 + n = (4 + n) + 1 by omega, List.take_succ_cons, show 1 + 4 = 4 + 1 from rfl, List.drop_succ_cons, ← List.append_assoc, List.take_append_of_le_length (by rw [List.length_append]; omega), List.take_of_length_le (by rw [List.length_append]; omega)]
    exact List.drop_left' hf
  rw [if_pos rfl, if_neg (by omega), if_neg (by omega), if_neg (by simp only [List.length_cons, List.length_append]; omega), Int.toNat_natCast, show (1 : Int).toNat = 1 from rfl, e]
  rfl
theorem w32 (n : Int) (a : 0 ≤ n) (b : n < 2 ^ 32) : IntKind.u32.wrap n = n := by rw [IntKind.wrap_u32]; omega
theorem xor_nat (a b : Nat) (ha : a < 2 ^ 32) (hb : b < 2 ^ 32) : Go.bits .xor .u32 (a : Int) (b : Int) = ((a ^^^ b : Nat) : Int) := by
  have ha' : a % 2 ^ IntKind.u32.bits = a := Nat.mod_eq_of_lt ha
  have hb' : b % 2 ^ IntKind.u32.bits = b := Nat.mod_eq_of_lt hb
  simp only [Go.bits, BitVec.ofInt_natCast, BitVec.toNat_xor, BitVec.toNat_ofNat, ha', hb']
  exact w32 _ (Int.natCast_nonneg _) (by exact_mod_cast Nat.xor_lt_two_pow ha hb)
theorem nx_r {a b c : Nat} (h : a ^^^ c = b ^^^ c) : a = b := by
  have := congrArg (· ^^^ c) h
  simpa [Nat.xor_assoc, Nat.xor_self] using this
theorem nx_l {a b c : Nat} (h : c ^^^ a = c ^^^ b) : a = b := by
  rw [Nat.xor_comm c a, Nat.xor_comm c b] at h
  exact nx_r h
theorem and_nat (a b : Nat) (ha : a < 2 ^ 32) (hb : b < 2 ^ 32) : Go.bits .and .u32 (a : Int) (b : Int) = ((a &&& b : Nat) : Int) := (bits_nat .u32 32 (by decide) w32 a b ha hb).1
def u32 (x : Int) : Prop := 0 ≤ x ∧ x < 4294967296
theorem xor_u32 (x y : Int) : u32 (Go.bits .xor .u32 x y) := by
  unfold u32 Go.bits
  rw [IntKind.wrap_u32]
  omega
theorem xor_inj {x y z : Int} (hx : u32 x) (hy : u32 y) (hz : u32 z) (h : Go.bits .xor .u32 x z = Go.bits .xor .u32 y z) : x = y := by
  obtain ⟨a, rfl⟩ := Int.eq_ofNat_of_zero_le hx.1
  obtain ⟨b, rfl⟩ := Int.eq_ofNat_of_zero_le hy.1
  obtain ⟨c, rfl⟩ := Int.eq_ofNat_of_zero_le hz.1
  unfold u32 at *
  rw [xor_nat a c (by omega) (by omega), xor_nat b c (by omega) (by omega)] at h
  have h' : a ^^^ c = b ^^^ c := by exact_mod_cast h
  have := nx_r h'
  rw [this]
theorem xor_inj' {x y z : Int} (hx : u32 x) (hy : u32 y) (hz : u32 z) (h : Go.bits .xor .u32 z x = Go.bits .xor .u32 z y) : x = y := by
  obtain ⟨a, rfl⟩ := Int.eq_ofNat_of_zero_le hx.1
  obtain ⟨b, rfl⟩ := Int.eq_ofNat_of_zero_le hy.1
  obtain ⟨c, rfl⟩ := Int.eq_ofNat_of_zero_le hz.1
  unfold u32 at *
  rw [xor_nat c a (by omega) (by omega), xor_nat c b (by omega) (by omega)] at h
  have h' : c ^^^ a = c ^^^ b := by exact_mod_cast h
  have := nx_l h'
  rw [this]
theorem st1_nat (a : Nat) (ha : a < 2 ^ 32) : st1 (a : Int) = ((if a % 2 = 1 then a / 2 ^^^ 2197175160 else a / 2 : Nat) : Int) := by
  have e : Go.bits .and .u32 (a : Int) 1 = ((a % 2 : Nat) : Int) := by
    have := and_nat a 1 ha (by decide)
    rw [Nat.and_one_is_mod] at this
    exact this
  unfold st1
  rw [e]
  have e2 : (a : Int) / 2 = ((a / 2 : Nat) : Int) := by omega
  by_cases h : a % 2 = 1
  · rw [if_pos (by omega), if_pos h, e2]
    exact xor_nat (a / 2) 2197175160 (by omega) (by decide)
  · rw [if_neg (by omega), if_neg h, e2]
theorem st1_u32 {x : Int} (hx : u32 x) : u32 (st1 x) := by
  unfold st1
  split
  · exact xor_u32 _ _
  · unfold u32 at *; omega
theorem top_xor (a : Nat) (ha : a < 2 ^ 31) : 2 ^ 31 ≤ a ^^^ 2197175160 := by
  have h : (a ^^^ 2197175160).testBit 31 = true := by
    rw [Nat.testBit_xor, Nat.testBit_lt_two_pow ha]
    decide
  exact Nat.ge_two_pow_of_testBit h
theorem st1_inj {x y : Int} (hx : u32 x) (hy : u32 y) (h : st1 x = st1 y) : x = y := by
  obtain ⟨a, rfl⟩ := Int.eq_ofNat_of_zero_le hx.1
  obtain ⟨b, rfl⟩ := Int.eq_ofNat_of_zero_le hy.1
  unfold u32 at *
  rw [st1_nat a (by omega), st1_nat b (by omega)] at h
  have h' : (if a % 2 = 1 then a / 2 ^^^ 2197175160 else a / 2) = (if b % 2 = 1 then b / 2 ^^^ 2197175160 else b / 2) := by exact_mod_cast h
  by_cases h1 : a % 2 = 1 <;> by_cases h2 : b % 2 = 1
  · rw [if_pos h1, if_pos h2] at h'
    have := nx_r h'
    omega
  · rw [if_pos h1, if_neg h2] at h'
    have := top_xor (a / 2) (by omega)
    omega
  · rw [if_neg h1, if_pos h2] at h'
    have := top_xor (b / 2) (by omega)
    omega
  · rw [if_neg h1, if_neg h2] at h'
    omega
theorem stN_u32 : ∀ (n : Nat) {x : Int}, u32 x → u32 (stN n x)
  | 0, _, h => h
  | n + 1, _, h => stN_u32 n (st1_u32 h)
theorem stN_inj : ∀ (n : Nat) {x y : Int}, u32 x → u32 y → stN n x = stN n y → x = y
  | 0, _, _, _, _, h => h
  | n + 1, _, _, hx, hy, h => st1_inj hx hy (stN_inj n (st1_u32 hx) (st1_u32 hy) h)
theorem mod_u32 (c : Int) : u32 (c % 4294967296) := by unfold u32; omega
theorem crcL_inj : ∀ (b : List Int) {r s : Int}, u32 r → u32 s → crcL r b = crcL s b → r = s
  | [], _, _, _, _, h => h
  | c :: t, _, _, hr, hs, h => xor_inj hr hs (mod_u32 c) (stN_inj 8 (xor_u32 _ _) (xor_u32 _ _) (crcL_inj t (stN_u32 8 (xor_u32 _ _)) (stN_u32 8 (xor_u32 _ _)) h))
theorem crcL_u32 : ∀ (b : List Int) {r : Int}, u32 r → u32 (crcL r b)
  | [], _, h => h
  | c :: t, _, h => crcL_u32 t (stN_u32 8 (xor_u32 _ _))
/-- One byte changed: another sum. -/
theorem crcL_set : ∀ (b : List Int) {r : Int} (i : Nat) (v : Int), u32 r → (hi : i < b.length) → (0 ≤ b[i] ∧ b[i] ≤ 255) → (0 ≤ v ∧ v ≤ 255) → crcL r (b.set i v) = crcL r b → v = b[i]
  | [], _, i, v, hr, hi, _, _, _ => by simp at hi
  | c :: t, r, 0, v, hr, hi, hc, hv, h => by
    have h1 : crcL (stN 8 (Go.bits .xor .u32 r (v % 4294967296))) t = crcL (stN 8 (Go.bits .xor .u32 r (c % 4294967296))) t := h
    have h2 := xor_inj' (mod_u32 v) (mod_u32 c) hr (stN_inj 8 (xor_u32 _ _) (xor_u32 _ _) (crcL_inj t (stN_u32 8 (xor_u32 _ _)) (stN_u32 8 (xor_u32 _ _)) h1))
    have hc' : 0 ≤ c ∧ c ≤ 255 := hc
    show v = c
    omega
  | c :: t, r, i + 1, v, hr, hi, hc, hv, h => by
    have hi' : i < t.length := by simpa using hi
    exact crcL_set t i v (stN_u32 8 (xor_u32 _ _)) hi' hc hv h
theorem crcE_set (s : Int) (b : List Int) (i : Nat) (v : Int) (hi : i < b.length) (hb : 0 ≤ b[i] ∧ b[i] ≤ 255) (hv : 0 ≤ v ∧ v ≤ 255) (h : crcE s (b.set i v) = crcE s b) : v = b[i] := by
  unfold crcE at h
  exact crcL_set b i v (xor_u32 _ _) hi hb hv (xor_inj' (crcL_u32 _ (xor_u32 _ _)) (crcL_u32 _ (xor_u32 _ _)) ⟨by decide, by decide⟩ h)
def sumS (x : S30) : Int := crcE (crcE 0 [2 * ((conS x).length : Int)]) (conS x)
theorem frS_cons {x : S30} (hc : chk30 x = 0) : frS x = 2 * ((conS x).length : Int) :: (fourP (sumS x) ++ conS x) := by
  rw [frS_con]
  unfold frameB sumS
  rw [enc_one _ (con_small hc).2]
  rfl
theorem val4_set (s : Int) (h0 : 0 ≤ s) (h1 : s < 4294967296) (i : Nat) (hi : i < 4) (v : Int) (hv : 0 ≤ v ∧ v ≤ 255) (r : List Int) (h : val4 ((fourP s).set i v ++ r) = s) : v = (fourP s).getD i 0 := by
  match i, hi with
  | 0, _ =>
    have h' : v + 256 * (s / 256 % 256) + 65536 * (s / 65536 % 256) + 16777216 * (s / 16777216 % 256) = s := h
    show v = s % 256
    omega
  | 1, _ =>
    have h' : s % 256 + 256 * v + 65536 * (s / 65536 % 256) + 16777216 * (s / 16777216 % 256) = s := h
    show v = s / 256 % 256
    omega
  | 2, _ =>
    have h' : s % 256 + 256 * (s / 256 % 256) + 65536 * v + 16777216 * (s / 16777216 % 256) = s := h
    show v = s / 65536 % 256
    omega
  | 3, _ =>
    have h' : s % 256 + 256 * (s / 256 % 256) + 65536 * (s / 65536 % 256) + 16777216 * v = s := h
    show v = s / 16777216 % 256
    omega
theorem sumS_range (x : S30) : 0 ≤ sumS x ∧ sumS x < 4294967296 := crcE_range _ _
theorem getD_apr (a b : List Int) (i : Nat) (h : a.length ≤ i) : (a ++ b).getD i 0 = b.getD (i - a.length) 0 := by simp [List.getD, List.getElem?_append_right h]
theorem stop_tail {x : S30} (hz : zS30 x) (hc : chk30 x = 0) (q : List Int) (o : Nat) (ho : o + 1 < (frS x).length) (v : Int) (hv : 0 ≤ v ∧ v ≤ 255) (hne : v ≠ (frS x).getD (o + 1) 0) : (openP ((frS x).set (o + 1) v ++ q)).2.2 ≠ 0 := by
  have hs := sumS_range x
  have hn := (con_small hc).2
  rw [frS_cons hc] at ho hne ⊢
  rw [List.set_cons_succ]
  rw [List.getD_cons_succ] at hne
  have h4 : (fourP (sumS x)).length = 4 := rfl
  simp only [List.length_cons, List.length_append, h4] at ho
  rcases Nat.lt_or_ge o 4 with h | h
  · rw [List.set_append_left _ _ (by omega), List.cons_append, List.append_assoc, open_gen _ hn _ _ q (by rw [List.length_set]; rfl) rfl, if_neg]
    · decide
    · intro he
      have := val4_set (sumS x) hs.1 hs.2 o h v hv (conS x ++ q) he.symm
      rw [getD_app _ _ _ (by omega)] at hne
      exact hne this
  · rw [List.set_append_right _ _ (by omega), List.cons_append, List.append_assoc, h4, open_gen _ hn _ _ q rfl (by rw [List.length_set]), if_neg]
    · decide
    · intro he
      rw [val4_four _ hs.1 hs.2] at he
      have hi : o - 4 < (conS x).length := by omega
      have hok : 0 ≤ (conS x)[o - 4] ∧ (conS x)[o - 4] ≤ 255 := putB_ok x.f3 (zS_okE hz) _ (List.getElem_mem hi)
      have := crcE_set _ (conS x) (o - 4) v hi hok hv he
      rw [getD_apr _ _ _ (by omega), h4, List.getD_eq_getElem?_getD, List.getElem?_eq_getElem hi] at hne
      exact hne this
theorem nb_last : ∀ b : List Int, nb b ≠ 0 → b.getD (nb b - 1) 0 < 128
  | [], h => absurd rfl h
  | x :: xs, h => by
    unfold nb at h ⊢
    by_cases h1 : x < 128
    · rw [if_pos h1]; exact h1
    · rw [if_neg h1] at h ⊢
      by_cases h2 : nb xs = 0
      · rw [if_pos h2] at h; exact absurd rfl h
      · rw [if_neg h2]
        have := nb_last xs h2
        obtain ⟨m, hm⟩ : ∃ m, nb xs = m + 1 := ⟨nb xs - 1, by omega⟩
        rw [hm] at this ⊢
        exact this
theorem uv_top (b : List Int) (k : Nat) (hk : k < b.length) (h0 : b.getD k 0 ≠ 0) (hb : 0 ≤ b.getD k 0) (h1 : b.getD k 0 < 128) : ((128 ^ k : Nat) : Int) ≤ uv (b.take (k + 1)) := by
  have h := uv_bound (b.take k)
  rw [getD_at hk] at h0 hb h1
  rw [take_snoc b k hk, uv_snoc, List.length_take, Nat.min_eq_left (by omega)]
  have e : b[k] % 128 = b[k] := by omega
  rw [e]
  have : ((128 ^ k : Nat) : Int) ≤ b[k] * ((128 ^ k : Nat) : Int) := by
    have hp : (0 : Int) ≤ ((128 ^ k : Nat) : Int) := Int.natCast_nonneg _
    calc ((128 ^ k : Nat) : Int) = 1 * ((128 ^ k : Nat) : Int) := by rw [Int.one_mul]
      _ ≤ b[k] * ((128 ^ k : Nat) : Int) := Int.mul_le_mul_of_nonneg_right (by omega) hp
  push_cast at this ⊢
  omega
/-- Bytes behind an edit: an error. -/
theorem take_more {a0 a1 a2 a3 a4 a6 a7 a8 a9 a10 a11 a12 : Int} (a5 : Bool) (h : okE a0 a1 a2 a3 a4 a6 a7 a8 a9 a10 a11 a12) (more : List Int) (hm : more ≠ []) :
    takeP (putB a0 a1 a2 a3 a4 a5 a6 a7 a8 a9 a10 a11 a12 ++ more) = errE 2 := by
  have hml : ¬ more.length = 0 := fun e => hm (List.length_eq_zero_iff.1 e)
  have e1 := dks_encs (headN a0 a1 a2 a3 a4 a5) (encs (tailN a5 a6 a7 a8 a9 a10 a11 a12) ++ more) (head_ok a5 h)
  have e2 := dks_encs (tailN a5 a6 a7 a8 a9 a10 a11 a12) more (tail_ok a5 h)
  rw [show (headN a0 a1 a2 a3 a4 a5).length = 6 from rfl, ← List.append_assoc] at e1
  unfold takeP putB
  cases a5
  · rw [show (tailN false a6 a7 a8 a9 a10 a11 a12).length = 7 from rfl] at e2
    simp only [e1, e2]
    simp only [headN, tailN, Bool.false_eq_true, if_false, if_true]
    simp only [List.getD_cons_zero, List.getD_cons_succ, Int.reduceEq, if_false, if_true, endP, hml]
  · rw [e1]
    simp only [headN, tailN, encs, List.nil_append, if_true, List.getD_cons_zero, List.getD_cons_succ, endP, hml, if_false]
theorem vs_up : ∀ j u, u < 128 ^ (j + 1) → vs (j + 1) u = vs j u
  | 0, u, h => by
    have : u < 128 := by simpa using h
    simp [vs, this]
  | j + 1, u, h => by
    have h1 : u / 128 < 128 ^ (j + 1) := by rw [Nat.pow_succ] at h; omega
    show (if u < 128 then [(u : Int)] else ((u % 128 + 128 : Nat) : Int) :: vs (j + 1) (u / 128)) = if u < 128 then [(u : Int)] else ((u % 128 + 128 : Nat) : Int) :: vs j (u / 128)
    rw [vs_up j (u / 128) h1]
/-- The bytes of a number behind its first are those of a number, or none. -/
theorem enc_tail (n : Int) (hn : okZ n) : (∃ v, enc n = [v]) ∨ ∃ v m, enc n = v :: enc m ∧ okZ m := by
  have hz := zz_lt n hn
  unfold enc
  by_cases h : zz n < 128
  · exact .inl ⟨(zz n : Int), by rw [vs, if_pos h]⟩
  · have hq : zz n / 128 < 128 ^ 9 := by have : (128 : Nat) ^ 9 = 9223372036854775808 := by decide
                                         omega
    refine .inr ⟨((zz n % 128 + 128 : Nat) : Int), uz ((zz n / 128 : Nat) : Int), ?_, ?_⟩
    · have := zz_uz ((zz n / 128 : Nat) : Int) (by omega)
      have e : zz (uz ((zz n / 128 : Nat) : Int)) = zz n / 128 := by exact_mod_cast this
      rw [vs, if_neg h, e, vs_up 8 _ hq]
    · unfold okZ uz
      split <;> omega
theorem dks_six (b : List Int) (x0 x1 x2 x3 x4 x5 : Int) (rest : List Int) (h : dks 6 b = ([x0, x1, x2, x3, x4, x5], rest, 0)) (h5 : x5 ≠ 0 ∧ (x5 = 1 → rest ≠ [])) : takeP b = errE 2 := by
  unfold takeP
  rw [h]
  simp only [List.getD_cons_zero, List.getD_cons_succ, if_true]
  by_cases h1 : x5 = 1
  · have hml : ¬ rest.length = 0 := fun e => h5.2 h1 (List.length_eq_zero_iff.1 e)
    rw [if_pos h1]
    unfold endP
    rw [if_neg hml]
  · rw [if_neg h1, if_neg h5.1]
/-- An edit's content without its first byte and with more behind: an error. -/
theorem take_shift {a0 a1 a2 a3 a4 a6 a7 a8 a9 a10 a11 a12 : Int} (a5 : Bool) (h : okE a0 a1 a2 a3 a4 a6 a7 a8 a9 a10 a11 a12) (hk : a5 = false → 1 ≤ a6) (g : Int) (hg : 2 ≤ g ∧ okZ g) (more : List Int) :
    takeP ((putB a0 a1 a2 a3 a4 a5 a6 a7 a8 a9 a10 a11 a12).drop 1 ++ (enc g ++ more)) = errE 2 := by
  obtain ⟨h0, h1, h2, h3, h4, h6, h7, h8, h9, h10, h11, h12⟩ := h
  have hge := enc_len g
  rcases enc_tail a0 h0 with ⟨v, hv⟩ | ⟨v, m, hv, hm⟩
  · cases a5
    · have e : (putB a0 a1 a2 a3 a4 false a6 a7 a8 a9 a10 a11 a12).drop 1 ++ (enc g ++ more) = encs [a1, a2, a3, a4, 0, a6] ++ (encs [a7, a8, a9, a10, a11, a12] ++ (enc g ++ more)) := by
        unfold putB headN tailN
        simp [encs, hv]
      have z0 : okZ 0 := by unfold okZ; omega
      have hd := dks_encs [a1, a2, a3, a4, 0, a6] (encs [a7, a8, a9, a10, a11, a12] ++ (enc g ++ more)) (by intro n hn; simp only [List.mem_cons, List.not_mem_nil, or_false] at hn; rcases hn with rfl | rfl | rfl | rfl | rfl | rfl <;> assumption)
      have := hk rfl
      rw [e]
      refine dks_six _ _ _ _ _ _ _ _ hd ⟨by omega, fun _ hq => ?_⟩
      have := congrArg List.length hq
      simp only [List.length_append, List.length_nil] at this
      omega
    · have e : (putB a0 a1 a2 a3 a4 true a6 a7 a8 a9 a10 a11 a12).drop 1 ++ (enc g ++ more) = encs [a1, a2, a3, a4, 1, g] ++ more := by
        unfold putB headN tailN
        simp [encs, hv]
      have z1 : okZ 1 := by unfold okZ; omega
      have hgz := hg.2
      have hd := dks_encs [a1, a2, a3, a4, 1, g] more (by intro n hn; simp only [List.mem_cons, List.not_mem_nil, or_false] at hn; rcases hn with rfl | rfl | rfl | rfl | rfl | rfl <;> assumption)
      rw [e]
      exact dks_six _ _ _ _ _ _ _ _ hd ⟨by omega, fun hq => by omega⟩
  · have e : (putB a0 a1 a2 a3 a4 a5 a6 a7 a8 a9 a10 a11 a12).drop 1 = putB m a1 a2 a3 a4 a5 a6 a7 a8 a9 a10 a11 a12 := by
      unfold putB headN
      simp [encs, hv]
    rw [e]
    refine take_more a5 ⟨hm, h1, h2, h3, h4, h6, h7, h8, h9, h10, h11, h12⟩ _ fun hq => ?_
    have := congrArg List.length hq
    simp only [List.length_append, List.length_nil] at this
    omega
def errOf (t : E14) : Int := t.2.2.2.2.2.2.2.2.2.2.2.2.2
theorem open_or (b : List Int) : (openP b).2.2 ≠ 0 ∨ ((dec b).2.2 = 0 ∧ 0 ≤ (dec b).1 ∧ (dec b).1 ≤ 65536 ∧ (dec b).2.1 + 4 + (dec b).1 ≤ (b.length : Int) ∧ (openP b).1 = (b.take ((dec b).2.1.toNat + 4 + (dec b).1.toNat)).drop ((dec b).2.1.toNat + 4)) := by
  unfold openP
  by_cases h1 : (dec b).2.2 = 0
  · rw [if_pos h1]
    by_cases h2 : (dec b).1 < 0
    · rw [if_pos h2]; exact .inl (by decide)
    rw [if_neg h2]
    by_cases h3 : 65536 < (dec b).1
    · rw [if_pos h3]; exact .inl (by decide)
    rw [if_neg h3]
    by_cases h4 : (b.length : Int) < (dec b).2.1 + 4 + (dec b).1
    · rw [if_pos h4]; exact .inl (by decide)
    rw [if_neg h4]
    split
    · exact .inr ⟨h1, by omega, by omega, by omega, rfl⟩
    · exact .inl (by decide)
  · rw [if_neg h1]; exact .inl h1
theorem dec_ok (b : List Int) (h : (dec b).2.2 = 0) : nb b ≠ 0 ∧ (1 < nb b → b.getD (nb b - 1) 0 ≠ 0) ∧ dec b = (uz (uv (b.take (nb b))), (nb b : Int), 0) := by
  unfold dec at h ⊢
  by_cases h1 : nb b = 0
  · rw [if_pos h1] at h; cases h
  rw [if_neg h1] at h ⊢
  split at h
  · cases h
  rename_i h2
  rw [if_neg h2]
  split at h
  · cases h
  rename_i h3
  rw [if_neg h3]
  exact ⟨h1, fun h4 h5 => h3 ⟨h4, h5⟩, rfl⟩
theorem stop_head {x : S30} (hz : zS30 x) (hc : chk30 x = 0) (q : List Int) (hq : q = [] ∨ ∃ y rest, chk30 y = 0 ∧ q = frS y ++ rest) (hql : q.length ≤ 7000) (hqb : okB q) (v : Int) (hv : 0 ≤ v ∧ v ≤ 255) (hne : v ≠ 2 * ((conS x).length : Int)) :
    (openP (v :: (fourP (sumS x) ++ (conS x ++ q)))).2.2 ≠ 0 ∨ errOf (takeP (openP (v :: (fourP (sumS x) ++ (conS x ++ q)))).1) ≠ 0 := by
  have hn := con_small hc
  have hlen : (v :: (fourP (sumS x) ++ (conS x ++ q))).length = 5 + (conS x).length + q.length := by
    simp only [List.length_cons, List.length_append, show (fourP (sumS x)).length = 4 from rfl]; omega
  have hok : okB (v :: (fourP (sumS x) ++ (conS x ++ q))) := by
    intro u hu
    rw [List.mem_cons, List.mem_append, List.mem_append] at hu
    rcases hu with rfl | hu | hu | hu
    · exact hv
    · exact fourP_ok _ u hu
    · exact putB_ok x.f3 (zS_okE hz) u hu
    · exact hqb u hu
  rcases open_or (v :: (fourP (sumS x) ++ (conS x ++ q))) with h | ⟨h1, h2, h3, h4, h5⟩
  · exact .inl h
  obtain ⟨k1, k2, k3⟩ := dec_ok _ h1
  rw [k3] at h2 h3 h4 h5
  dsimp only at h2 h3 h4 h5
  rw [hlen] at h4
  refine .inr ?_
  rw [h5]
  clear h5 h1 k3
  by_cases hv1 : v < 128
  · have hnb : nb (v :: (fourP (sumS x) ++ (conS x ++ q))) = 1 := by unfold nb; rw [if_pos hv1]
    have huv : uv ((v :: (fourP (sumS x) ++ (conS x ++ q))).take 1) = v := by
      show v % 128 + 128 * 0 = v
      omega
    rw [hnb, huv] at h2 h3 h4 ⊢
    obtain ⟨N, hN⟩ : ∃ N : Nat, uz v = (N : Int) := ⟨(uz v).toNat, by omega⟩
    have hvN : v = 2 * (N : Int) := by unfold uz at hN; split at hN <;> omega
    rw [hN] at h4 ⊢
    simp only [Int.toNat_natCast]
    have e : ((v :: (fourP (sumS x) ++ (conS x ++ q))).take (1 + 4 + N)).drop (1 + 4) = (conS x ++ q).take N := by
      rw [List.drop_take, show 1 + 4 + N - (1 + 4) = N by omega]
      rfl
    rw [e]
    rcases Nat.lt_or_ge N (conS x).length with h | h
    · rw [List.take_append_of_le_length (by omega)]
      have := take_cut x.f3 (zS_okE hz) N h
      have e2 : takeP ((conS x).take N) = errE 13 := this
      rw [e2]
      decide
    · have hlt : (conS x).length < N := by omega
      rw [List.take_append, List.take_of_length_le (by omega)]
      have hm : q.take (N - (conS x).length) ≠ [] := by
        intro h0
        have := congrArg List.length h0
        rw [List.length_take, List.length_nil] at this
        omega
      have e2 : takeP (conS x ++ q.take (N - (conS x).length)) = errE 2 := take_more x.f3 (zS_okE hz) _ hm
      rw [e2]
      decide
  · obtain ⟨r, hr⟩ : ∃ r, fourP (sumS x) ++ (conS x ++ q) = r := ⟨_, rfl⟩
    have hnb : nb (v :: (fourP (sumS x) ++ (conS x ++ q))) = nb (fourP (sumS x) ++ (conS x ++ q)) + 1 ∧ nb (fourP (sumS x) ++ (conS x ++ q)) ≠ 0 := by
      rw [hr] at k1 ⊢
      have e : nb (v :: r) = if v < 128 then 1 else if nb r = 0 then 0 else nb r + 1 := rfl
      rw [e, if_neg hv1] at k1 ⊢
      by_cases h0 : nb r = 0
      · rw [if_pos h0] at k1; exact absurd rfl k1
      · rw [if_neg h0]; exact ⟨rfl, h0⟩
    obtain ⟨n1, n2⟩ := hnb
    rw [n1] at h2 h3 h4 k2 ⊢
    by_cases hk : nb (fourP (sumS x) ++ (conS x ++ q)) = 1
    · have hf : sumS x % 256 < 128 := by
        have h' : nb (sumS x % 256 :: (sumS x / 256 % 256 :: sumS x / 65536 % 256 :: sumS x / 16777216 % 256 :: (conS x ++ q))) = 1 := hk
        rw [nb] at h'
        split at h'
        · assumption
        · split at h'
          · cases h'
          · omega
      have hf0 : sumS x % 256 ≠ 0 := by
        have := k2 (by omega)
        rw [hk] at this
        exact this
      rw [hk] at h2 h3 h4 ⊢
      have huv : uv ((v :: (fourP (sumS x) ++ (conS x ++ q))).take (1 + 1)) = v % 128 + 128 * (sumS x % 256 % 128 + 128 * 0) := rfl
      rw [huv] at h2 h3 h4 ⊢
      obtain ⟨N, hN⟩ : ∃ N : Nat, uz (v % 128 + 128 * (sumS x % 256 % 128 + 128 * 0)) = (N : Int) := ⟨(uz (v % 128 + 128 * (sumS x % 256 % 128 + 128 * 0))).toNat, by omega⟩
      have hN64 : 64 ≤ N := by unfold uz at hN; split at hN <;> omega
      rw [hN] at h4 ⊢
      simp only [Int.toNat_natCast]
      have e : ((v :: (fourP (sumS x) ++ (conS x ++ q))).take (1 + 1 + 4 + N)).drop (1 + 1 + 4) = (conS x).drop 1 ++ q.take (N - ((conS x).length - 1)) := by
        rw [List.drop_take, show 1 + 1 + 4 + N - (1 + 1 + 4) = N by omega]
        have e1 : (v :: (fourP (sumS x) ++ (conS x ++ q))).drop (1 + 1 + 4) = (conS x).drop 1 ++ q := by
          show (conS x ++ q).drop 1 = _
          rw [List.drop_append_of_le_length (by omega)]
        rw [e1, List.take_append, List.take_of_length_le (by rw [List.length_drop]; omega), List.length_drop]
      rw [e]
      rcases hq with rfl | ⟨y, rest, hy, rfl⟩
      · rw [List.length_nil] at h4; omega
      · have hg := con_small hy
        obtain ⟨j, hj⟩ : ∃ j, N - ((conS x).length - 1) = j + 1 := ⟨N - ((conS x).length - 1) - 1, by omega⟩
        have e3 : (frS y ++ rest).take (j + 1) = enc ((conS y).length : Int) ++ ((fourP (sumS y) ++ conS y) ++ rest).take j := by
          rw [enc_one _ hg.2, frS_cons hy]
          rfl
        rw [hj, e3]
        have e2 := take_shift x.f3 (zS_okE hz) (fun h => ((chk_facts hc).2.2.2 h).1.1) ((conS y).length : Int) ⟨by omega, by unfold okZ; omega⟩ (((fourP (sumS y) ++ conS y) ++ rest).take j)
        have e4 : takeP ((conS x).drop 1 ++ (enc ((conS y).length : Int) ++ ((fourP (sumS y) ++ conS y) ++ rest).take j)) = errE 2 := e2
        rw [e4]
        decide
    · exfalso
      obtain ⟨K, hK⟩ : ∃ K, nb (fourP (sumS x) ++ (conS x ++ q)) = K + 2 := ⟨nb (fourP (sumS x) ++ (conS x ++ q)) - 2, by omega⟩
      rw [hK] at h2 h3 h4 k2 n1
      have hle := nb_le (v :: (fourP (sumS x) ++ (conS x ++ q)))
      have hla := nb_last _ (by rw [n1]; omega : nb (v :: (fourP (sumS x) ++ (conS x ++ q))) ≠ 0)
      rw [n1] at hle hla
      have hne0 := k2 (by omega)
      simp only [Nat.add_sub_cancel] at hla hne0
      have hlt : K + 2 < (v :: (fourP (sumS x) ++ (conS x ++ q))).length := by omega
      have hnn : 0 ≤ (v :: (fourP (sumS x) ++ (conS x ++ q))).getD (K + 2) 0 := by rw [getD_at hlt]; exact (hok _ (List.getElem_mem hlt)).1
      have hu := uv_top _ (K + 2) hlt hne0 hnn hla
      have hp : 128 ^ 2 ≤ 128 ^ (K + 2) := Nat.pow_le_pow_right (by decide) (by omega)
      generalize uv ((v :: (fourP (sumS x) ++ (conS x ++ q))).take (K + 2 + 1)) = U at *
      have hU : 8192 ≤ uz U := by
        unfold uz at h2 ⊢
        have : (16384 : Int) ≤ U := by
          have h' : ((128 ^ 2 : Nat) : Int) ≤ ((128 ^ (K + 2) : Nat) : Int) := by exact_mod_cast hp
          have e : ((128 ^ 2 : Nat) : Int) = 16384 := by decide
          omega
        split at h2
        · omega
        · rw [if_neg (by assumption)]; omega
      omega
end Go.Proofs.Yteopkkoblbmggaa.P
end
section
set_option linter.unusedVariables false
set_option linter.unusedSimpArgs false
namespace Go.Proofs.Yteopkkoblbmggaa.P
open Go.RowKit Go.Proofs.Yteopkkoblbmggaa.Open Go.Proofs.YteopkkoblbmggaaW.PrintWords Go.Proofs.YteopkkoblbmggaaW.PrintLast Go.Proofs.YteopkkoblbmggaaW.PrintMore
/-- Recover over a journal with a byte changed. -/
theorem rec_spoil (d : Int) (l : List S30) (hv : rchkP d l = 0) (hz : ∀ x ∈ l, zS30 x) (hl : l.length ≤ 40) (c : Nat) (hc : c < (l.flatMap frS).length) (v : Int) (hvr : 0 ≤ v ∧ v ≤ 255) (hne : v ≠ (l.flatMap frS).getD c 0) :
    recP d ((l.flatMap frS).set c v) = (d, l.take (cutN c l l.length), (((l.take (cutN c l l.length)).flatMap frS).length : Int), 0) := by
  obtain ⟨h1, h2, h3⟩ := cutN_spec c (by omega) l l.length
  generalize cutN (c : Int) l l.length = m at *
  have hck := chkL_all (rchk_ord hv).2.2.1
  rcases Nat.lt_or_ge m l.length with hm | hm
  · have h4 := h3 (m + 1) (by omega) (by omega)
    have e : l.flatMap frS = (l.take m).flatMap frS ++ (frS l[m] ++ (l.drop (m + 1)).flatMap frS) := by
      conv => lhs; rw [← List.take_append_drop m l, List.drop_eq_getElem_cons hm]
      rw [List.flatMap_append, List.flatMap_cons]
    rw [take_succ' hm, List.flatMap_append, List.length_append] at h4
    simp only [List.flatMap_cons, List.flatMap_nil, List.append_nil] at h4
    have hzm := hz _ (List.getElem_mem hm)
    have hcm := hck _ (List.getElem_mem hm)
    have hQ := flat_len (l.drop (m + 1))
    rw [List.length_drop] at hQ
    have hQb : okB ((l.drop (m + 1)).flatMap frS) := flat_ok fun x hx => hz x (List.mem_of_mem_drop hx)
    have hQc : (l.drop (m + 1)).flatMap frS = [] ∨ ∃ y rest, chk30 y = 0 ∧ (l.drop (m + 1)).flatMap frS = frS y ++ rest := by
      rcases Nat.lt_or_ge (m + 1) l.length with h | h
      · exact .inr ⟨l[m + 1], (l.drop (m + 1 + 1)).flatMap frS, hck _ (List.getElem_mem h), by rw [List.drop_eq_getElem_cons h, List.flatMap_cons]⟩
      · exact .inl (by rw [List.drop_of_length_le h]; rfl)
    obtain ⟨o, ho⟩ : ∃ o, c = ((l.take m).flatMap frS).length + o := ⟨c - ((l.take m).flatMap frS).length, by omega⟩
    have hol : o < (frS l[m]).length := by omega
    rw [e] at hne ⊢
    rw [ho, getD_apr _ _ _ (by omega), Nat.add_sub_cancel_left, getD_app _ _ _ hol] at hne
    rw [ho, List.set_append_right _ _ (by omega), Nat.add_sub_cancel_left, List.set_append_left _ _ hol]
    rw [rec_prefix d l hv hz m h1 _, rcv_stop _ _ _ _ _ (by
      rw [List.drop_left' rfl]
      cases o with
      | zero =>
        rw [frS_cons hcm] at hne ⊢
        rw [List.set_cons_zero, List.cons_append, List.append_assoc]
        exact stop_head hzm hcm _ hQc (by omega) hQb v hvr hne
      | succ o => exact .inl (stop_tail hzm hcm _ o hol v hvr hne))]
  · rw [List.take_of_length_le hm] at h2
    omega
end Go.Proofs.Yteopkkoblbmggaa.P
namespace Go.Proofs.Yteopkkoblbmggaa.Pure
open Go.RowKit Go.Proofs.Yteopkkoblbmggaa.P Go.Proofs.Yteopkkoblbmggaa.Open Go.Proofs.YteopkkoblbmggaaW.PrintWords Go.Proofs.YteopkkoblbmggaaW.PrintLast Go.Proofs.YteopkkoblbmggaaW.PrintMore
theorem JournalSpoilt (a0_0 : Int) (l0_1 : List S30) (a1 : Int) (a2 : Int) (w0_0 : okI a0_0) (w0_1 : l0_1.length ≤ maxLen ∧ l0_1.length * 104 ≤ 140737488351232 ∧ ∀ y ∈ l0_1, zS30 y) (w1 : (Lit.int .u16 a1).wf = true) (w2 : 0 ≤ a2 ∧ a2 ≤ 255) : ∃ k, dancestudiolaw58_JournalSpoilt.f k a0_0 l0_1 a1 a2 = some true := by
  have hz : ∀ x ∈ l0_1, zS30 x := fun x hx => w0_1.2.2 x hx
  have hE : ∀ e ∈ l0_1, okE30 e := fun e he => zS_okE30 (hz e he)
  have ha : 0 ≤ a1 ∧ a1 ≤ 65535 := by
    have e1 : IntKind.u16.min = 0 := rfl
    have e2 : IntKind.u16.max = 65535 := rfl
    simp only [Lit.wf, e1, e2, Bool.and_eq_true, decide_eq_true_eq] at w1
    exact w1
  refine ⟨100000, ?_⟩
  unfold dancestudiolaw58_JournalSpoilt.f
  by_cases hl : (l0_1.length : Int) > 40
  · rw [if_pos hl, awake58_eq _ (by omega)]; rfl
  rw [if_neg hl, show replica_Check.f a0_0 l0_1 = some (rchkP a0_0 l0_1) by unfold replica_Check.f; rw [if_pos hE], Option.bind_some]
  by_cases hv : rchkP a0_0 l0_1 = 0
  · have hJ := flat_len l0_1
    rw [if_pos hv, write_eq _ a0_0 l0_1 hz (by omega), Option.bind_some]
    unfold writP
    rw [if_pos hv, join_flat]
    dsimp only
    rw [if_pos rfl]
    by_cases h0 : ((l0_1.flatMap frS).length : Int) = 0
    · rw [if_pos h0, if_pos (by omega), awake58_eq _ (by omega)]; rfl
    have w2' : wrap64 a1 = a1 := by unfold wrap64; omega
    rw [if_neg h0, w2', Int.tmod_eq_emod_of_nonneg ha.1]
    obtain ⟨c, hcc⟩ : ∃ c : Nat, a1 % ((l0_1.flatMap frS).length : Int) = (c : Int) := ⟨(a1 % ((l0_1.flatMap frS).length : Int)).toNat, by have := Int.emod_nonneg a1 (b := ((l0_1.flatMap frS).length : Int)) (by omega); omega⟩
    have hcl : c < (l0_1.flatMap frS).length := by have := Int.emod_lt_of_pos a1 (b := ((l0_1.flatMap frS).length : Int)) (by omega); omega
    rw [hcc, if_pos (by omega), if_pos (by omega), Option.bind_some, Int.toNat_natCast]
    generalize hvv : Go.bits .xor .u8 (rd (l0_1.flatMap frS) (c : Int)) a2 = v
    have hvr : 0 ≤ v ∧ v ≤ 255 := by
      rw [← hvv]
      unfold Go.bits
      rw [IntKind.wrap_u8]
      omega
    have hok : okB ((l0_1.flatMap frS).set c v) := fun u hu => by
      rcases List.mem_or_eq_of_mem_set hu with hu | rfl
      · exact flat_ok hz u hu
      · exact hvr
    have htk : ((l0_1.flatMap frS).set c v).take c = (l0_1.flatMap frS).take c := by rw [List.take_set_of_le (Nat.le_refl _)]
    obtain ⟨h1, h2, h3⟩ := cutN_spec c (by omega) l0_1 l0_1.length
    have hr1 := rec_cut a0_0 l0_1 hv hz c (by omega)
    obtain ⟨t, n, hrec, ht, hn⟩ : ∃ t n, recP a0_0 ((l0_1.flatMap frS).set c v) = (a0_0, t, n, 0) ∧ (t.take (cutN c l0_1 l0_1.length) = l0_1.take (cutN c l0_1 l0_1.length) ∧ cutN c l0_1 l0_1.length ≤ t.length) ∧ (((l0_1.take (cutN c l0_1 l0_1.length)).flatMap frS).length : Int) ≤ n := by
      by_cases hne : v = (l0_1.flatMap frS).getD c 0
      · have e : (l0_1.flatMap frS).set c v = l0_1.flatMap frS := by
          rw [hne, List.getD_eq_getElem?_getD, List.getElem?_eq_getElem hcl]
          exact List.set_getElem_self hcl
        rw [e]
        exact ⟨_, _, rec_all a0_0 l0_1 hv hz, ⟨rfl, h1⟩, by omega⟩
      · exact ⟨_, _, rec_spoil a0_0 l0_1 hv hz (by omega) c hcl v hvr hne, ⟨by rw [List.take_take, Nat.min_self], by rw [List.length_take]; omega⟩, Int.le_refl _⟩
    generalize cutN (c : Int) l0_1 l0_1.length = m at *
    have hml : (l0_1.take m).length = m := by rw [List.length_take]; omega
    rw [rec_eq 100000 a0_0 _ hok (by rw [List.length_set]; omega) (by rw [List.length_set]; omega), hrec, Option.bind_some, if_pos (by omega), htk, rec_eq 100000 a0_0 _ (fun v hv => flat_ok hz v (List.mem_of_mem_take hv)) (by rw [List.length_take]; omega) (by rw [List.length_take]; omega), hr1, Option.bind_some]
    dsimp only
    rw [if_pos rfl, if_pos rfl, if_pos hn, if_pos (by omega), hml, if_pos (by omega), if_pos (by omega), if_pos (by omega), Int.toNat_natCast, ht.1, edits_self 100000 _ (by omega) (by omega), Option.bind_some, if_pos rfl, if_pos (by omega), Option.bind_some, if_pos rfl, awake58_eq 100000 (by decide)]
    rfl
  · rw [if_neg hv, awake58_eq _ (by omega)]; rfl
end Go.Proofs.Yteopkkoblbmggaa.Pure
end
