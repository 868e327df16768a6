/- The plain statement of SymbolDecode: what is decoded is what the reference finds among all that have codes; no condition. -/
import Derived.Test.YtnepoolmbfhppaaP21
import Derived.Test.YtnepoolmbfhppaaP20
import Derived.Test.YtnepoolmbfhppaaLawAid
import Derived.Test.YtnepoolmbfhppaaOpen
set_option linter.unusedVariables false
set_option linter.unusedSimpArgs false
namespace Go.Proofs.Ytnepoolmbfhppaa.Pure
open Go.RowKit Go.Proofs.Ytnepoolmbfhppaa.P Go.Proofs.Ytnepoolmbfhppaa.Open Go.Proofs.YtnepoolmbfhppaaW.PrintWords Go.Proofs.YtnepoolmbfhppaaW.PrintLast Go.Proofs.YtnepoolmbfhppaaW.PrintMore
def valP (k c b l d v m : Int) : Int × Int × Int × Int × Int × Int × Int × Int := if chkP k c b l d v m = 0 then (k, c, b, l, d, v, m, 0) else (0, 0, 0, 0, 0, 0, 0, chkP k c b l d v m)
theorem val_eq (j : Nat) (k c b l d v m : Int) : ((dancestudioref23_valid.f (j + 3) k c b l d v m).bind fun t => (some (t.1, t.2.1, t.2.2.1, t.2.2.2.1, t.2.2.2.2.1, t.2.2.2.2.2.1, t.2.2.2.2.2.2.1, t.2.2.2.2.2.2.2))) = some (valP k c b l d v m) := by
  unfold dancestudioref23_valid.f valP
  rw [refCheck_eq j, Option.bind_some]
  split <;> rfl
theorem l2_no (k : Nat) (n d lv bs e z c b l z4 z5 z6 : Int) (h0 : 0 ≤ bs ∧ bs ≤ 900) (he : 0 ≤ e ∧ e ≤ 6) (h : n ≠ 3000 + bs + e) :
    dancestudioref23_Decode.l2 (k + 1) n d lv bs e z c b l z4 z5 z6 = dancestudioref23_Decode.l2 k n d lv bs (e + 1) z c b l z4 z5 z6 := by
  simp only [dancestudioref23_Decode.l2]
  rw [if_pos (by omega), wrap_in (3000 + bs) (by omega) (by omega), wrap_in (3000 + bs + e) (by omega) (by omega), if_neg h, wrap_in (e + 1) (by omega) (by omega)]
theorem l2_yes (k : Nat) (n d lv bs e z c b l z4 z5 z6 : Int) (h0 : 0 ≤ bs ∧ bs ≤ 900) (he : 0 ≤ e ∧ e ≤ 6) (hl : 0 ≤ lv ∧ lv ≤ 2) (h : n = 3000 + bs + e) :
    dancestudioref23_Decode.l2 (k + 4) n d lv bs e z c b l z4 z5 z6 = some (valP 3 c b l d (lv - 1) e) := by
  simp only [dancestudioref23_Decode.l2]
  rw [if_pos (by omega), wrap_in (3000 + bs) (by omega) (by omega), wrap_in (3000 + bs + e) (by omega) (by omega), if_pos h, wrap_in (lv - 1) (by omega) (by omega)]
  exact val_eq _ _ _ _ _ _ _ _
theorem l2_all (k : Nat) (n d lv bs z c b l z4 z5 z6 : Int) (h0 : 0 ≤ bs ∧ bs ≤ 900) (hl : 0 ≤ lv ∧ lv ≤ 2) : ∀ r : Nat, r ≤ 7 →
    dancestudioref23_Decode.l2 (k + 5 + r) n d lv bs (7 - r) z c b l z4 z5 z6 = if 3007 + bs - r ≤ n ∧ n ≤ 3006 + bs then some (valP 3 c b l d (lv - 1) (n - 3000 - bs)) else dancestudioref23_Decode.l1 (k + 4) n d (lv + 1) z c b l z4 z5 z6 := by
  intro r
  induction r with
  | zero =>
    intro _
    rw [if_neg (by omega)]
    simp only [dancestudioref23_Decode.l2]
    rw [if_neg (by omega), wrap_in (lv + 1) (by omega) (by omega)]
  | succ r ih =>
    intro hr
    by_cases h : n = 3000 + bs + (7 - ((r + 1 : Nat) : Int))
    · rw [if_pos (by omega), show k + 5 + (r + 1) = (k + 2 + r) + 4 by omega, l2_yes _ _ _ _ _ _ _ _ _ _ _ _ _ h0 (by omega) hl h]
      congr 2; omega
    · rw [show k + 5 + (r + 1) = (k + 5 + r) + 1 by omega, l2_no _ _ _ _ _ _ _ _ _ _ _ _ _ h0 (by omega) h, show (7 - ((r + 1 : Nat) : Int)) + 1 = 7 - (r : Int) by omega, ih (by omega)]
      by_cases h2 : 3007 + bs - r ≤ n ∧ n ≤ 3006 + bs
      · rw [if_pos h2, if_pos (by omega)]
      · rw [if_neg h2, if_neg (by omega)]
theorem l1_one (k : Nat) (n d lv z c b l z4 z5 : Int) (hd : 0 ≤ d ∧ d ≤ 8) (hl : 0 ≤ lv ∧ lv ≤ 2) :
    dancestudioref23_Decode.l1 (k + 13) n d lv z c b l z4 z5 0 = if n = 1000 + (100 * d + 30 * lv) then some (valP 1 c b l d (lv - 1) 0) else if 3000 + (100 * d + 30 * lv) ≤ n ∧ n ≤ 3006 + (100 * d + 30 * lv) then some (valP 3 c b l d (lv - 1) (n - 3000 - (100 * d + 30 * lv))) else dancestudioref23_Decode.l1 (k + 4) n d (lv + 1) z c b l z4 z5 0 := by
  rw [dancestudioref23_Decode.l1]
  rw [if_pos (by omega), wrap_in (100 * d) (by omega) (by omega), wrap_in (30 * lv) (by omega) (by omega), wrap_in (100 * d + 30 * lv) (by omega) (by omega), wrap_in (1000 + (100 * d + 30 * lv)) (by omega) (by omega), wrap_in (lv - 1) (by omega) (by omega)]
  by_cases h : n = 1000 + (100 * d + 30 * lv)
  · rw [if_pos h, if_pos h]; exact val_eq _ _ _ _ _ _ _ _
  · rw [if_neg h, if_neg h]
    have := l2_all k n d lv (100 * d + 30 * lv) z c b l z4 z5 0 (by omega) hl 7 (by omega)
    rw [show (7 - ((7 : Nat) : Int)) = 0 by omega] at this
    rw [show k + 12 = k + 5 + 7 by omega, this]
    by_cases h2 : 3007 + (100 * d + 30 * lv) - ((7 : Nat) : Int) ≤ n ∧ n ≤ 3006 + (100 * d + 30 * lv)
    · rw [if_pos h2, if_pos (by omega)]
    · rw [if_neg h2, if_neg (by omega)]
/-- What is found from a direction on. -/
def find (n c b l : Int) : Int × Int × Int × Int × Int × Int × Int × Int :=
  if (n / 1000 = 1 ∧ n % 1000 % 100 % 30 = 0 ∨ n / 1000 = 3 ∧ n % 1000 % 100 % 30 ≤ 6) ∧ n % 1000 / 100 ≤ 8 ∧ n % 1000 % 100 / 30 ≤ 2 then valP (n / 1000) c b l (n % 1000 / 100) (n % 1000 % 100 / 30 - 1) (n % 1000 % 100 % 30) else (0, 0, 0, 0, 0, 0, 0, 2)
theorem find_at (n c b l k d lv m : Int) (hk : k = 1 ∧ m = 0 ∨ k = 3 ∧ 0 ≤ m ∧ m ≤ 6) (hd : 0 ≤ d ∧ d ≤ 8) (hl : 0 ≤ lv ∧ lv ≤ 2) (hn : n = 1000 * k + (100 * d + 30 * lv) + m) : find n c b l = valP k c b l d (lv - 1) m := by
  have e1 : n / 1000 = k := by omega
  have e2 : n % 1000 = 100 * d + 30 * lv + m := by omega
  have e3 : (100 * d + 30 * lv + m) / 100 = d := by omega
  have e4 : (100 * d + 30 * lv + m) % 100 = 30 * lv + m := by omega
  have e5 : (30 * lv + m) / 30 = lv := by omega
  have e6 : (30 * lv + m) % 30 = m := by omega
  unfold find
  rw [e1, e2, e3, e4, e5, e6, if_pos (by omega)]
theorem l0_all (k : Nat) (n z c b l z4 z5 : Int) : ∀ r : Nat, r ≤ 9 → (∀ d lv m, 0 ≤ d → d < 9 - (r : Int) → 0 ≤ lv → lv ≤ 2 → n ≠ 1000 + (100 * d + 30 * lv) ∧ (0 ≤ m → m ≤ 6 → n ≠ 3000 + (100 * d + 30 * lv) + m)) →
    dancestudioref23_Decode.l0 (k + 20 + 29 * r) n (9 - r) z c b l z4 z5 0 = some (find n c b l) := by
  intro r
  induction r with
  | zero =>
    intro _ hno
    rw [show k + 20 + 29 * 0 = k + 19 + 1 by omega]
    simp only [dancestudioref23_Decode.l0]
    rw [if_neg (by omega)]
    unfold find
    rw [if_neg ?_]
    rintro ⟨h1, h2, h3⟩
    have := hno (n % 1000 / 100) (n % 1000 % 100 / 30) (n % 1000 % 100 % 30) (by omega) (by omega) (by omega) (by omega)
    rcases h1 with ⟨h1, h4⟩ | ⟨h1, h4⟩
    · exact this.1 (by omega)
    · exact this.2 (by omega) h4 (by omega)
  | succ r ih =>
    intro hr hno
    have hd : (0 : Int) ≤ 9 - ((r + 1 : Nat) : Int) ∧ 9 - ((r + 1 : Nat) : Int) ≤ 8 := by omega
    obtain ⟨d, hdd⟩ : ∃ d : Int, d = 9 - ((r + 1 : Nat) : Int) := ⟨_, rfl⟩
    rw [← hdd] at hd hno ⊢
    rw [show k + 20 + 29 * (r + 1) = (k + 35 + 29 * r + 13) + 1 by omega]
    simp only [dancestudioref23_Decode.l0]
    rw [if_pos hd.2]
    have step : ∀ q lv, 0 ≤ lv → lv ≤ 2 → (¬ (n = 1000 + (100 * d + 30 * lv)) → ¬ (3000 + (100 * d + 30 * lv) ≤ n ∧ n ≤ 3006 + (100 * d + 30 * lv)) → dancestudioref23_Decode.l1 (q + 4) n d (lv + 1) z c b l z4 z5 0 = some (find n c b l)) → dancestudioref23_Decode.l1 (q + 13) n d lv z c b l z4 z5 0 = some (find n c b l) := by
      intro q lv g0 g1 g2
      rw [l1_one q n d lv z c b l z4 z5 hd ⟨g0, g1⟩]
      by_cases h1 : n = 1000 + (100 * d + 30 * lv)
      · rw [if_pos h1, find_at n c b l 1 d lv 0 (.inl ⟨rfl, rfl⟩) hd ⟨g0, g1⟩ (by omega)]
      · rw [if_neg h1]
        by_cases h2 : 3000 + (100 * d + 30 * lv) ≤ n ∧ n ≤ 3006 + (100 * d + 30 * lv)
        · rw [if_pos h2, find_at n c b l 3 d lv (n - 3000 - (100 * d + 30 * lv)) (.inr ⟨rfl, by omega, by omega⟩) hd ⟨g0, g1⟩ (by omega)]
        · rw [if_neg h2]; exact g2 h1 h2
    refine step _ 0 (by omega) (by omega) (fun a1 a2 => ?_)
    rw [show k + 35 + 29 * r + 4 = (k + 26 + 29 * r) + 13 by omega]
    refine step _ (0 + 1) (by omega) (by omega) (fun b1 b2 => ?_)
    rw [show k + 26 + 29 * r + 4 = (k + 17 + 29 * r) + 13 by omega]
    refine step _ (0 + 1 + 1) (by omega) (by omega) (fun c1 c2 => ?_)
    rw [show k + 17 + 29 * r + 4 = (k + 20 + 29 * r) + 1 by omega]
    simp only [dancestudioref23_Decode.l1]
    rw [if_neg (by omega), wrap_in (d + 1) (by omega) (by omega), show d + 1 = 9 - (r : Int) by omega]
    refine ih (by omega) (fun d' lv m g0 g1 g2 g3 => ?_)
    by_cases e : d' = d
    · subst e
      have hlv : lv = 0 ∨ lv = 1 ∨ lv = 2 := by omega
      refine ⟨?_, fun m0 m1 => ?_⟩
      · rcases hlv with rfl | rfl | rfl <;> omega
      · rcases hlv with rfl | rfl | rfl <;> omega
    · exact hno d' lv m g0 (by omega) g2 g3
theorem dec_find (n c b l : Int) (h1 : n ≠ 2000) (h2 : ¬ (4000 ≤ n ∧ n ≤ 4032 ∧ n ≠ 4016)) : find n c b l = decP n c b l := by
  unfold find decP sayP
  rw [if_neg h1, if_neg h2]
  by_cases h : n < 0 ∨ (n / 1000 ≠ 1 ∧ n / 1000 ≠ 3) ∨ 8 < n % 1000 / 100 ∨ 1 < n % 1000 % 100 / 30 - 1 ∨ 6 < n % 1000 % 100 % 30 ∨ (n / 1000 = 1 ∧ 0 < n % 1000 % 100 % 30)
  · rw [if_pos h, if_neg (by omega)]; rfl
  · rw [if_neg h, if_pos (by omega)]
    simp only [if_true]
    unfold valP
    rfl
theorem refDecode_eq (n c b l : Int) (hn : okI n) : dancestudioref23_Decode.f 300 n c b l = some (decP n c b l) := by
  unfold dancestudioref23_Decode.f
  by_cases h1 : n = 2000
  · rw [if_pos h1, show 300 = 297 + 3 from rfl, val_eq]
    subst h1
    unfold decP sayP valP
    simp
  · rw [if_neg h1]
    have hj : ∀ x : Bool, x = decide (4000 ≤ n ∧ n ≤ 4032 ∧ n ≠ 4016) → dancestudioref23_Decode.j0 300 n x 0 c b l 0 0 0 = some (decP n c b l) := by
      intro x hx
      rw [show 300 = (18 + 20 + 29 * 9) + 1 from rfl]
      simp only [dancestudioref23_Decode.j0]
      by_cases h2 : 4000 ≤ n ∧ n ≤ 4032 ∧ n ≠ 4016
      · rw [hx, if_pos (decide_eq_true h2), show 299 = 296 + 3 from rfl, val_eq, wrap_in (n - 4016) (by omega) (by omega)]
        unfold decP sayP valP
        rw [if_neg h1, if_pos h2]
        rfl
      · rw [hx, if_neg (by simpa using h2), ← dec_find n c b l h1 h2]
        have := l0_all 18 n 0 c b l 0 0 9 (by omega) (fun d lv m g0 g1 _ _ => by omega)
        rw [show (9 - ((9 : Nat) : Int)) = 0 by omega] at this
        exact this
    by_cases h2 : n ≥ 4000
    · rw [if_pos h2]
      by_cases h3 : n ≤ 4032
      · rw [if_pos h3]; exact hj _ (by rw [Bool.eq_iff_iff, bne_iff_ne, decide_eq_true_eq]; omega)
      · rw [if_neg h3]; exact hj _ (by simp; omega)
    · rw [if_neg h2]; exact hj _ (by simp; omega)
theorem SymbolDecode (a0 : Int) (a1 : Int) (a2 : Int) (a3 : Int) (w0 : okI a0) (w1 : okI a1) (w2 : okI a2) (w3 : okI a3) : ∃ k, dancestudiolaw23_SymbolDecode.f k a0 a1 a2 a3 = some true := by
  refine ⟨300, ?_⟩
  have hd : symbol_Decode.f a0 a1 a2 a3 = some (decP a0 a1 a2 a3) := by
    unfold symbol_Decode.f
    rw [if_pos (by unfold sayOk; exact decide_eq_true (show -9223372036854775808 ≤ a0 ∧ a0 ≤ 9223372036854775807 from w0))]
  have ha : dancestudiolaw23_awake.f 300 = some true := by decide +kernel
  unfold dancestudiolaw23_SymbolDecode.f
  rw [hd, refDecode_eq a0 a1 a2 a3 w0, ha]
  simp
end Go.Proofs.Ytnepoolmbfhppaa.Pure
