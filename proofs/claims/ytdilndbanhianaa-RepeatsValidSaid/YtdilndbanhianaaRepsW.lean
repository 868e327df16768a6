/- What is performed of a staff without repetitions, and of the whole staff twice; no condition. -/
import Derived.Test.YtdilndbanhianaaRepsS0
import Derived.Test.YtdilndbanhianaaVStaffJ0
set_option linter.unusedVariables false
set_option linter.unusedSimpArgs false
namespace Go.Proofs.Ytdilndbanhianaa.P
open Go.RowKit Go.Proofs.YtdilndbanhianaaW.PrintWords Go.Proofs.YtdilndbanhianaaW.PrintLast Go.Proofs.YtdilndbanhianaaW.PrintMore
theorem ok_in {l : List S29} {n : Int} (v : StaffOk l n) (s : S29) (hs : s ∈ l) : 0 ≤ s.f2 ∧ 1 ≤ s.f3 ∧ s.f2 + s.f3 ≤ n := by
  have h1 := chkO_in s (v.all s hs)
  have h2 := v.le s hs
  unfold endS at h2
  exact ⟨h1.2.2.1, h1.2.2.2.1, h2⟩
theorem within_all {l : List S29} {n : Int} (v : StaffOk l n) : withinP l ⟨0, n⟩ = l := by
  unfold withinP
  refine List.filter_eq_self.mpr fun s hs => ?_
  have := ok_in v s hs
  have a : (0 : Int) ≤ s.f2 := by omega
  have b : s.f2 < n := by omega
  simp [inB, a, b]
theorem secs_none {n : Int} (h : 1 ≤ n) : secsP n [] = [(⟨0, n⟩, 1)] := by
  have : (0 : Int) < n := by omega
  simp [secsP, secR, atR, this]
theorem secs_twice {n : Int} (h : 1 ≤ n) : secsP n [⟨⟨0, n⟩, 2⟩] = [(⟨0, n⟩, 2)] := by
  simp [secsP, secR, atR]
theorem cut_ends {l : List S29} {n : Int} (v : StaffOk l n) : cutB l 0 = true ∧ cutB l n = true := by
  constructor
  · unfold cutB
    rw [List.any_eq_false.mpr (fun s hs => ?_)]
    · rfl
    · have := ok_in v s hs
      have a : ¬ s.f2 < 0 := by omega
      simp [acrB, a]
  · unfold cutB
    rw [List.any_eq_false.mpr (fun s hs => ?_)]
    · rfl
    · have := ok_in v s hs
      have w := v.n1
      have e : wrap64 (s.f2 + s.f3) = s.f2 + s.f3 := wrap_in _ (by omega) (by omega)
      have a : ¬ n < s.f2 + s.f3 := by omega
      simp [acrB, e, a]
theorem tick_one {n t : Int} (h : 0 ≤ n ∧ n ≤ 8192) (ht : 0 ≤ t ∧ t ≤ 16) : tickS 0 (⟨0, n⟩, t) = n * t := by
  have b1 : 0 ≤ n * t := Int.mul_nonneg h.1 ht.1
  have b2 : n * t ≤ 8192 * 16 := Int.mul_le_mul h.2 ht.2 ht.1 (by omega)
  unfold tickS
  simp only [Int.sub_zero, Int.zero_add]
  rw [wrap_in n (by omega) (by omega), wrap_in (n * t) (by omega) (by omega), wrap_in (n * t) (by omega) (by omega)]
theorem sym_one {l : List S29} {n t : Int} (v : StaffOk l n) (ht : 0 ≤ t ∧ t ≤ 16) : symS l 0 (⟨0, n⟩, t) = (l.length : Int) * t := by
  have hl := v.len
  have b1 : 0 ≤ (l.length : Int) * t := Int.mul_nonneg (by omega) ht.1
  have b2 : (l.length : Int) * t ≤ 256 * 16 := Int.mul_le_mul (by omega) ht.2 ht.1 (by omega)
  unfold symS
  simp only [within_all v, Int.zero_add]
  rw [wrap_in ((l.length : Int) * t) (by omega) (by omega), wrap_in ((l.length : Int) * t) (by omega) (by omega)]
theorem perf_none {n : Int} (h : 1 ≤ n) (h1 : n ≤ 8192) : perfP n [] = n := by
  unfold perfP
  rw [secs_none h]
  simp only [List.foldl_cons, List.foldl_nil]
  have := tick_one (n := n) (t := 1) ⟨by omega, h1⟩ ⟨by omega, by omega⟩
  rw [this, Int.mul_one]
theorem syms_none {l : List S29} {n : Int} (v : StaffOk l n) : symsP l n [] = l.length := by
  unfold symsP
  rw [secs_none v.n0, List.foldl_cons, List.foldl_nil]
  have := sym_one (t := 1) v ⟨by omega, by omega⟩
  rw [this, Int.mul_one]
theorem perf_twice {n : Int} (h : 1 ≤ n) (h1 : n ≤ 8192) : perfP n [⟨⟨0, n⟩, 2⟩] = n * 2 := by
  unfold perfP
  rw [secs_twice h]
  simp only [List.foldl_cons, List.foldl_nil]
  exact tick_one (n := n) (t := 2) ⟨by omega, h1⟩ ⟨by omega, by omega⟩
theorem syms_twice {l : List S29} {n : Int} (v : StaffOk l n) : symsP l n [⟨⟨0, n⟩, 2⟩] = (l.length : Int) * 2 := by
  unfold symsP
  rw [secs_twice v.n0, List.foldl_cons, List.foldl_nil]
  exact sym_one (t := 2) v ⟨by omega, by omega⟩
theorem check_none {l : List S29} {n : Int} (v : StaffOk l n) : rCheckP l n [] = 0 := by
  have h0 := (chkS_ok l n).mpr v
  have hp := perf_none v.n0 v.n1
  have hs := syms_none v
  have h1 := v.n1
  have h2 := v.len
  unfold rCheckP
  have a2 : ¬ 16 < ([] : List S61).length := by rw [List.length_nil]; omega
  have a3 : ¬ ([] : List S61).any (badR n) = true := by rw [List.any_nil]; exact Bool.false_ne_true
  have a4 : ¬ ordK ([] : List S61) (([] : List S61).length - 1) = true := Bool.false_ne_true
  have a5 : ¬ ([] : List S61).any (badC26 l) = true := by rw [List.any_nil]; exact Bool.false_ne_true
  have a6 : ¬ 8192 < perfP n [] := by rw [hp]; omega
  have a7 : ¬ 256 < symsP l n [] := by rw [hs]; omega
  rw [if_neg (not_not_intro h0), if_neg a2, if_neg a3, if_neg a4, if_neg a5, if_neg a6, if_neg a7]
theorem check_twice {l : List S29} {n : Int} (v : StaffOk l n) : rCheckP l n [⟨⟨0, n⟩, 2⟩] = if 8192 < n + n then 1 else if 256 < l.length + l.length then 3 else 0 := by
  have h0 := (chkS_ok l n).mpr v
  have n0 := v.n0
  have hp := perf_twice v.n0 v.n1
  have hs := syms_twice v
  have c := cut_ends v
  have hn : ¬ n ≤ 0 := by omega
  unfold rCheckP
  have a2 : ¬ 16 < ([⟨⟨0, n⟩, 2⟩] : List S61).length := by rw [List.length_singleton]; omega
  have a3 : ¬ ([⟨⟨0, n⟩, 2⟩] : List S61).any (badR n) = true := by
    simp only [List.any_cons, List.any_nil, Bool.or_false, badR, Bool.or_eq_true, decide_eq_true_eq, not_or]
    omega
  have a4 : ¬ ordK ([⟨⟨0, n⟩, 2⟩] : List S61) (([⟨⟨0, n⟩, 2⟩] : List S61).length - 1) = true := Bool.false_ne_true
  have a5 : ¬ ([⟨⟨0, n⟩, 2⟩] : List S61).any (badC26 l) = true := by
    simp only [List.any_cons, List.any_nil, Bool.or_false, badC26, c.1, c.2, Bool.not_true, Bool.or_self]
    exact Bool.false_ne_true
  rw [if_neg (not_not_intro h0), if_neg a2, if_neg a3, if_neg a4, if_neg a5]
  by_cases c1 : 8192 < n + n
  · have a6 : 8192 < perfP n [⟨⟨0, n⟩, 2⟩] := by rw [hp]; omega
    rw [if_pos c1, if_pos a6]
  · have a6 : ¬ 8192 < perfP n [⟨⟨0, n⟩, 2⟩] := by rw [hp]; omega
    rw [if_neg c1, if_neg a6]
    by_cases c2 : 256 < l.length + l.length
    · have a7 : 256 < symsP l n [⟨⟨0, n⟩, 2⟩] := by rw [hs]; omega
      rw [if_pos c2, if_pos a7]
    · have a7 : ¬ 256 < symsP l n [⟨⟨0, n⟩, 2⟩] := by rw [hs]; omega
      rw [if_neg c2, if_neg a7]
theorem perform_none {l : List S29} {n : Int} (v : StaffOk l n) : rPerformP l n [] = (l, 0) := by
  unfold rPerformP
  rw [if_neg (not_not_intro (check_none v)), secs_none v.n0]
  show ((repS l (⟨0, n⟩, 1) 1 ([], 0)).1, (0 : Int)) = _
  simp only [repS, within_all v, List.nil_append, Int.sub_zero]
  rw [show wrap64 0 = 0 from wrap_in 0 (by omega) (by omega), map_mov0 l v.all]
theorem perform_bad {l : List S29} {n : Int} (h : ¬ chkS l n = 0) (r : List S61) : rPerformP l n r = ([], chkS l n) := by
  have e : rCheckP l n r = chkS l n := by unfold rCheckP; rw [if_pos h]
  unfold rPerformP; rw [e, if_pos h]
theorem perform_twice {l : List S29} {n : Int} (v : StaffOk l n) : rPerformP l n [⟨⟨0, n⟩, 2⟩] = joinP l n l n := by
  have h0 := (chkS_ok l n).mpr v
  have n0 := v.n0
  have n1 := v.n1
  unfold rPerformP joinP
  rw [check_twice v, if_neg (not_not_intro h0), if_neg (not_not_intro h0)]
  by_cases c1 : 8192 < n + n
  · rw [if_pos c1, if_pos c1, if_pos (by decide)]
  · rw [if_neg c1, if_neg c1]
    by_cases c2 : 256 < l.length + l.length
    · rw [if_pos c2, if_pos c2, if_pos (by decide)]
    · rw [if_neg c2, if_neg c2, if_neg (by decide), secs_twice v.n0]
      show ((repS l (⟨0, n⟩, 2) 2 ([], 0)).1, (0 : Int)) = _
      have e1 : wrap64 n = n := wrap_in _ (by omega) (by omega)
      simp only [repS, within_all v, List.nil_append, Int.sub_zero, Int.zero_add, show wrap64 0 = 0 from wrap_in 0 (by omega) (by omega), e1, map_mov0 l v.all]
end Go.Proofs.Ytdilndbanhianaa.P
