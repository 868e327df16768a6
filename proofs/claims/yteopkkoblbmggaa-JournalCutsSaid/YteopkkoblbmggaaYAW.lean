/- Texts of this claim in one: VKeepP, VOpenP, VTakeInv, VRecP, VReplayP, VReplayQ; no condition. -/
import Derived.Test.YteopkkoblbmggaaYAD
import Derived.Test.YteopkkoblbmggaaYAK
import Derived.Test.YteopkkoblbmggaaYAV
import Derived.Test.YteopkkoblbmggaaYAH
import Derived.Test.YteopkkoblbmggaaYAM
import Derived.Test.YteopkkoblbmggaaYAU
import Derived.Test.YteopkkoblbmggaaYAT
import Derived.Test.YteopkkoblbmggaaYAI
import Derived.Test.YteopkkoblbmggaaYAQ
import Derived.Test.YteopkkoblbmggaaYAO
import Derived.Test.YteopkkoblbmggaaYAJ
section
set_option linter.unusedVariables false
set_option linter.unusedSimpArgs false
namespace Go.Proofs.Yteopkkoblbmggaa.P
open Go.RowKit Go.Proofs.YteopkkoblbmggaaW.PrintWords Go.Proofs.YteopkkoblbmggaaW.PrintLast Go.Proofs.YteopkkoblbmggaaW.PrintMore
theorem write_eq (k : Nat) (d : Int) (l : List S30) (hz : ∀ x ∈ l, zS30 x) (hk : 2000 ≤ k) : journal_Write.f k d l = some (writP (fun _ => true) d l) := wrA_eq k hk _ d l hz
/-- The number of four bytes. -/
def val4 : List Int → Int
  | b0 :: b1 :: b2 :: b3 :: _ => b0 + 256 * b1 + 65536 * b2 + 16777216 * b3
  | _ => -1
/-- What opening says. -/
def openP (b : List Int) : List Int × Int × Int :=
  if (dec b).2.2 = 0 then
    if (dec b).1 < 0 then ([], 0, 2) else if 65536 < (dec b).1 then ([], 0, 3)
    else if (b.length : Int) < (dec b).2.1 + 4 + (dec b).1 then ([], 0, 13)
    else if crcE (crcE 0 (b.take (dec b).2.1.toNat)) ((b.take ((dec b).2.1.toNat + 4 + (dec b).1.toNat)).drop ((dec b).2.1.toNat + 4)) = val4 (b.drop (dec b).2.1.toNat)
      then ((b.take ((dec b).2.1.toNat + 4 + (dec b).1.toNat)).drop ((dec b).2.1.toNat + 4), (dec b).2.1 + 4 + (dec b).1, 0) else ([], 0, 14)
  else ([], 0, (dec b).2.2)
theorem or32 (i : Nat) (x y : Int) (hx₀ : 0 ≤ x) (hx : x % 2 ^ i = 0) (hx₁ : x < 2 ^ 32) (hy₀ : 0 ≤ y) (hy : y < 2 ^ i) (hy₁ : y < 2 ^ 32) : Go.bits .or .u32 y x = y + x := by
  have h : Go.bits .or .u32 y x = Go.bits .or .u32 x y := by
    simp only [Go.bits, BitVec.or_comm]
  rw [h, bits_join .u32 32 (by decide) (fun n a b => by rw [IntKind.wrap_u32]; omega) i x y hx₀ hx hx₁ hy₀ hy hy₁]
  omega
theorem four_drop {b : List Int} {k : Nat} (h : k + 4 ≤ b.length) : ∃ b0 b1 b2 b3 r, b.drop k = b0 :: b1 :: b2 :: b3 :: r := by
  have h1 : 4 ≤ (b.drop k).length := by rw [List.length_drop]; omega
  match hd : b.drop k, h1 with
  | b0 :: b1 :: b2 :: b3 :: r, _ => exact ⟨b0, b1, b2, b3, r, rfl⟩
  | [], h => simp at h
  | [_], h => simp at h
  | [_, _], h => simp at h
  | [_, _, _], h => simp at h
theorem rd_drop {b : List Int} {k i : Nat} : rd b ((k : Int) + (i : Int)) = (b.drop k).getD i 0 := by
  unfold rd
  rw [show ((k : Int) + (i : Int)).toNat = k + i by omega, List.getD_eq_getElem?_getD, List.getD_eq_getElem?_getD, List.getElem?_drop]
theorem sh0 (x : Int) (h : 0 ≤ x ∧ x ≤ 255) : shl .u32 (x % 4294967296) 0 = x := by unfold shl; rw [IntKind.wrap_u32]; simp; omega
theorem sh8 (x : Int) (h : 0 ≤ x ∧ x ≤ 255) : shl .u32 (x % 4294967296) 8 = x * 256 := by unfold shl; rw [IntKind.wrap_u32, show (2 : Int) ^ min (8 : Int).toNat IntKind.u32.bits = 256 from rfl]; omega
theorem sh16 (x : Int) (h : 0 ≤ x ∧ x ≤ 255) : shl .u32 (x % 4294967296) 16 = x * 65536 := by unfold shl; rw [IntKind.wrap_u32, show (2 : Int) ^ min (16 : Int).toNat IntKind.u32.bits = 65536 from rfl]; omega
theorem sh24 (x : Int) (h : 0 ≤ x ∧ x ≤ 255) : shl .u32 (x % 4294967296) 24 = x * 16777216 := by unfold shl; rw [IntKind.wrap_u32, show (2 : Int) ^ min (24 : Int).toNat IntKind.u32.bits = 16777216 from rfl]; omega
theorem sum4 (b0 b1 b2 b3 : Int) (k0 : 0 ≤ b0 ∧ b0 ≤ 255) (k1 : 0 ≤ b1 ∧ b1 ≤ 255) (k2 : 0 ≤ b2 ∧ b2 ≤ 255) (k3 : 0 ≤ b3 ∧ b3 ≤ 255) :
    Go.bits .or .u32 (Go.bits .or .u32 (Go.bits .or .u32 (Go.bits .or .u32 0 (shl .u32 (b0 % 4294967296) 0)) (shl .u32 (b1 % 4294967296) 8)) (shl .u32 (b2 % 4294967296) 16)) (shl .u32 (b3 % 4294967296) 24) = b0 + 256 * b1 + 65536 * b2 + 16777216 * b3 := by
  rw [sh0 b0 k0, sh8 b1 k1, sh16 b2 k2, sh24 b3 k3]
  rw [or32 0 b0 0 (by omega) (by omega) (by omega) (by omega) (by omega) (by omega), or32 8 (b1 * 256) (0 + b0) (by omega) (by omega) (by omega) (by omega) (by omega) (by omega),
    or32 16 (b2 * 65536) (0 + b0 + b1 * 256) (by omega) (by omega) (by omega) (by omega) (by omega) (by omega), or32 24 (b3 * 16777216) (0 + b0 + b1 * 256 + b2 * 65536) (by omega) (by omega) (by omega) (by omega) (by omega) (by omega)]
  omega
theorem open_last (q : Nat) (b : List Int) (n k : Nat) (s : Int) (hn : n ≤ 65536) (hlen : k + 4 + n ≤ b.length) (hbl : b.length ≤ 1000000) (hq : 10 * b.length + 50 ≤ q) :
    crc_Open.l0 (q + 1) b (n : Int) (k : Int) s 4 = some (if crcE (crcE 0 (b.take k)) ((b.take (k + 4 + n)).drop (k + 4)) = s then ((b.take (k + 4 + n)).drop (k + 4), (k : Int) + 4 + (n : Int), 0) else ([], 0, 14)) := by
  unfold crc_Open.l0
  have w4 : wrap64 ((k : Int) + 4) = (k : Int) + 4 := by unfold wrap64; omega
  have w5 : wrap64 ((k : Int) + 4 + (n : Int)) = (k : Int) + 4 + (n : Int) := by unfold wrap64; omega
  rw [if_neg (by decide), w4, w5, if_pos (by omega), if_pos (by omega), if_pos (by omega), show ((k : Int) + 4 + (n : Int)).toNat = k + 4 + n by omega, show ((k : Int) + 4).toNat = k + 4 by omega, Int.toNat_natCast]
  have hcl : ((b.take (k + 4 + n)).drop (k + 4)).length ≤ b.length := by rw [List.length_drop, List.length_take]; omega
  have hcc : slices_Clone_byte_byte.f ((b.take (k + 4 + n)).drop (k + 4)) = some ((b.take (k + 4 + n)).drop (k + 4)) := by unfold slices_Clone_byte_byte.f; rw [if_pos (by omega)]
  have hct : (b.take k).length ≤ b.length := by rw [List.length_take]; omega
  rw [hcc, Option.bind_some, if_pos (by omega), if_pos (by omega), sum_eq q _ (by omega) (by omega), Option.bind_some, ext_eq q _ _ (by omega) (by omega), Option.bind_some]
  split <;> rfl
theorem open_step (q : Nat) (b : List Int) (n s : Int) (k i : Nat) (hi : i < 4) (hlen : k + 4 ≤ b.length) (hbl : b.length ≤ 1000000) :
    crc_Open.l0 (q + 1) b n (k : Int) s (i : Int) = crc_Open.l0 q b n (k : Int) (Go.bits .or .u32 s (shl .u32 (((b.drop k).getD i 0) % 4294967296) ((8 * i : Nat) : Int))) ((i + 1 : Nat) : Int) := by
  have w0 : wrap64 ((k : Int) + (i : Int)) = (k : Int) + (i : Int) := by unfold wrap64; omega
  have w1 : wrap64 (8 * (i : Int)) = ((8 * i : Nat) : Int) := by unfold wrap64; omega
  have w2 : wrap64 ((i : Int) + 1) = ((i + 1 : Nat) : Int) := by unfold wrap64; omega
  rw [crc_Open.l0, if_pos (by omega), w0, if_pos (by omega), if_pos (by omega), w1, if_pos (by omega), rd_drop, w2]
theorem open_loop (q : Nat) (b : List Int) (n k : Nat) (hb : okB b) (hn : n ≤ 65536) (hlen : k + 4 + n ≤ b.length) (hbl : b.length ≤ 1000000) (hq : 10 * b.length + 50 ≤ q) :
    crc_Open.l0 (q + 5) b (n : Int) (k : Int) 0 0 = some (if crcE (crcE 0 (b.take k)) ((b.take (k + 4 + n)).drop (k + 4)) = val4 (b.drop k) then ((b.take (k + 4 + n)).drop (k + 4), (k : Int) + 4 + (n : Int), 0) else ([], 0, 14)) := by
  have h4 : k + 4 ≤ b.length := by omega
  have e0 := open_step (q + 4) b n 0 k 0 (by omega) h4 hbl
  have e1 := fun s => open_step (q + 3) b n s k 1 (by omega) h4 hbl
  have e2 := fun s => open_step (q + 2) b n s k 2 (by omega) h4 hbl
  have e3 := fun s => open_step (q + 1) b n s k 3 (by omega) h4 hbl
  obtain ⟨b0, b1, b2, b3, r, hd⟩ := four_drop h4
  have hm : ∀ x ∈ b.drop k, 0 ≤ x ∧ x ≤ 255 := fun x hx => hb x (List.mem_of_mem_drop hx)
  rw [hd] at hm e0 e1 e2 e3 ⊢
  have hs := sum4 b0 b1 b2 b3 (hm b0 (by simp)) (hm b1 (by simp)) (hm b2 (by simp)) (hm b3 (by simp))
  have e4 := open_last q b n k (b0 + 256 * b1 + 65536 * b2 + 16777216 * b3) hn hlen hbl hq
  rw [← hs] at e4
  exact e0.trans ((e1 _).trans ((e2 _).trans ((e3 _).trans (e4.trans (by rw [hs]; rfl)))))
theorem open_eq (k : Nat) (b : List Int) (hb : okB b) (hbl : b.length ≤ 1000000) (hk : 10 * b.length + 100 ≤ k) : crc_Open.f k b = some (openP b) := by
  unfold crc_Open.f openP
  rw [takeInt_eq k b (by omega) hb (by omega), Option.bind_some]
  have hd := dec_k b
  generalize dec b = D at hd ⊢
  obtain ⟨v, m, e⟩ := D
  dsimp only at hd ⊢
  by_cases h1 : e = 0
  · rw [if_pos h1, if_pos h1]
    by_cases h2 : v < 0
    · rw [if_pos h2, if_pos h2]
    · rw [if_neg h2, if_neg h2]
      by_cases h3 : 65536 < v
      · simp only [if_pos h3, if_pos (show v > 65536 from h3)]
      · simp only [if_neg h3, if_neg (show ¬ v > 65536 from h3)]
        rw [show wrap64 ((b.length : Int) - m) = (b.length : Int) - m by unfold wrap64; omega, show wrap64 (4 + v) = 4 + v by unfold wrap64; omega]
        by_cases h4 : (b.length : Int) < m + 4 + v
        · rw [if_pos h4, if_pos (by omega)]
        · rw [if_neg h4, if_neg (by omega)]
          obtain ⟨n, rfl⟩ : ∃ n : Nat, v = n := ⟨v.toNat, by omega⟩
          obtain ⟨m, rfl⟩ : ∃ j : Nat, m = j := ⟨m.toNat, by omega⟩
          obtain ⟨q, rfl⟩ : ∃ q, k = q + 5 := ⟨k - 5, by omega⟩
          rw [open_loop q b n m hb (by omega) (by omega) hbl (by omega), Int.toNat_natCast, Int.toNat_natCast]
  · rw [if_neg h1, if_neg h1]
theorem fourP_ok (s : Int) : okB (fourP s) := by
  intro x hx
  simp [fourP] at hx
  rcases hx with h | h | h | h <;> rw [h] <;> omega
end Go.Proofs.Yteopkkoblbmggaa.P
end
section
namespace Go.Proofs.Yteopkkoblbmggaa.P
open Go.RowKit Go.Proofs.YteopkkoblbmggaaW.PrintWords Go.Proofs.YteopkkoblbmggaaW.PrintLast Go.Proofs.YteopkkoblbmggaaW.PrintMore
theorem six_of : ∀ l : List Int, l.length = 6 → ∃ a b c d e f, l = [a, b, c, d, e, f]
  | [a, b, c, d, e, f], _ => ⟨a, b, c, d, e, f, rfl⟩
theorem seven_of : ∀ l : List Int, l.length = 7 → ∃ a b c d e f g, l = [a, b, c, d, e, f, g]
  | [a, b, c, d, e, f, g], _ => ⟨a, b, c, d, e, f, g, rfl⟩
theorem take_inv (b : List Int) (hb : okB b) : (∃ e, e ≠ 0 ∧ takeP b = errE e) ∨ ∃ a0 a1 a2 a3 a4 a5 a6 a7 a8 a9 a10 a11 a12, takeP b = (a0, a1, a2, a3, a4, a5, a6, a7, a8, a9, a10, a11, a12, 0) ∧
    chkE a0 a1 a2 a3 a4 a5 a6 a7 a8 a9 a10 a11 a12 = 0 ∧ okE a0 a1 a2 a3 a4 a6 a7 a8 a9 a10 a11 a12 ∧ putB a0 a1 a2 a3 a4 a5 a6 a7 a8 a9 a10 a11 a12 = b := by
  have z0 : okZ 0 := by unfold okZ; omega
  unfold takeP
  obtain ⟨l, rest, e, h⟩ : ∃ l rest e, dks 6 b = (l, rest, e) := ⟨_, _, _, rfl⟩
  rw [h]
  simp only
  by_cases h1 : e = 0
  · subst h1
    obtain ⟨i1, i2, i3⟩ := dks_inv 6 b l rest hb h
    obtain ⟨x0, x1, x2, x3, x4, x5, rfl⟩ := six_of l i3
    have k0 := i2 x0 (by simp)
    have k1 := i2 x1 (by simp)
    have k2 := i2 x2 (by simp)
    have k3 := i2 x3 (by simp)
    have k4 := i2 x4 (by simp)
    rw [if_pos rfl]
    simp only [List.getD_cons_zero, List.getD_cons_succ]
    by_cases h2 : x5 = 1
    · rw [if_pos h2]
      unfold endP
      by_cases h3 : rest.length = 0
      · rw [if_pos h3]
        by_cases h4 : chkE x0 x1 x2 x3 x4 true 0 0 0 0 0 0 0 = 0
        · rw [if_pos h4]
          refine Or.inr ⟨x0, x1, x2, x3, x4, true, 0, 0, 0, 0, 0, 0, 0, rfl, h4, ⟨k0, k1, k2, k3, k4, z0, z0, z0, z0, z0, z0, z0⟩, ?_⟩
          rw [i1, List.length_eq_zero_iff.mp h3, h2]
          rfl
        · rw [if_neg h4]; exact Or.inl ⟨_, h4, rfl⟩
      · rw [if_neg h3]; exact Or.inl ⟨2, by decide, rfl⟩
    · rw [if_neg h2]
      by_cases h3 : x5 = 0
      · rw [if_pos h3]
        obtain ⟨m, r2, e2, h'⟩ : ∃ m r2 e2, dks 7 rest = (m, r2, e2) := ⟨_, _, _, rfl⟩
        rw [h']
        simp only
        have hrb : okB rest := fun x hx => hb x (by rw [i1]; exact List.mem_append_right _ hx)
        by_cases h4 : e2 = 0
        · subst h4
          obtain ⟨j1, j2, j3⟩ := dks_inv 7 rest m r2 hrb h'
          obtain ⟨y0, y1, y2, y3, y4, y5, y6, rfl⟩ := seven_of m j3
          rw [if_pos rfl]
          simp only [List.getD_cons_zero, List.getD_cons_succ]
          unfold endP
          by_cases h5 : r2.length = 0
          · rw [if_pos h5]
            by_cases h6 : chkE x0 x1 x2 x3 x4 false y0 y1 y2 y3 y4 y5 y6 = 0
            · rw [if_pos h6]
              refine Or.inr ⟨x0, x1, x2, x3, x4, false, y0, y1, y2, y3, y4, y5, y6, rfl, h6, ⟨k0, k1, k2, k3, k4, j2 y0 (by simp), j2 y1 (by simp), j2 y2 (by simp), j2 y3 (by simp), j2 y4 (by simp), j2 y5 (by simp), j2 y6 (by simp)⟩, ?_⟩
              rw [i1, j1, List.length_eq_zero_iff.mp h5, h3, List.append_nil]
              rfl
            · rw [if_neg h6]; exact Or.inl ⟨_, h6, rfl⟩
          · rw [if_neg h5]; exact Or.inl ⟨2, by decide, rfl⟩
        · rw [if_neg h4]; exact Or.inl ⟨_, h4, rfl⟩
      · rw [if_neg h3]; exact Or.inl ⟨2, by decide, rfl⟩
  · rw [if_neg h1]; exact Or.inl ⟨_, h1, rfl⟩
end Go.Proofs.Yteopkkoblbmggaa.P
end
section
set_option linter.unusedVariables false
set_option linter.unusedSimpArgs false
namespace Go.Proofs.Yteopkkoblbmggaa.P
open Go.RowKit Go.Proofs.YteopkkoblbmggaaW.PrintWords Go.Proofs.YteopkkoblbmggaaW.PrintLast Go.Proofs.YteopkkoblbmggaaW.PrintMore
theorem okN_of {n : Int} (h : okZ n) : okN n := by
  have e1 : IntKind.i64.min = -9223372036854775808 := rfl
  have e2 : IntKind.i64.max = 9223372036854775807 := rfl
  unfold okZ at h
  unfold okN
  simp only [Lit.wf, e1, e2, Bool.and_eq_true, decide_eq_true_eq]
  exact h
/-- The content that is opened lies within the bytes. -/
theorem open_in {b c : List Int} {n : Int} (h : openP b = (c, n, 0)) (hb : okB b) : okB c ∧ 0 < n ∧ n ≤ (b.length : Int) ∧ c.length ≤ b.length := by
  have hd := dec_k b
  unfold openP at h
  by_cases h1 : (dec b).2.2 = 0
  · rw [if_pos h1] at h
    by_cases h2 : (dec b).1 < 0
    · rw [if_pos h2] at h; simp at h
    rw [if_neg h2] at h
    by_cases h3 : 65536 < (dec b).1
    · rw [if_pos h3] at h; simp at h
    rw [if_neg h3] at h
    by_cases h4 : (b.length : Int) < (dec b).2.1 + 4 + (dec b).1
    · rw [if_pos h4] at h; simp at h
    rw [if_neg h4] at h
    split at h
    · simp only [Prod.mk.injEq] at h
      obtain ⟨rfl, rfl, _⟩ := h
      refine ⟨fun x hx => hb x (List.mem_of_mem_take (List.mem_of_mem_drop hx)), by omega, by omega, ?_⟩
      rw [List.length_drop, List.length_take]
      omega
    · simp at h
  · rw [if_neg h1] at h
    simp only [Prod.mk.injEq] at h
    exact absurd h.2.2 h1
theorem okB_drop' {b : List Int} (hb : okB b) (n : Nat) : okB (b.drop n) := fun x hx => hb x (List.mem_of_mem_drop hx)
theorem opens_true (k : Nat) (b : List Int) (hb : okB b) (hl : b.length ≤ 1000000) (hk : 10 * b.length + 100 ≤ k) : opens k b = true := by
  unfold opens
  rw [List.all_eq_true]
  intro i hi
  have hdl : (b.drop i).length ≤ b.length := by rw [List.length_drop]; omega
  unfold openOK
  rw [open_eq k (b.drop i) (okB_drop' hb i) (by omega) (by omega)]
  generalize ho : openP (b.drop i) = o
  obtain ⟨c, n, e⟩ := o
  dsimp only
  split
  · rename_i he
    subst he
    have := open_in ho (okB_drop' hb i)
    exact decide_eq_true ⟨this.2.1, this.2.2.1⟩
  · rfl
def allE (l : List S30) : Prop := ∀ e ∈ l, okE30 e
theorem addP_ok {d d' : Int} {l l' : List S30} {y : S30} (h : addP d l y = (d', l', 0)) (hl : allE l) (hy : okE30 y) : allE l' ∧ l'.length ≤ 512 ∧ d' = d := by
  unfold addP at h
  by_cases h1 : rchkP d l = 0
  · have h5 := (rchk_ord h1).2.1
    rw [if_pos h1] at h
    by_cases h2 : chk30 y = 0
    · rw [if_pos h2] at h
      split at h
      · split at h
        · simp only [Prod.mk.injEq] at h
          obtain ⟨rfl, rfl, _⟩ := h
          exact ⟨hl, h5, rfl⟩
        · simp at h
      · split at h
        · simp at h
        · split at h
          · simp at h
          · simp only [Prod.mk.injEq] at h
            obtain ⟨rfl, rfl, _⟩ := h
            refine ⟨fun e he => ?_, ?_, rfl⟩
            · rw [List.mem_append, List.mem_cons] at he
              rcases he with he | rfl | he
              · exact hl e (List.mem_of_mem_take he)
              · exact hy
              · exact hl e (List.mem_of_mem_drop he)
            · rw [List.length_append, List.length_cons, List.length_take, List.length_drop]
              omega
    · rw [if_neg h2] at h
      simp only [Prod.mk.injEq] at h
      exact absurd h.2.2 h2
  · rw [if_neg h1] at h
    simp only [Prod.mk.injEq] at h
    exact absurd h.2.2 h1
/-- What Recover comes to. -/
def rcvP (b : List Int) : Nat → Nat → Int → List S30 → Int × List S30 × Int
  | 0, a, d, l => (d, l, (a : Int))
  | j + 1, a, d, l => match openP (b.drop a) with
    | (c, n, e) => if e = 0 then (match takeP c with
      | (t1, t2, t3, t4, t5, t6, t7, t8, t9, t10, t11, t12, t13, t14) => if t14 = 0 then (match addP d l (mk30 t1 t2 t3 t4 t5 t6 t7 t8 t9 t10 t11 t12 t13) with
        | (d', l', f) => if f = 0 then rcvP b j (a + n.toNat) d' l' else (d, l, (a : Int))) else (d, l, (a : Int))) else (d, l, (a : Int))
theorem rcv_eq (b : List Int) (hb : okB b) (hbl : b.length ≤ 1000000) (k : Nat) (hk : 10 * b.length + 100 ≤ k) : ∀ (j a : Nat) (d : Int) (l : List S30), a ≤ b.length → b.length - a < j → allE l → rcv k b j (a : Int) d l = some (rcvP b j a d l) := by
  intro j
  induction j with
  | zero => intro a d l _ h _; omega
  | succ j ih =>
    intro a d l ha hj hl
    have hdl : (b.drop a).length ≤ b.length := by rw [List.length_drop]; omega
    have hbd := okB_drop' hb a
    unfold rcv rcvP
    rw [Int.toNat_natCast, open_eq k (b.drop a) hbd (by omega) (by omega), Option.bind_some]
    generalize ho : openP (b.drop a) = o
    obtain ⟨c, n, e⟩ := o
    dsimp only
    by_cases he : e = 0
    · subst he
      rw [if_pos rfl, if_pos rfl]
      obtain ⟨hc, hn0, hn1, hcl⟩ := open_in ho hbd
      rw [take_eq k c (by omega) hc (by omega), Option.bind_some]
      rcases take_inv c hc with ⟨f, hf, ht⟩ | ⟨a0, a1, a2, a3, a4, a5, a6, a7, a8, a9, a10, a11, a12, ht, hz, hok, _⟩
      · rw [ht]
        unfold errE
        dsimp only
        rw [if_neg hf, if_neg hf]
      · rw [ht]
        dsimp only
        rw [if_pos rfl, if_pos rfl]
        have hy : okE30 (mk30 a0 a1 a2 a3 a4 a5 a6 a7 a8 a9 a10 a11 a12) := ⟨okN_of hok.2.2.1, okN_of hok.2.2.2.1, okN_of hok.2.2.2.2.1⟩
        rw [show replica_Add.f d l a0 a1 a2 a3 a4 a5 a6 a7 a8 a9 a10 a11 a12 = some (addP d l (mk30 a0 a1 a2 a3 a4 a5 a6 a7 a8 a9 a10 a11 a12)) by unfold replica_Add.f; rw [if_pos ⟨hl, hy⟩], Option.bind_some]
        generalize hadd : addP d l (mk30 a0 a1 a2 a3 a4 a5 a6 a7 a8 a9 a10 a11 a12) = r
        obtain ⟨d', l', f⟩ := r
        dsimp only
        by_cases hf : f = 0
        · subst hf
          rw [if_pos rfl, if_pos rfl]
          obtain ⟨g1, g2, g3⟩ := addP_ok hadd hl hy
          rw [List.length_drop] at hn1
          have := ih (a + n.toNat) d' l' (by omega) (by omega) g1
          rw [← this]
          congr 1
          omega
        · rw [if_neg hf, if_neg hf]
    · rw [if_neg he, if_neg he]
/-- What both say. -/
def recP (d : Int) (b : List Int) : Int × List S30 × Int × Int :=
  if d < 1 ∨ 64 < d then (0, [], 0, 43) else ((rcvP b (b.length + 1) 0 d []).1, (rcvP b (b.length + 1) 0 d []).2.1, (rcvP b (b.length + 1) 0 d []).2.2, 0)
theorem rec_eq (k : Nat) (d : Int) (b : List Int) (hb : okB b) (hbl : b.length ≤ 1000000) (hk : 10 * b.length + 100 ≤ k) : journal_Recover.f k d b = some (recP d b) := by
  unfold journal_Recover.f recP
  by_cases h : d < 1 ∨ 64 < d
  · rw [if_pos h, if_pos h]
  · rw [if_neg h, if_neg h, if_pos ⟨opens_true k b hb hbl hk, hbl⟩]
    have := rcv_eq b hb hbl k hk (b.length + 1) 0 d [] (by omega) (by omega) (fun e he => by cases he)
    rw [show ((0 : Nat) : Int) = 0 from rfl] at this
    rw [this, Option.bind_some]
theorem val4_four (s : Int) (h0 : 0 ≤ s) (h1 : s < 4294967296) (r : List Int) : val4 (fourP s ++ r) = s := by
  show s % 256 + 256 * (s / 256 % 256) + 65536 * (s / 65536 % 256) + 16777216 * (s / 16777216 % 256) = s
  omega
theorem frame_dec (c rest : List Int) (hc : c.length ≤ 65536) : dec (frameB c ++ rest) = ((c.length : Int), ((enc (c.length : Int)).length : Int), 0) := by
  unfold frameB
  rw [List.append_assoc]
  exact dec_enc _ (okZ_len c hc) _
/-- A frame opens to its content. -/
theorem open_frame (c rest : List Int) (hc : c.length ≤ 65536) : openP (frameB c ++ rest) = (c, ((frameB c).length : Int), 0) := by
  have hl := frameB_len c
  have e1 : (frameB c ++ rest).take (enc (c.length : Int)).length = enc (c.length : Int) := by
    unfold frameB
    rw [List.append_assoc]
    exact List.take_left' rfl
  have e2 : (frameB c ++ rest).take ((enc (c.length : Int)).length + 4 + c.length) = frameB c := by
    rw [← hl]
    exact List.take_left' rfl
  have e3 : (frameB c).drop ((enc (c.length : Int)).length + 4) = c := by
    unfold frameB
    rw [← List.append_assoc]
    exact List.drop_left' (by simp [fourP])
  have e4 : val4 ((frameB c ++ rest).drop (enc (c.length : Int)).length) = crcE (crcE 0 (enc (c.length : Int))) c := by
    unfold frameB
    rw [List.append_assoc, List.drop_left' rfl, List.append_assoc]
    exact val4_four _ (crcE_range _ _).1 (crcE_range _ _).2 _
  unfold openP
  rw [frame_dec c rest hc]
  dsimp only
  rw [if_pos rfl, if_neg (by omega), if_neg (by omega), if_neg (by rw [List.length_append]; omega), Int.toNat_natCast, Int.toNat_natCast, e1, e2, e3, e4, if_pos rfl, hl]
  congr 1
/-- A frame that is cut does not open. -/
theorem open_cut (c : List Int) (hc : c.length ≤ 65536) (j : Nat) (hj : j < (frameB c).length) : openP ((frameB c).take j) = ([], 0, 13) := by
  have hl := frameB_len c
  rcases Nat.lt_or_ge j (enc (c.length : Int)).length with h1 | h1
  · have e : (frameB c).take j = (enc (c.length : Int)).take j := by
      unfold frameB
      rw [List.take_append_of_le_length (by omega)]
    unfold openP
    rw [e, dec_cut _ j h1]
    rfl
  · have e : (frameB c).take j = enc (c.length : Int) ++ (fourP (crcE (crcE 0 (enc (c.length : Int))) c) ++ c).take (j - (enc (c.length : Int)).length) := by
      unfold frameB
      rw [List.take_append, List.take_of_length_le h1]
    have hlen : ((frameB c).take j).length = j := by rw [List.length_take]; omega
    unfold openP
    rw [hlen, e, dec_enc _ (okZ_len c hc) _]
    dsimp only
    rw [if_pos rfl, if_neg (by omega), if_neg (by omega), if_pos (by omega)]
theorem open_nil : openP [] = ([], 0, 13) := by decide
/-! ### the replica's prefixes -/
theorem ord_pw : ∀ {l : List S30}, ord30 l = true → l.Pairwise (fun x y => less26 x.f0 y.f0 = true)
  | [], _ => List.Pairwise.nil
  | x :: t, h => List.Pairwise.cons (ord_tail h).2 (ord_pw (ord_tail h).1)
theorem pw_ord : ∀ {l : List S30}, l.Pairwise (fun x y => less26 x.f0 y.f0 = true) → ord30 l = true
  | [], _ => rfl
  | [x], _ => rfl
  | x :: y :: t, h => by
    rw [List.pairwise_cons] at h
    unfold ord30
    rw [Bool.and_eq_true]
    exact ⟨h.1 y (List.mem_cons_self), pw_ord h.2⟩
theorem chkL_of : ∀ {l : List S30}, (∀ x ∈ l, chk30 x = 0) → chkL30 l = 0
  | [], _ => rfl
  | x :: t, h => by
    unfold chkL30
    rw [if_pos (h x List.mem_cons_self)]
    exact chkL_of fun y hy => h y (List.mem_cons_of_mem _ hy)
theorem chk_less {y : S30} (h : chk30 y = 0) : lessP y.f0.f0 y.f0.f1 y.f2.f0 y.f2.f1 = false := by
  unfold chk30 chkE at h
  split at h
  · cases h
  · rename_i hn
    cases hh : lessP y.f0.f0 y.f0.f1 y.f2.f0 y.f2.f1
    · rfl
    · exact absurd (Or.inr (Or.inr hh)) hn
/-- A founder's stamp is no later than the stamp of what it founds. -/
theorem fnd_less {x y : S30} (h : fndB x y = true) (hc : chk30 y = 0) : less26 y.f0 x.f0 = false := by
  unfold fndB fndsE at h
  simp only [Bool.and_eq_true, Bool.not_eq_true', beq_iff_eq, decide_eq_true_eq] at h
  obtain ⟨⟨_, h1, h2⟩, _, h3, h4⟩ := h
  unfold less26
  rw [h1, h2, ← h3, ← h4]
  exact chk_less hc
theorem rchk_of {d : Int} {l : List S30} (hd : 1 ≤ d ∧ d ≤ 64) (hl : l.length ≤ 512) (hc : ∀ x ∈ l, chk30 x = 0) (ho : ord30 l = true) (hk : l.all (kno30 l) = true) : rchkP d l = 0 := by
  unfold rchkP
  rw [if_neg (by omega), if_neg (by omega), if_pos (chkL_of hc), if_pos ho, if_pos hk]
theorem rchk_take {d : Int} {l : List S30} (h : rchkP d l = 0) (i : Nat) : rchkP d (l.take i) = 0 := by
  obtain ⟨h1, h2, h3, h4, h5, h6⟩ := rchk_ord h
  have hc := chkL_all h3
  have hp := ord_pw h1
  refine rchk_of ⟨h5, h6⟩ (by rw [List.length_take]; omega) (fun x hx => hc x (List.mem_of_mem_take hx)) (pw_ord (hp.sublist (List.take_sublist i l))) ?_
  rw [List.all_eq_true] at h4 ⊢
  intro e he
  have hk := h4 e (List.mem_of_mem_take he)
  rw [kno_any, List.any_eq_true] at hk ⊢
  obtain ⟨f, hf, hfe⟩ := hk
  refine ⟨f, ?_, hfe⟩
  rw [← List.take_append_drop i l, List.mem_append] at hf
  rcases hf with hf | hf
  · exact hf
  · have hp' := hp
    rw [← List.take_append_drop i l, List.pairwise_append] at hp'
    have := hp'.2.2 e he f hf
    rw [fnd_less hfe (hc e (List.mem_of_mem_take he))] at this
    cases this
theorem plc_all (c d : Int) : ∀ l : List S30, (∀ x ∈ l, lessP x.f0.f0 x.f0.f1 c d = true) → plcP c d l = l.length
  | [], _ => rfl
  | x :: t, h => by
    unfold plcP
    rw [if_pos (h x List.mem_cons_self), plc_all c d t fun y hy => h y (List.mem_cons_of_mem _ hy), List.length_cons]
theorem take_succ' {α : Type} {l : List α} {i : Nat} (h : i < l.length) : l.take (i + 1) = l.take i ++ [l[i]] := by rw [List.take_add_one, List.getElem?_eq_getElem h]; rfl
/-- The next edit of a valid replica goes behind the earlier ones. -/
theorem add_next {d : Int} {l : List S30} (h : rchkP d l = 0) (i : Nat) (hi : i < l.length) : addP d (l.take i) l[i] = (d, l.take (i + 1), 0) := by
  obtain ⟨h1, h2, h3, h4, h5, h6⟩ := rchk_ord h
  have hc := chkL_all h3
  have hp := ord_pw h1
  have hlt : ∀ x ∈ l.take i, lessP x.f0.f0 x.f0.f1 l[i].f0.f0 l[i].f0.f1 = true := by
    intro x hx
    have hp' := hp
    rw [← List.take_append_drop i l, List.pairwise_append] at hp'
    exact hp'.2.2 x hx l[i] (by rw [List.drop_eq_getElem_cons hi]; exact List.mem_cons_self)
  have hpl := plc_all l[i].f0.f0 l[i].f0.f1 (l.take i) hlt
  have ht : thrP l[i].f0.f0 l[i].f0.f1 (l.take i) = false := by
    unfold thrP
    rw [hpl, List.getElem?_eq_none (Nat.le_refl _)]
  have hlen : (l.take i).length = i := by rw [List.length_take]; omega
  have hk : ¬ (fndsE l[i] = false ∧ kno30 (l.take i) l[i] = false) := by
    rintro ⟨hf, hk⟩
    rw [List.all_eq_true] at h4
    have hq := h4 l[i] (List.getElem_mem hi)
    rw [kno_any, List.any_eq_true] at hq
    obtain ⟨f, hfm, hfe⟩ := hq
    have hx : f ∈ l.take (i + 1) := by
      rw [← List.take_append_drop (i + 1) l, List.mem_append] at hfm
      rcases hfm with hfm | hfm
      · exact hfm
      · have hp' := hp
        rw [← List.take_append_drop (i + 1) l, List.pairwise_append] at hp'
        have := hp'.2.2 l[i] (by rw [take_succ' hi]; exact List.mem_append_right _ (List.mem_singleton.2 rfl)) f hfm
        rw [fnd_less hfe (hc _ (List.getElem_mem hi))] at this
        cases this
    rw [take_succ' hi, List.mem_append, List.mem_singleton] at hx
    rcases hx with hx | rfl
    · rw [kno_any, List.any_eq_false] at hk
      exact hk f hx hfe
    · rw [fndB_self, hf] at hfe
      cases hfe
  unfold addP
  rw [if_pos (rchk_take h i), if_pos (hc _ (List.getElem_mem hi)), ht, if_neg (by decide), if_neg hk, if_neg (by omega), hpl, take_succ' hi, List.take_of_length_le (Nat.le_refl _), List.drop_of_length_le (Nat.le_refl _)]
def conS (x : S30) : List Int := putB x.f0.f0 x.f0.f1 x.f1 x.f2.f0 x.f2.f1 x.f3 x.f4.f0 x.f4.f1 x.f4.f2 x.f4.f3 x.f4.f4 x.f4.f5 x.f4.f6
theorem frS_con (x : S30) : frS x = frameB (conS x) := rfl
theorem conS_len (x : S30) : (conS x).length ≤ 65536 := by
  have := frameB_len (conS x)
  have h2 := frS_len x
  rw [frS_con] at h2
  omega
/-- What reading a content of an edit says. -/
theorem take_con (x : S30) (hz : zS30 x) (hc : chk30 x = 0) : takeP (conS x) = (x.f0.f0, x.f0.f1, x.f1, x.f2.f0, x.f2.f1, x.f3, x.f4.f0, x.f4.f1, x.f4.f2, x.f4.f3, x.f4.f4, x.f4.f5, x.f4.f6, 0) := by
  have h := take_put x.f3 (zS_okE hz) hc []
  rw [List.append_nil] at h
  exact h
theorem rcvP_succ (b : List Int) (j a : Nat) (d : Int) (l : List S30) : rcvP b (j + 1) a d l = match openP (b.drop a) with
    | (c, n, e) => if e = 0 then (match takeP c with
      | (t1, t2, t3, t4, t5, t6, t7, t8, t9, t10, t11, t12, t13, t14) => if t14 = 0 then (match addP d l (mk30 t1 t2 t3 t4 t5 t6 t7 t8 t9 t10 t11 t12 t13) with
        | (d', l', f) => if f = 0 then rcvP b j (a + n.toNat) d' l' else (d, l, (a : Int))) else (d, l, (a : Int))) else (d, l, (a : Int)) := rfl
theorem rcv_step (b : List Int) (j a : Nat) (d : Int) (l : List S30) (x : S30) (rest : List Int) (hz : zS30 x) (hc : chk30 x = 0) (h : b.drop a = frS x ++ rest) :
    rcvP b (j + 1) a d l = if (addP d l x).2.2 = 0 then rcvP b j (a + (frS x).length) (addP d l x).1 (addP d l x).2.1 else (d, l, (a : Int)) := by
  rw [rcvP_succ, h, frS_con, open_frame _ _ (conS_len x)]
  dsimp only
  rw [if_pos rfl, take_con x hz hc]
  dsimp only
  rw [if_pos rfl, Int.toNat_natCast]
  rfl
theorem rcv_stop (b : List Int) (j a : Nat) (d : Int) (l : List S30) (h : (openP (b.drop a)).2.2 ≠ 0 ∨ (takeP (openP (b.drop a)).1).2.2.2.2.2.2.2.2.2.2.2.2.2 ≠ 0) : rcvP b j a d l = (d, l, (a : Int)) := by
  cases j with
  | zero => rfl
  | succ j =>
    rw [rcvP_succ]
    generalize openP (b.drop a) = o at *
    obtain ⟨c, n, e⟩ := o
    dsimp only at *
    rcases h with h | h
    · rw [if_neg h]
    · split <;> rfl
theorem rcv_nil (b : List Int) (j a : Nat) (d : Int) (l : List S30) (h : b.drop a = []) : rcvP b j a d l = (d, l, (a : Int)) :=
  rcv_stop b j a d l (.inl (by rw [h, open_nil]; decide))
/-- The frames of a valid replica are replayed one for one. -/
theorem rcv_replay (b : List Int) (d : Int) (l : List S30) (hv : rchkP d l = 0) (hz : ∀ x ∈ l, zS30 x) : ∀ (n i j a : Nat) (rest : List Int), i + n ≤ l.length → b.drop a = ((l.drop i).take n).flatMap frS ++ rest →
    rcvP b (j + n) a d (l.take i) = rcvP b j (a + (((l.drop i).take n).flatMap frS).length) d (l.take (i + n))
  | 0, i, j, a, rest, hi, h => by simp
  | n + 1, i, j, a, rest, hi, h => by
    have hi' : i < l.length := by omega
    have hc := chkL_all (rchk_ord hv).2.2.1
    rw [List.drop_eq_getElem_cons hi', List.take_succ_cons, List.flatMap_cons, List.append_assoc] at h
    rw [← Nat.add_assoc, rcv_step b (j + n) a d (l.take i) l[i] _ (hz _ (List.getElem_mem hi')) (hc _ (List.getElem_mem hi')) h, add_next hv i hi']
    dsimp only
    have h2 : b.drop (a + (frS l[i]).length) = ((l.drop (i + 1)).take n).flatMap frS ++ rest := by
      rw [← List.drop_drop, h, List.drop_left' rfl]
    rw [if_pos rfl, rcv_replay b d l hv hz n (i + 1) j (a + (frS l[i]).length) rest (by omega) h2, List.drop_eq_getElem_cons hi', List.take_succ_cons, List.flatMap_cons, List.length_append]
    congr 1
    · omega
    · congr 1; omega
theorem join_flat : ∀ (l : List S30) (i : Nat), joinP (fun _ => true) i l = l.flatMap frS
  | [], _ => rfl
  | x :: t, i => by
    unfold joinP
    rw [if_pos rfl, join_flat t (i + 1), List.flatMap_cons]
/-- Recover over the first m frames and what follows. -/
theorem rec_prefix (d : Int) (l : List S30) (hv : rchkP d l = 0) (hz : ∀ x ∈ l, zS30 x) (m : Nat) (hm : m ≤ l.length) (rest : List Int) :
    recP d ((l.take m).flatMap frS ++ rest) = ((rcvP ((l.take m).flatMap frS ++ rest) (((l.take m).flatMap frS ++ rest).length + 1 - m) ((l.take m).flatMap frS).length d (l.take m)).1, (rcvP ((l.take m).flatMap frS ++ rest) (((l.take m).flatMap frS ++ rest).length + 1 - m) ((l.take m).flatMap frS).length d (l.take m)).2.1, (rcvP ((l.take m).flatMap frS ++ rest) (((l.take m).flatMap frS ++ rest).length + 1 - m) ((l.take m).flatMap frS).length d (l.take m)).2.2, 0) := by
  have hlen : m ≤ ((l.take m).flatMap frS).length := by
    have : ∀ t : List S30, t.length ≤ (t.flatMap frS).length := by
      intro t
      induction t with
      | nil => simp
      | cons x t ih =>
        rw [List.flatMap_cons, List.length_append, List.length_cons]
        have := frameB_len (conS x)
        rw [← frS_con] at this
        omega
    have := this (l.take m)
    rw [List.length_take] at this
    omega
  have h := rcv_replay ((l.take m).flatMap frS ++ rest) d l hv hz m 0 (((l.take m).flatMap frS ++ rest).length + 1 - m) 0 rest (by omega) (by rw [List.drop_zero, List.drop_zero])
  rw [Nat.sub_add_cancel (by rw [List.length_append]; omega), List.take_zero, List.drop_zero, Nat.zero_add, Nat.zero_add] at h
  unfold recP
  have hd := (rchk_ord hv).2.2.2.2
  rw [if_neg (by omega), h]
theorem frS_ok {x : S30} (hz : zS30 x) : okB (frS x) := by
  intro v hv
  rw [frS_con] at hv
  unfold frameB at hv
  rw [List.mem_append, List.mem_append] at hv
  rcases hv with hv | hv | hv
  · exact enc_ok _ (okZ_len _ (conS_len x)) v hv
  · exact fourP_ok _ v hv
  · exact putB_ok x.f3 (zS_okE hz) v hv
theorem flat_ok {l : List S30} (hz : ∀ x ∈ l, zS30 x) : okB (l.flatMap frS) := by
  intro v hv
  rw [List.mem_flatMap] at hv
  obtain ⟨x, hx, hv⟩ := hv
  exact frS_ok (hz x hx) v hv
theorem flat_len : ∀ l : List S30, l.length ≤ (l.flatMap frS).length ∧ (l.flatMap frS).length ≤ 150 * l.length
  | [] => by simp
  | x :: t => by
    rw [List.flatMap_cons, List.length_append, List.length_cons]
    have := frameB_len (conS x)
    rw [← frS_con] at this
    have := frS_len x
    have := flat_len t
    omega
/-- Recover over a whole journal and one frame more. -/
theorem rec_one (d : Int) (l : List S30) (hv : rchkP d l = 0) (hz : ∀ x ∈ l, zS30 x) (x : S30) (hx : zS30 x) (hc : chk30 x = 0) :
    recP d (l.flatMap frS ++ frS x) = if (addP d l x).2.2 = 0 then (d, (addP d l x).2.1, ((l.flatMap frS ++ frS x).length : Int), 0) else (d, l, ((l.flatMap frS).length : Int), 0) := by
  have h := rec_prefix d l hv hz l.length (Nat.le_refl _) (frS x)
  rw [List.take_of_length_le (Nat.le_refl _)] at h
  obtain ⟨j, hj⟩ : ∃ j, (l.flatMap frS ++ frS x).length + 1 - l.length = j + 1 := ⟨(l.flatMap frS ++ frS x).length - l.length, by have := flat_len l; rw [List.length_append]; omega⟩
  rw [h, hj, rcv_step _ j _ d l x [] hx hc (by rw [List.drop_left' rfl, List.append_nil])]
  split
  · rename_i h0
    have hd : (addP d l x).1 = d := by
      have : addP d l x = ((addP d l x).1, (addP d l x).2.1, 0) := by rw [← h0]
      exact (addP_ok this (fun e he => zS_okE30 (hz e he)) (zS_okE30 hx)).2.2
    rw [rcv_nil _ _ _ _ _ (by rw [← List.length_append]; exact List.drop_of_length_le (Nat.le_refl _)), hd, List.length_append]
  · rfl
end Go.Proofs.Yteopkkoblbmggaa.P
end
