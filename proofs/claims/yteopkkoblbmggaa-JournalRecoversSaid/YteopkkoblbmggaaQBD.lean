/- Texts of this claim in one: VEnc, VEditsP, VBytesP, VCrcP, VRWireP, VOpenP, VRSymP, VRPutP; no condition. -/
import Derived.Test.YteopkkoblbmggaaQAE
import Derived.Test.YteopkkoblbmggaaQBC
import Derived.Test.YteopkkoblbmggaaQAJ
import Derived.Test.YteopkkoblbmggaaQAO
import Derived.Lib.Bytes
import Derived.Test.YteopkkoblbmggaaQAH
import Derived.Test.YteopkkoblbmggaaQAX
import Derived.Test.YteopkkoblbmggaaQAY
import Derived.Test.YteopkkoblbmggaaQAL
import Derived.Test.YteopkkoblbmggaaQAR
import Derived.Test.YteopkkoblbmggaaQAS
import Derived.Test.YteopkkoblbmggaaQAG
section
set_option linter.unusedVariables false
set_option linter.unusedSimpArgs false
namespace Go.Proofs.Yteopkkoblbmggaa.P
open Go.RowKit Go.Proofs.YteopkkoblbmggaaW.PrintWords Go.Proofs.YteopkkoblbmggaaW.PrintLast Go.Proofs.YteopkkoblbmggaaW.PrintMore
theorem zz_uz (u : Int) (h0 : 0 ≤ u) : (zz (uz u) : Int) = u := by unfold uz zz; split <;> split <;> omega
theorem vs_uv : ∀ (b : List Int) (j : Nat), okB b → nb b ≠ 0 → nb b ≤ j + 1 → (1 < nb b → b.getD (nb b - 1) 0 ≠ 0) → b.take (nb b) = vs j (uv (b.take (nb b))).toNat
  | [], j, hb, h0, hj, hl => absurd rfl h0
  | x :: xs, j, hb, h0, hj, hl => by
    have hx := hb x (List.mem_cons_self)
    by_cases h : x < 128
    · have e : nb (x :: xs) = 1 := by simp [nb, h]
      rw [e]
      simp only [List.take_succ_cons, List.take_zero, uv]
      have e2 : (x % 128 + 128 * 0).toNat = x.toNat := by omega
      rw [e2]
      have e3 : ((x.toNat : Nat) : Int) = x := by omega
      cases j with
      | zero => simp [vs, e3]
      | succ j => simp only [vs]; rw [if_pos (by omega), e3]
    · by_cases h1 : nb xs = 0
      · exfalso; apply h0; simp [nb, h, h1]
      · have e : nb (x :: xs) = nb xs + 1 := by simp [nb, h, h1]
        rw [e] at hj hl ⊢
        obtain ⟨j, rfl⟩ : ∃ q, j = q + 1 := ⟨j - 1, by omega⟩
        obtain ⟨q, hq⟩ : ∃ q, nb xs = q + 1 := ⟨nb xs - 1, by omega⟩
        have hl' : xs.getD (nb xs - 1) 0 ≠ 0 := by
          have := hl (by omega)
          rw [Nat.add_sub_cancel, hq, List.getD_cons_succ] at this
          rw [hq]; exact this
        have ih := vs_uv xs j (fun y hy => hb y (List.mem_cons_of_mem _ hy)) h1 (by omega) (fun _ => hl')
        have hle := nb_le xs
        have hU := (Y1T (xs.take (nb xs))).1
        have hne : uv (xs.take (nb xs)) ≠ 0 := by
          intro c
          rw [c] at ih
          have e1 : vs j (0 : Int).toNat = [0] := by cases j <;> simp [vs]
          rw [e1] at ih
          have hlen : (xs.take (nb xs)).length = 1 := by rw [ih]; rfl
          rw [List.length_take] at hlen
          have hn1 : nb xs = 1 := by omega
          rw [hn1] at hl' ih
          cases xs with
          | nil => exact h1 rfl
          | cons y ys => simp at ih hl'; exact hl' ih
        simp only [List.take_succ_cons, uv, vs]
        rw [if_neg (by omega)]
        have e4 : (x % 128 + 128 * uv (xs.take (nb xs))).toNat / 128 = (uv (xs.take (nb xs))).toNat := by omega
        have e5 : (((x % 128 + 128 * uv (xs.take (nb xs))).toNat % 128 + 128 : Nat) : Int) = x := by omega
        rw [e4, e5, ← ih]
theorem Y6e (b : List Int) (hb : okB b) (n k : Int) (h : dec b = (n, k, 0)) : b = enc n ++ b.drop k.toNat ∧ okZ n ∧ k = ((enc n).length : Int) ∧ 0 ≤ k ∧ k ≤ b.length := by
  unfold dec at h
  by_cases h0 : nb b = 0
  · rw [if_pos h0] at h; simp at h
  · rw [if_neg h0] at h
    by_cases h1 : 10 < nb b ∨ nb b = 10 ∧ 1 < b.getD 9 0
    · rw [if_pos h1] at h; simp at h
    · rw [if_neg h1] at h
      by_cases h2 : 1 < nb b ∧ b.getD (nb b - 1) 0 = 0
      · rw [if_pos h2] at h; simp at h
      · rw [if_neg h2] at h
        simp only [Prod.mk.injEq, and_true] at h
        obtain ⟨rfl, rfl⟩ := h
        have hle := nb_le b
        have ht := vs_uv b 9 hb h0 (by omega) (fun c d => h2 ⟨c, d⟩)
        have hu0 := (Y1T (b.take (nb b))).1
        have hu1 := Y4e b (nb b) hle (by omega) hb (by intro c; omega)
        have e : zz (uz (uv (b.take (nb b)))) = (uv (b.take (nb b))).toNat := by have := zz_uz _ hu0; omega
        have e2 : enc (uz (uv (b.take (nb b)))) = b.take (nb b) := by rw [enc, e, ← ht]
        rw [e2]
        refine ⟨?_, ?_, ?_, by omega, by omega⟩
        · rw [Int.toNat_natCast, List.take_append_drop]
        · unfold okZ uz; split <;> omega
        · rw [List.length_take]; omega
def encs : List Int → List Int
  | [] => []
  | n :: l => enc n ++ encs l
def okZs (l : List Int) : Prop := ∀ n ∈ l, okZ n
def dks : Nat → List Int → List Int × List Int × Int
  | 0, l => ([], l, 0)
  | n + 1, l => if (dec l).2.2 = 0 then (if (dks n (l.drop (dec l).2.1.toNat)).2.2 = 0 then ((dec l).1 :: (dks n (l.drop (dec l).2.1.toNat)).1, (dks n (l.drop (dec l).2.1.toNat)).2.1, 0) else ([], [], (dks n (l.drop (dec l).2.1.toNat)).2.2)) else ([], [], (dec l).2.2)
theorem Y3j (b : List Int) (n : Nat) (h : okB b) : okB (b.drop n) := fun x hx => h x (List.mem_of_mem_drop hx)
theorem Y2y : ∀ n b l rest, okB b → dks n b = (l, rest, 0) → b = encs l ++ rest ∧ okZs l ∧ l.length = n
  | 0, b, l, rest, hb, h => by
    simp only [dks, Prod.mk.injEq, and_true] at h
    obtain ⟨rfl, rfl⟩ := h
    exact ⟨rfl, fun m hm => by simp at hm, rfl⟩
  | n + 1, b, l, rest, hb, h => by
    simp only [dks] at h
    by_cases h1 : (dec b).2.2 = 0
    · rw [if_pos h1] at h
      by_cases h2 : (dks n (b.drop (dec b).2.1.toNat)).2.2 = 0
      · rw [if_pos h2] at h
        simp only [Prod.mk.injEq, and_true] at h
        obtain ⟨rfl, rfl⟩ := h
        obtain ⟨e1, e2, e3⟩ := Y2y n (b.drop (dec b).2.1.toNat) _ _ (Y3j _ _ hb) (by rw [← h2])
        obtain ⟨d1, d2, d3, d4, d5⟩ := Y6e b hb (dec b).1 (dec b).2.1 (by rw [← h1])
        refine ⟨?_, ?_, ?_⟩
        · rw [encs, List.append_assoc, ← e1]; exact d1
        · intro m hm
          rcases List.mem_cons.mp hm with hm | hm
          · rw [hm]; exact d2
          · exact e2 m hm
        · rw [List.length_cons, e3]
      · rw [if_neg h2] at h
        simp only [Prod.mk.injEq] at h
        exact absurd h.2.2 h2
    · rw [if_neg h1] at h
      simp only [Prod.mk.injEq] at h
      exact absurd h.2.2 h1
theorem Y6f : ∀ n b, (dks n b).2.2 ≠ 0 → (dks n b).1 = [] ∧ (dks n b).2.1 = []
  | 0, b, h => absurd rfl h
  | n + 1, b, h => by
    simp only [dks] at h ⊢
    by_cases h1 : (dec b).2.2 = 0
    · rw [if_pos h1] at h ⊢
      by_cases h2 : (dks n (b.drop (dec b).2.1.toNat)).2.2 = 0
      · rw [if_pos h2] at h; exact absurd rfl h
      · rw [if_neg h2]; exact ⟨rfl, rfl⟩
    · rw [if_neg h1]; exact ⟨rfl, rfl⟩
theorem dec_k (b : List Int) : 0 ≤ (dec b).2.1 ∧ (dec b).2.1 ≤ b.length := by
  have := nb_le b
  unfold dec
  split
  · simp
  · split
    · simp
    · split
      · simp
      · simp; omega
def headN (a0 a1 a2 a3 a4 : Int) (a5 : Bool) : List Int := [a0, a1, a2, a3, a4, if a5 = true then 1 else 0]
def tailN (a5 : Bool) (a6 a7 a8 a9 a10 a11 a12 : Int) : List Int := if a5 = true then [] else [a6, a7, a8, a9, a10, a11, a12]
def putB (a0 a1 a2 a3 a4 : Int) (a5 : Bool) (a6 a7 a8 a9 a10 a11 a12 : Int) : List Int := encs (headN a0 a1 a2 a3 a4 a5) ++ encs (tailN a5 a6 a7 a8 a9 a10 a11 a12)
def okE (a0 a1 a2 a3 a4 : Int) (a6 a7 a8 a9 a10 a11 a12 : Int) : Prop := okZ a0 ∧ okZ a1 ∧ okZ a2 ∧ okZ a3 ∧ okZ a4 ∧ okZ a6 ∧ okZ a7 ∧ okZ a8 ∧ okZ a9 ∧ okZ a10 ∧ okZ a11 ∧ okZ a12
theorem Y5m (k : Nat) : ∀ (n : Nat) (b : List Int), b.length < 140737488355328 → okB b → b.length + 14 ≤ k → tks k n b = some (dks n b)
  | 0, b, _, _, _ => rfl
  | n + 1, b, hl, hb, hk => by
    have hd := dec_k b
    simp only [tks, dks, Y3a k b hl hb hk, Option.bind_some]
    by_cases h1 : (dec b).2.2 = 0
    · have hdl : (b.drop (dec b).2.1.toNat).length ≤ b.length := by rw [List.length_drop]; omega
      rw [if_pos h1, if_pos h1, if_pos hd.1, if_pos hd.2, Y5m k n _ (by omega) (Y3j _ _ hb) (by omega), Option.bind_some]
    · rw [if_neg h1, if_neg h1]
abbrev E14 := Int × Int × Int × Int × Int × Bool × Int × Int × Int × Int × Int × Int × Int × Int
def errE (e : Int) : E14 := (0, 0, 0, 0, 0, false, 0, 0, 0, 0, 0, 0, 0, e)
def endP (a0 a1 a2 a3 a4 : Int) (a5 : Bool) (a6 a7 a8 a9 a10 a11 a12 : Int) (rest : List Int) : E14 :=
  if rest.length = 0 then (if chkE a0 a1 a2 a3 a4 a5 a6 a7 a8 a9 a10 a11 a12 = 0 then (a0, a1, a2, a3, a4, a5, a6, a7, a8, a9, a10, a11, a12, 0) else errE (chkE a0 a1 a2 a3 a4 a5 a6 a7 a8 a9 a10 a11 a12)) else errE 2
theorem Y5V (j : Nat) (a0 a1 a2 a3 a4 : Int) (a5 : Bool) (a6 a7 a8 a9 a10 a11 a12 : Int) (rest : List Int) :
    Y1X (j + 4) a0 a1 a2 a3 a4 a5 a6 a7 a8 a9 a10 a11 a12 rest = some (endP a0 a1 a2 a3 a4 a5 a6 a7 a8 a9 a10 a11 a12 rest) := by
  unfold Y1X endP
  rw [Y3c, Option.bind_some]
  split
  · split <;> rfl
  · rfl
def takeP (b : List Int) : E14 :=
  if (dks 6 b).2.2 = 0 then
    (if (dks 6 b).1.getD 5 0 = 1 then endP ((dks 6 b).1.getD 0 0) ((dks 6 b).1.getD 1 0) ((dks 6 b).1.getD 2 0) ((dks 6 b).1.getD 3 0) ((dks 6 b).1.getD 4 0) true 0 0 0 0 0 0 0 (dks 6 b).2.1
    else if (dks 6 b).1.getD 5 0 = 0 then
      (if (dks 7 (dks 6 b).2.1).2.2 = 0 then endP ((dks 6 b).1.getD 0 0) ((dks 6 b).1.getD 1 0) ((dks 6 b).1.getD 2 0) ((dks 6 b).1.getD 3 0) ((dks 6 b).1.getD 4 0) false ((dks 7 (dks 6 b).2.1).1.getD 0 0) ((dks 7 (dks 6 b).2.1).1.getD 1 0) ((dks 7 (dks 6 b).2.1).1.getD 2 0) ((dks 7 (dks 6 b).2.1).1.getD 3 0) ((dks 7 (dks 6 b).2.1).1.getD 4 0) ((dks 7 (dks 6 b).2.1).1.getD 5 0) ((dks 7 (dks 6 b).2.1).1.getD 6 0) (dks 7 (dks 6 b).2.1).2.1
      else errE (dks 7 (dks 6 b).2.1).2.2)
    else errE 2)
  else errE (dks 6 b).2.2
theorem Y6A (k : Nat) (b : List Int) (hl : b.length < 140737488355328) (hb : okB b) (hk : b.length + 14 ≤ k) : Y1z.f k b = some (takeP b) := by
  have e1 := Y5m k 6 b hl hb hk
  obtain ⟨j, rfl⟩ : ∃ j, k = j + 4 := ⟨k - 4, by omega⟩
  unfold Y1z.f takeP
  rw [e1, Option.bind_some]
  by_cases h1 : (dks 6 b).2.2 = 0
  · obtain ⟨i1, i2, i3⟩ := Y2y 6 b (dks 6 b).1 (dks 6 b).2.1 hb (by rw [← h1])
    have hr : (dks 6 b).2.1.length ≤ b.length := by have := congrArg List.length i1; rw [List.length_append] at this; omega
    have hrb : okB (dks 6 b).2.1 := fun x hx => hb x (by rw [i1]; exact List.mem_append_right _ hx)
    have e2 := Y5m (j + 4) 7 (dks 6 b).2.1 (by omega) hrb (by omega)
    rw [if_pos h1, if_pos h1]
    split
    · rw [Y5V]
    · split
      · rw [e2, Option.bind_some]
        split
        · rw [Y5V]
        · rfl
      · rfl
  · rw [if_neg h1, if_neg h1]; rfl
end Go.Proofs.Yteopkkoblbmggaa.P
end
section
namespace Go.Proofs.Yteopkkoblbmggaa.P
open Go.RowKit Go.Proofs.YteopkkoblbmggaaW.PrintWords Go.Proofs.YteopkkoblbmggaaW.PrintLast Go.Proofs.YteopkkoblbmggaaW.PrintMore
theorem Y3v : ∀ a b : List Int, okB a → okB b → (a.map fun n => UInt8.ofNat n.toNat) = (b.map fun n => UInt8.ofNat n.toNat) → a = b
  | [], [], _, _, _ => rfl
  | [], _ :: _, _, _, h => by simp at h
  | _ :: _, [], _, _, h => by simp at h
  | x :: xs, y :: ys, ha, hb, h => by
    have hx := ha x List.mem_cons_self
    have hy := hb y List.mem_cons_self
    rw [List.map_cons, List.map_cons, List.cons.injEq] at h
    obtain ⟨h1, h2⟩ := h
    have e := congrArg UInt8.toNat h1
    simp only [UInt8.toNat_ofNat'] at e
    rw [Y3v xs ys (fun z hz => ha z (List.mem_cons_of_mem _ hz)) (fun z hz => hb z (List.mem_cons_of_mem _ hz)) h2]
    congr 1
    omega
theorem Y5r {a b : List Int} (ha : okB a) (hb : okB b) : ((strOfNums a).toList == (strOfNums b).toList) = decide (a = b) := by
  rw [Bool.eq_iff_iff, beq_iff_eq, decide_eq_true_eq]
  constructor
  · intro h
    rw [Go.Lib.strOfNums_toList, Go.Lib.strOfNums_toList] at h
    exact Y3v a b ha hb h
  · intro h; rw [h]
end Go.Proofs.Yteopkkoblbmggaa.P
end
section
set_option linter.unusedVariables false
set_option linter.unusedSimpArgs false
namespace Go.Proofs.Yteopkkoblbmggaa.P
open Go.RowKit Go.Proofs.YteopkkoblbmggaaW.PrintWords Go.Proofs.YteopkkoblbmggaaW.PrintLast Go.Proofs.YteopkkoblbmggaaW.PrintMore
def st1 (x : Int) : Int := if Go.bits .and .u32 x 1 = 1 then Go.bits .xor .u32 (x / 2) 2197175160 else x / 2
def stN : Nat → Int → Int
  | 0, x => x
  | n + 1, x => stN n (st1 x)
def crcL : Int → List Int → Int
  | r, [] => r
  | r, c :: t => crcL (stN 8 (Go.bits .xor .u32 r (c % 4294967296))) t
def crcE (s : Int) (b : List Int) : Int := Go.bits .xor .u32 4294967295 (crcL (Go.bits .xor .u32 4294967295 s) b)
theorem Y4i (s : Int) (b : List Int) : 0 ≤ crcE s b ∧ crcE s b < 4294967296 := by
  unfold crcE Go.bits
  rw [IntKind.wrap_u32]
  omega
theorem Y65 {b : List Int} {i : Nat} (h : i < b.length) : rd b (i : Int) = b[i] := by
  unfold rd; rw [Int.toNat_natCast, List.getD_eq_getElem?_getD, List.getElem?_eq_getElem h, Option.getD_some]
theorem Y4O (l : List Int) (n i : Int) : ∀ (m : Nat) (x j : Int) (k : Nat), 0 ≤ j → j + m = 8 → YB.l1 (k + m + 1) x l n i j = YB.l0 k (stN m x) l n (wrap64 (i + 1))
  | 0, x, j, k, h0, hj => by
    unfold YB.l1
    rw [if_neg (by omega)]
    rfl
  | m + 1, x, j, k, h0, hj => by
    rw [show k + (m + 1) + 1 = (k + m + 1) + 1 by omega]
    unfold YB.l1
    rw [if_pos (by omega), show wrap64 (j + 1) = j + 1 by unfold wrap64; omega]
    unfold stN st1
    by_cases h : Go.bits .and .u32 x 1 = 1
    · rw [if_pos h, if_pos h, Y4O l n i m _ _ _ (by omega) (by omega)]
    · rw [if_neg h, if_neg h, Y4O l n i m _ _ _ (by omega) (by omega)]
theorem Y5X (l : List Int) (hl : l.length < 140737488355328) : ∀ (m i k : Nat) (r : Int), l.length - i = m → i ≤ l.length → 10 * m + 1 ≤ k → YB.l0 k r l (l.length : Int) (i : Int) = some (Go.bits .xor .u32 4294967295 (crcL r (l.drop i)))
  | 0, i, k, r, hm, hi, hk => by
    obtain ⟨k, rfl⟩ : ∃ j, k = j + 1 := ⟨k - 1, by omega⟩
    unfold YB.l0
    rw [if_neg (by omega), List.drop_of_length_le (by omega)]
    rfl
  | m + 1, i, k, r, hm, hi, hk => by
    obtain ⟨k, rfl⟩ : ∃ j, k = (j + 8 + 1) + 1 := ⟨k - 10, by omega⟩
    have hlt : i < l.length := by omega
    unfold YB.l0
    rw [if_pos (by omega), if_pos (by omega), if_pos (by omega), Y4O l _ _ 8 _ 0 k (by omega) (by omega), show wrap64 ((i : Int) + 1) = ((i + 1 : Nat) : Int) by unfold wrap64; omega,
      Y5X l hl m (i + 1) k _ (by omega) (by omega) (by omega), List.drop_eq_getElem_cons hlt, Y65 hlt]
    rfl
theorem Y5W (k : Nat) (s : Int) (l : List Int) (hl : l.length < 140737488355328) (hk : 10 * l.length + 1 ≤ k) : YB.f k s l = some (crcE s l) := by
  unfold YB.f crcE
  have := Y5X l hl l.length 0 k (Go.bits .xor .u32 4294967295 s) (by omega) (by omega) hk
  rw [List.drop_zero] at this
  exact this
theorem Y6S (k : Nat) (l : List Int) (hl : l.length < 140737488355328) (hk : 10 * l.length + 1 ≤ k) : Y1A.f k l = some (crcE 0 l) := by
  unfold Y1A.f
  rw [Y5W k 0 l hl hk]
  rfl
theorem Y3V (l : List Int) (i : Int) : ∀ (m : Nat) (x j : Int) (k : Nat), 0 ≤ j → j + m = 8 → Yb.l1 (k + m + 1) l x i j = Yb.l0 k l (stN m x) (wrap64 (i + 1))
  | 0, x, j, k, h0, hj => by
    unfold Yb.l1
    rw [if_neg (by omega)]
    rfl
  | m + 1, x, j, k, h0, hj => by
    rw [show k + (m + 1) + 1 = (k + m + 1) + 1 by omega]
    unfold Yb.l1
    rw [if_pos (by omega), show wrap64 (j + 1) = j + 1 by unfold wrap64; omega]
    unfold stN st1
    by_cases h : Go.bits .and .u32 x 1 = 1
    · rw [if_pos h, if_pos h, Y3V l i m _ _ _ (by omega) (by omega)]
    · rw [if_neg h, if_neg h, Y3V l i m _ _ _ (by omega) (by omega)]
theorem Y5d (l : List Int) (hl : l.length < 140737488355328) : ∀ (m i k : Nat) (r : Int), l.length - i = m → i ≤ l.length → 10 * m + 1 ≤ k → Yb.l0 k l r (i : Int) = some (Go.bits .xor .u32 4294967295 (crcL r (l.drop i)))
  | 0, i, k, r, hm, hi, hk => by
    obtain ⟨k, rfl⟩ : ∃ j, k = j + 1 := ⟨k - 1, by omega⟩
    unfold Yb.l0
    rw [if_neg (by omega), List.drop_of_length_le (by omega)]
    rfl
  | m + 1, i, k, r, hm, hi, hk => by
    obtain ⟨k, rfl⟩ : ∃ j, k = (j + 8 + 1) + 1 := ⟨k - 10, by omega⟩
    have hlt : i < l.length := by omega
    unfold Yb.l0
    rw [if_pos (by omega), if_pos (by omega), Y3V l _ 8 _ 0 k (by omega) (by omega), show wrap64 ((i : Int) + 1) = ((i + 1 : Nat) : Int) by unfold wrap64; omega,
      Y5d l hl m (i + 1) k _ (by omega) (by omega) (by omega), List.drop_eq_getElem_cons hlt, Y65 hlt]
    rfl
theorem Y5c (k : Nat) (s : Int) (l : List Int) (hl : l.length < 140737488355328) (hk : 10 * l.length + 1 ≤ k) : Yb.f k s l = some (crcE s l) := by
  unfold Yb.f crcE
  have := Y5d l hl l.length 0 k (Go.bits .xor .u32 4294967295 s) (by omega) (by omega) hk
  rw [List.drop_zero] at this
  exact this
theorem Y6y (k : Nat) (l : List Int) (hl : l.length < 140737488355328) (hk : 10 * l.length + 1 ≤ k) : YT.f k l = some (crcE 0 l) := by
  unfold YT.f
  rw [Y5c k 0 l hl hk]
  rfl
def fourP (n : Int) : List Int := [n % 256, n / 256 % 256, n / 65536 % 256, n / 16777216 % 256]
theorem Y4D (x : Int) (h0 : 0 ≤ x) (h1 : x < 4294967296) : Go.bits .and .u32 x 255 = x % 256 := bits_mask .u32 32 (by decide) (fun n a b => by rw [IntKind.wrap_u32]; omega) 8 (by decide) x h0 h1
theorem Y6i (n : Int) (h0 : 0 ≤ n) (h1 : n < 4294967296) : Y17.f n = some (fourP n) := by
  unfold Y17.f fourP
  rw [Y4D n h0 h1, Y4D _ (by omega) (by omega), Y4D _ (by omega) (by omega)]
  simp
theorem Y4b : ∀ (m : Nat) (b : List Int) (i k : Nat), b.length - i = m → i ≤ b.length → m < k → b.length < 140737488355328 →
    Yr.l0 k b (i : Int) = some (if nb (b.drop i) = 0 then -1 else ((i + nb (b.drop i) : Nat) : Int) - 1)
  | 0, b, i, k, hm, hi, hk, hl => by
    obtain ⟨k, rfl⟩ : ∃ q, k = q + 1 := ⟨k - 1, by omega⟩
    simp only [Yr.l0]
    rw [if_neg (by omega), List.drop_eq_nil_of_le (by omega)]
    rfl
  | m + 1, b, i, k, hm, hi, hk, hl => by
    obtain ⟨k, rfl⟩ : ∃ q, k = q + 1 := ⟨k - 1, by omega⟩
    have hi' : i < b.length := by omega
    simp only [Yr.l0]
    have e : rd b (i : Int) = b[i] := by unfold rd; rw [Int.toNat_natCast, Y2p hi']
    rw [if_pos (by omega), if_pos (by omega), Y1R _ (by omega) (by omega), e, List.drop_eq_getElem_cons hi']
    by_cases h : b[i] < 128
    · have e2 : nb (b[i] :: b.drop (i + 1)) = 1 := by simp [nb, h]
      rw [e2, if_pos h, if_neg (by decide)]; congr 1; omega
    · rw [if_neg h, show ((i : Int) + 1) = ((i + 1 : Nat) : Int) by omega, Y4b m b (i + 1) k (by omega) (by omega) (by omega) hl]
      by_cases h0 : nb (b.drop (i + 1)) = 0
      · have e2 : nb (b[i] :: b.drop (i + 1)) = 0 := by simp [nb, h, h0]
        rw [e2, if_pos h0, if_pos rfl]
      · have e2 : nb (b[i] :: b.drop (i + 1)) = nb (b.drop (i + 1)) + 1 := by simp [nb, h, h0]
        rw [e2, if_neg h0, if_neg (by omega)]; congr 1; omega
theorem Y5n : ∀ (l : List Int) (i : Nat), uv (l.drop i) ≤ uv l
  | [], i => by simp
  | x :: xs, 0 => Int.le_refl _
  | x :: xs, i + 1 => by
    have h := Y5n xs i
    have h0 := (Y1T xs).1
    simp only [List.drop_succ_cons, uv]
    omega
theorem Y66 (b : List Int) (n : Nat) (hn : n ≤ b.length) (h10 : n ≤ 10) (hb : okB b) (h9 : n = 10 → b.getD 9 0 ≤ 1) : ∀ (m k : Nat), m ≤ n → m < k →
    Y7.l0 k b ((n : Int) - 1) (uv ((b.take n).drop m)) ((m : Int) - 1) = some (uz (uv (b.take n)), (n : Int), 0)
  | 0, k, hm, hk => by
    obtain ⟨k, rfl⟩ : ∃ q, k = q + 1 := ⟨k - 1, by omega⟩
    have h0 := (Y1T (b.take n)).1
    have h1 := Y4e b n hn h10 hb h9
    simp only [Y7.l0, List.drop_zero]
    have e1 : Int.tmod (uv (b.take n)) 2 = uv (b.take n) % 2 := Int.tmod_eq_emod_of_nonneg h0
    have e2 : Int.tdiv (uv (b.take n)) 2 = uv (b.take n) / 2 := Int.tdiv_eq_ediv_of_nonneg h0
    rw [if_neg (by omega), e1, e2, Y1K _ (by omega) (by omega), Y1R ((n : Int) - 1 + 1) (by omega) (by omega), Y1R (uv (b.take n) / 2) (by omega) (by omega), Y1R (-(uv (b.take n) / 2)) (by omega) (by omega), Y1R (-(uv (b.take n) / 2) - 1) (by omega) (by omega)]
    unfold uz
    rw [show (n : Int) - 1 + 1 = n by omega]
    split <;> rfl
  | m + 1, k, hm, hk => by
    obtain ⟨k, rfl⟩ : ∃ q, k = q + 1 := ⟨k - 1, by omega⟩
    have hm' : m < b.length := by omega
    have hlen : m < (b.take n).length := by rw [List.length_take]; omega
    have h1 := Y4e b n hn h10 hb h9
    have hd := Y5n (b.take n) m
    have hx := hb _ (List.getElem_mem hm')
    have e0 : (b.take n).drop m = b[m] :: (b.take n).drop (m + 1) := by
      rw [List.drop_eq_getElem_cons hlen]; simp
    have hu : uv ((b.take n).drop m) = b[m] % 128 + 128 * uv ((b.take n).drop (m + 1)) := by rw [e0]; rfl
    have h0 := (Y1T ((b.take n).drop (m + 1))).1
    simp only [Y7.l0]
    rw [show (((m + 1 : Nat) : Int) - 1) = (m : Int) by omega]
    have e : rd b (m : Int) = b[m] := by unfold rd; rw [Int.toNat_natCast, Y2p hm']
    have e1 : Int.tmod b[m] 128 = b[m] % 128 := Int.tmod_eq_emod_of_nonneg hx.1
    rw [if_pos (by omega), if_pos (by omega), if_pos (by omega), e, e1, Y1K (b[m] % 128) (by omega) (by omega), Y1K (_ * 128) (by omega) (by omega), Y1K _ (by omega) (by omega), Y1R _ (by omega) (by omega)]
    rw [show uv ((b.take n).drop (m + 1)) * 128 + b[m] % 128 = uv ((b.take n).drop m) by omega]
    exact Y66 b n hn h10 hb h9 m k (by omega) (by omega)
theorem Y2A (k : Nat) (b : List Int) (x : Bool) (hl : b.length < 140737488355328) (hb : okB b) (h0 : nb b ≠ 0) (hx : x = true ↔ (10 < nb b ∨ nb b = 10 ∧ 1 < b.getD 9 0)) : Y7.j0 (k + 14) b ((nb b : Int) - 1) x = some (dec b) := by
  have hle := nb_le b
  simp only [Y7.j0, Y7.j1]
  unfold dec
  rw [if_neg h0]
  by_cases h : 10 < nb b ∨ nb b = 10 ∧ 1 < b.getD 9 0
  · rw [if_pos (hx.mpr h), if_pos h]
  · rw [if_neg (fun c => h (hx.mp c)), if_neg h]
    have key : Y7.l0 (k + 12) b ((nb b : Int) - 1) 0 ((nb b : Int) - 1) = some (uz (uv (b.take (nb b))), (nb b : Int), 0) := by
      have := Y66 b (nb b) hle (by omega) hb (by omega) (nb b) (k + 12) (Nat.le_refl _) (by omega)
      rw [List.drop_eq_nil_of_le (by rw [List.length_take]; omega)] at this
      exact this
    by_cases h1 : 1 < nb b
    · rw [if_pos (by omega), if_pos (by omega), if_pos (by omega)]
      have e : rd b ((nb b : Int) - 1) = b.getD (nb b - 1) 0 := by unfold rd; congr 1; omega
      rw [e]
      by_cases h2 : b.getD (nb b - 1) 0 = 0
      · rw [if_pos (by simpa using h2), if_pos ⟨h1, h2⟩]
      · rw [if_neg (by simpa using h2), if_neg (fun c => h2 c.2), key]
    · rw [if_neg (by omega), if_neg (by decide), if_neg (fun c => h1 c.1)]
      exact key
theorem Y2O (k : Nat) (b : List Int) (hl : b.length < 140737488355328) (hb : okB b) (hk : b.length + 14 ≤ k) : Y7.f k b = some (dec b) := by
  have hle := nb_le b
  unfold Y7.f Yr.f
  have e := Y4b b.length b 0 k (by omega) (by omega) (by omega) hl
  rw [List.drop_zero] at e
  rw [show (0 : Int) = ((0 : Nat) : Int) from rfl, e]
  simp only [Option.bind_some]
  obtain ⟨k, rfl⟩ : ∃ q, k = q + 14 := ⟨k - 14, by omega⟩
  by_cases h0 : nb b = 0
  · rw [if_pos h0]
    simp [dec, h0]
  · rw [if_neg h0]
    simp only [Nat.zero_add]
    rw [if_neg (by omega)]
    by_cases h1 : 10 < nb b
    · rw [if_pos (by omega)]
      exact Y2A k b true hl hb h0 (by simp; omega)
    · rw [if_neg (by omega)]
      by_cases h2 : nb b = 10
      · rw [if_pos (by omega), if_pos (by omega)]
        exact Y2A k b _ hl hb h0 (by simp [rd]; omega)
      · rw [if_neg (by omega)]
        exact Y2A k b false hl hb h0 (by simp; omega)
theorem dks_s (m : Nat) (b : List Int) (h1 : (dec b).2.2 = 0) (h2 : (dks m (b.drop (dec b).2.1.toNat)).2.2 = 0) : dks (m + 1) b = ((dec b).1 :: (dks m (b.drop (dec b).2.1.toNat)).1, (dks m (b.drop (dec b).2.1.toNat)).2.1, 0) := by simp only [dks, h1, h2, if_true]
theorem dks_t (m : Nat) (b : List Int) (h1 : (dec b).2.2 = 0) (h2 : ¬ (dks m (b.drop (dec b).2.1.toNat)).2.2 = 0) : dks (m + 1) b = ([], [], (dks m (b.drop (dec b).2.1.toNat)).2.2) := by simp only [dks, h1, h2, if_true, if_false]
theorem dks_u (m : Nat) (b : List Int) (h1 : ¬ (dec b).2.2 = 0) : dks (m + 1) b = ([], [], (dec b).2.2) := by simp only [dks, h1, if_false]
theorem Y4c (N : Nat) (hN : N < 1000) : ∀ (m : Nat) (b acc : List Int) (k : Nat), acc.length + m = N → b.length < 140737488355328 → okB b → b.length + 16 + m ≤ k →
    Yn.l0 k b (N : Int) acc = some (if (dks m b).2.2 = 0 then (acc ++ (dks m b).1, (dks m b).2.1, 0) else ([], [], (dks m b).2.2))
  | 0, b, acc, k, ha, hl, hb, hk => by
    obtain ⟨k, rfl⟩ : ∃ q, k = q + 1 := ⟨k - 1, by omega⟩
    simp only [Yn.l0]
    rw [if_neg (by omega)]
    simp [dks]
  | m + 1, b, acc, k, ha, hl, hb, hk => by
    obtain ⟨k, rfl⟩ : ∃ q, k = q + 1 := ⟨k - 1, by omega⟩
    have hd := dec_k b
    simp only [Yn.l0]
    rw [if_pos (by omega), Y2O k b hl hb (by omega), Option.bind_some]
    by_cases h1 : (dec b).2.2 = 0
    · have hdl : (b.drop (dec b).2.1.toNat).length ≤ b.length := by rw [List.length_drop]; omega
      rw [if_pos h1, if_pos (by omega), if_pos hd.1, if_pos hd.2, Y4c N hN m _ _ k (by rw [List.length_append]; simp; omega) (by omega) (Y3j _ _ hb) (by omega)]
      by_cases h2 : (dks m (b.drop (dec b).2.1.toNat)).2.2 = 0
      · rw [if_pos h2, dks_s m b h1 h2, if_pos rfl, List.append_assoc]; rfl
      · rw [if_neg h2, dks_t m b h1 h2, if_neg h2]
    · rw [if_neg h1, dks_u m b h1, if_neg h1]
theorem Y5h (k : Nat) (N : Nat) (hN : N < 20) (b : List Int) (hl : b.length < 140737488355328) (hb : okB b) (hk : b.length + 40 ≤ k) : Yn.f k b (N : Int) = some (dks N b) := by
  unfold Yn.f
  rw [Y4c N (by omega) N b [] k (by simp) hl hb (by omega)]
  by_cases h : (dks N b).2.2 = 0
  · rw [if_pos h, List.nil_append, ← h]
  · obtain ⟨e1, e2⟩ := Y6f N b h
    rw [if_neg h]
    obtain ⟨x, y, z, hz⟩ : ∃ x y z, dks N b = (x, y, z) := ⟨_, _, _, rfl⟩
    rw [hz] at e1 e2 ⊢
    simp only at e1 e2
    rw [e1, e2]
def val4 : List Int → Int
  | b0 :: b1 :: b2 :: b3 :: _ => b0 + 256 * b1 + 65536 * b2 + 16777216 * b3
  | _ => -1
def openP (b : List Int) : List Int × Int × Int :=
  if (dec b).2.2 = 0 then
    if (dec b).1 < 0 then ([], 0, 2) else if 65536 < (dec b).1 then ([], 0, 3)
    else if (b.length : Int) < (dec b).2.1 + 4 + (dec b).1 then ([], 0, 13)
    else if crcE (crcE 0 (b.take (dec b).2.1.toNat)) ((b.take ((dec b).2.1.toNat + 4 + (dec b).1.toNat)).drop ((dec b).2.1.toNat + 4)) = val4 (b.drop (dec b).2.1.toNat)
      then ((b.take ((dec b).2.1.toNat + 4 + (dec b).1.toNat)).drop ((dec b).2.1.toNat + 4), (dec b).2.1 + 4 + (dec b).1, 0) else ([], 0, 14)
  else ([], 0, (dec b).2.2)
theorem or32 (i : Nat) (x y : Int) (hx₀ : 0 ≤ x) (hx : x % 2 ^ i = 0) (hx₁ : x < 2 ^ 32) (hy₀ : 0 ≤ y) (hy : y < 2 ^ i) (hy₁ : y < 2 ^ 32) : Go.bits .or .u32 y x = y + x := by
  have h : Go.bits .or .u32 y x = Go.bits .or .u32 x y := by
    simp only [Go.bits, BitVec.or_comm]
  rw [h, bits_join .u32 32 (by decide) (fun n a b => by rw [IntKind.wrap_u32]; omega) i x y hx₀ hx hx₁ hy₀ hy hy₁]
  omega
theorem Y3x {b : List Int} {k : Nat} (h : k + 4 ≤ b.length) : ∃ b0 b1 b2 b3 r, b.drop k = b0 :: b1 :: b2 :: b3 :: r := by
  have h1 : 4 ≤ (b.drop k).length := by rw [List.length_drop]; omega
  match hd : b.drop k, h1 with
  | b0 :: b1 :: b2 :: b3 :: r, _ => exact ⟨b0, b1, b2, b3, r, rfl⟩
  | [], h => simp at h
  | [_], h => simp at h
  | [_, _], h => simp at h
  | [_, _, _], h => simp at h
theorem Y6u {b : List Int} {k i : Nat} : rd b ((k : Int) + (i : Int)) = (b.drop k).getD i 0 := by
  unfold rd
  rw [show ((k : Int) + (i : Int)).toNat = k + i by omega, List.getD_eq_getElem?_getD, List.getD_eq_getElem?_getD, List.getElem?_drop]
theorem sh0 (x : Int) (h : 0 ≤ x ∧ x ≤ 255) : shl .u32 (x % 4294967296) 0 = x := by unfold shl; rw [IntKind.wrap_u32]; simp; omega
theorem sh8 (x : Int) (h : 0 ≤ x ∧ x ≤ 255) : shl .u32 (x % 4294967296) 8 = x * 256 := by unfold shl; rw [IntKind.wrap_u32, show (2 : Int) ^ min (8 : Int).toNat IntKind.u32.bits = 256 from rfl]; omega
theorem sh16 (x : Int) (h : 0 ≤ x ∧ x ≤ 255) : shl .u32 (x % 4294967296) 16 = x * 65536 := by unfold shl; rw [IntKind.wrap_u32, show (2 : Int) ^ min (16 : Int).toNat IntKind.u32.bits = 65536 from rfl]; omega
theorem sh24 (x : Int) (h : 0 ≤ x ∧ x ≤ 255) : shl .u32 (x % 4294967296) 24 = x * 16777216 := by unfold shl; rw [IntKind.wrap_u32, show (2 : Int) ^ min (24 : Int).toNat IntKind.u32.bits = 16777216 from rfl]; omega
theorem sum4 (b0 b1 b2 b3 : Int) (k0 : 0 ≤ b0 ∧ b0 ≤ 255) (k1 : 0 ≤ b1 ∧ b1 ≤ 255) (k2 : 0 ≤ b2 ∧ b2 ≤ 255) (k3 : 0 ≤ b3 ∧ b3 ≤ 255) :
    Go.bits .or .u32 (Go.bits .or .u32 (Go.bits .or .u32 (Go.bits .or .u32 0 (shl .u32 (b0 % 4294967296) 0)) (shl .u32 (b1 % 4294967296) 8)) (shl .u32 (b2 % 4294967296) 16)) (shl .u32 (b3 % 4294967296) 24) = b0 + 256 * b1 + 65536 * b2 + 16777216 * b3 := by
  rw [sh0 b0 k0, sh8 b1 k1, sh16 b2 k2, sh24 b3 k3]
  rw [or32 0 b0 0 (by omega) (by omega) (by omega) (by omega) (by omega) (by omega), or32 8 (b1 * 256) (0 + b0) (by omega) (by omega) (by omega) (by omega) (by omega) (by omega),
    or32 16 (b2 * 65536) (0 + b0 + b1 * 256) (by omega) (by omega) (by omega) (by omega) (by omega) (by omega), or32 24 (b3 * 16777216) (0 + b0 + b1 * 256 + b2 * 65536) (by omega) (by omega) (by omega) (by omega) (by omega) (by omega)]
  omega
theorem Y4Z (q : Nat) (b : List Int) (n k : Nat) (s : Int) (hn : n ≤ 65536) (hlen : k + 4 + n ≤ b.length) (hbl : b.length ≤ 1000000) (hq : 10 * b.length + 50 ≤ q) :
    YY.l0 (q + 1) b (n : Int) (k : Int) s 4 = some (if crcE (crcE 0 (b.take k)) ((b.take (k + 4 + n)).drop (k + 4)) = s then ((b.take (k + 4 + n)).drop (k + 4), (k : Int) + 4 + (n : Int), 0) else ([], 0, 14)) := by
  unfold YY.l0
  have w4 : wrap64 ((k : Int) + 4) = (k : Int) + 4 := by unfold wrap64; omega
  have w5 : wrap64 ((k : Int) + 4 + (n : Int)) = (k : Int) + 4 + (n : Int) := by unfold wrap64; omega
  rw [if_neg (by decide), w4, w5, if_pos (by omega), if_pos (by omega), if_pos (by omega), show ((k : Int) + 4 + (n : Int)).toNat = k + 4 + n by omega, show ((k : Int) + 4).toNat = k + 4 by omega, Int.toNat_natCast]
  have hcl : ((b.take (k + 4 + n)).drop (k + 4)).length ≤ b.length := by rw [List.length_drop, List.length_take]; omega
  have hcc : slices_Clone_byte_byte.f ((b.take (k + 4 + n)).drop (k + 4)) = some ((b.take (k + 4 + n)).drop (k + 4)) := by unfold slices_Clone_byte_byte.f; rw [if_pos (by omega)]
  have hct : (b.take k).length ≤ b.length := by rw [List.length_take]; omega
  rw [hcc, Option.bind_some, if_pos (by omega), if_pos (by omega), Y6S q _ (by omega) (by omega), Option.bind_some, Y5W q _ _ (by omega) (by omega), Option.bind_some]
  split <;> rfl
theorem Y2t (q : Nat) (b : List Int) (n s : Int) (k i : Nat) (hi : i < 4) (hlen : k + 4 ≤ b.length) (hbl : b.length ≤ 1000000) :
    YY.l0 (q + 1) b n (k : Int) s (i : Int) = YY.l0 q b n (k : Int) (Go.bits .or .u32 s (shl .u32 (((b.drop k).getD i 0) % 4294967296) ((8 * i : Nat) : Int))) ((i + 1 : Nat) : Int) := by
  have w0 : wrap64 ((k : Int) + (i : Int)) = (k : Int) + (i : Int) := by unfold wrap64; omega
  have w1 : wrap64 (8 * (i : Int)) = ((8 * i : Nat) : Int) := by unfold wrap64; omega
  have w2 : wrap64 ((i : Int) + 1) = ((i + 1 : Nat) : Int) := by unfold wrap64; omega
  rw [YY.l0, if_pos (by omega), w0, if_pos (by omega), if_pos (by omega), w1, if_pos (by omega), Y6u, w2]
theorem Y50 (q : Nat) (b : List Int) (n k : Nat) (hb : okB b) (hn : n ≤ 65536) (hlen : k + 4 + n ≤ b.length) (hbl : b.length ≤ 1000000) (hq : 10 * b.length + 50 ≤ q) :
    YY.l0 (q + 5) b (n : Int) (k : Int) 0 0 = some (if crcE (crcE 0 (b.take k)) ((b.take (k + 4 + n)).drop (k + 4)) = val4 (b.drop k) then ((b.take (k + 4 + n)).drop (k + 4), (k : Int) + 4 + (n : Int), 0) else ([], 0, 14)) := by
  have h4 : k + 4 ≤ b.length := by omega
  have e0 := Y2t (q + 4) b n 0 k 0 (by omega) h4 hbl
  have e1 := fun s => Y2t (q + 3) b n s k 1 (by omega) h4 hbl
  have e2 := fun s => Y2t (q + 2) b n s k 2 (by omega) h4 hbl
  have e3 := fun s => Y2t (q + 1) b n s k 3 (by omega) h4 hbl
  obtain ⟨b0, b1, b2, b3, r, hd⟩ := Y3x h4
  have hm : ∀ x ∈ b.drop k, 0 ≤ x ∧ x ≤ 255 := fun x hx => hb x (List.mem_of_mem_drop hx)
  rw [hd] at hm e0 e1 e2 e3 ⊢
  have hs := sum4 b0 b1 b2 b3 (hm b0 (by simp)) (hm b1 (by simp)) (hm b2 (by simp)) (hm b3 (by simp))
  have e4 := Y4Z q b n k (b0 + 256 * b1 + 65536 * b2 + 16777216 * b3) hn hlen hbl hq
  rw [← hs] at e4
  exact e0.trans ((e1 _).trans ((e2 _).trans ((e3 _).trans (e4.trans (by rw [hs]; rfl)))))
theorem Y4Y (k : Nat) (b : List Int) (hb : okB b) (hbl : b.length ≤ 1000000) (hk : 10 * b.length + 100 ≤ k) : YY.f k b = some (openP b) := by
  unfold YY.f openP
  rw [Y3a k b (by omega) hb (by omega), Option.bind_some]
  have hd := dec_k b
  generalize dec b = D at hd ⊢
  obtain ⟨v, m, e⟩ := D
  dsimp only at hd ⊢
  by_cases h1 : e = 0
  · rw [if_pos h1, if_pos h1]
    by_cases h2 : v < 0
    · rw [if_pos h2, if_pos h2]
    · rw [if_neg h2, if_neg h2]
      by_cases h3 : 65536 < v
      · simp only [if_pos h3, if_pos (show v > 65536 from h3)]
      · simp only [if_neg h3, if_neg (show ¬ v > 65536 from h3)]
        rw [show wrap64 ((b.length : Int) - m) = (b.length : Int) - m by unfold wrap64; omega, show wrap64 (4 + v) = 4 + v by unfold wrap64; omega]
        by_cases h4 : (b.length : Int) < m + 4 + v
        · rw [if_pos h4, if_pos (by omega)]
        · rw [if_neg h4, if_neg (by omega)]
          obtain ⟨n, rfl⟩ : ∃ n : Nat, v = n := ⟨v.toNat, by omega⟩
          obtain ⟨m, rfl⟩ : ∃ j : Nat, m = j := ⟨m.toNat, by omega⟩
          obtain ⟨q, rfl⟩ : ∃ q, k = q + 5 := ⟨k - 5, by omega⟩
          rw [Y50 q b n m hb (by omega) (by omega) hbl (by omega), Int.toNat_natCast, Int.toNat_natCast]
  · rw [if_neg h1, if_neg h1]
theorem Y5s (s : Int) : okB (fourP s) := by
  intro x hx
  simp [fourP] at hx
  rcases hx with h | h | h | h <;> rw [h] <;> omega
theorem Y5u (s : Int) (h0 : 0 ≤ s) (h1 : s < 4294967296) (b : List Int) (k : Nat) (h : k + 4 ≤ b.length) (hb : okB b) : decide (fourP s = (b.take (k + 4)).drop k) = decide (s = val4 (b.drop k)) := by
  obtain ⟨b0, b1, b2, b3, r, hd⟩ := Y3x h
  have hm : ∀ x ∈ b.drop k, 0 ≤ x ∧ x ≤ 255 := fun x hx => hb x (List.mem_of_mem_drop hx)
  have e : (b.take (k + 4)).drop k = [b0, b1, b2, b3] := by
    rw [List.drop_take, hd, show k + 4 - k = 4 by omega]
    rfl
  rw [hd] at hm
  have k0 := hm b0 (by simp)
  have k1 := hm b1 (by simp)
  have k2 := hm b2 (by simp)
  have k3 := hm b3 (by simp)
  rw [e, hd]
  have : (fourP s = [b0, b1, b2, b3]) ↔ (s = val4 (b0 :: b1 :: b2 :: b3 :: r)) := by
    unfold fourP val4
    simp only [List.cons.injEq, and_true]
    omega
  simp only [this]
theorem Y5J (k : Nat) (b : List Int) (hb : okB b) (hbl : b.length ≤ 1000000) (hk : 10 * b.length + 100 ≤ k) : Ym.f k b = some (openP b) := by
  unfold Ym.f openP
  rw [Y2O k b (by omega) hb (by omega), Option.bind_some]
  have hd := dec_k b
  generalize dec b = D at hd ⊢
  obtain ⟨v, m, e⟩ := D
  dsimp only at hd ⊢
  by_cases h1 : e = 0
  · rw [if_pos h1, if_pos h1]
    by_cases h2 : v < 0
    · rw [if_pos h2, if_pos h2]
    · rw [if_neg h2, if_neg h2]
      by_cases h3 : 65536 < v
      · simp only [if_pos h3, if_pos (show v > 65536 from h3)]
      · simp only [if_neg h3, if_neg (show ¬ v > 65536 from h3)]
        obtain ⟨n, rfl⟩ : ∃ n : Nat, v = n := ⟨v.toNat, by omega⟩
        obtain ⟨m, rfl⟩ : ∃ j : Nat, m = j := ⟨m.toNat, by omega⟩
        have w4 : wrap64 ((m : Int) + 4) = (m : Int) + 4 := by unfold wrap64; omega
        have w5 : wrap64 ((m : Int) + 4 + (n : Int)) = (m : Int) + 4 + (n : Int) := by unfold wrap64; omega
        rw [w4, w5]
        by_cases h4 : (b.length : Int) < (m : Int) + 4 + (n : Int)
        · rw [if_pos h4, if_pos h4]
        · have hcl : ((b.take (m + 4 + n)).drop (m + 4)).length ≤ b.length := by rw [List.length_drop, List.length_take]; omega
          have hr := Y4i (crcE 0 (b.take m)) ((b.take (m + 4 + n)).drop (m + 4))
          rw [if_neg h4, if_neg h4, if_pos (by omega), if_pos (by omega), Int.toNat_natCast, Y6y k _ (by rw [List.length_take]; omega) (by rw [List.length_take]; omega), Option.bind_some, if_pos (by omega), if_pos (by omega), if_pos (by omega),
            show ((m : Int) + 4 + (n : Int)).toNat = m + 4 + n by omega, show ((m : Int) + 4).toNat = m + 4 by omega, Y5c k _ _ (by omega) (by omega), Option.bind_some, Y6i _ hr.1 hr.2, Option.bind_some, if_pos (by omega), if_pos (by omega)]
          unfold Y1c.f
          rw [Option.bind_some, Y5r (Y5s _) (fun x hx => hb x (List.mem_of_mem_take (List.mem_of_mem_drop hx))), Y5u _ hr.1 hr.2 b m (by omega) hb, Int.toNat_natCast]
          by_cases h5 : crcE (crcE 0 (b.take m)) ((b.take (m + 4 + n)).drop (m + 4)) = val4 (b.drop m)
          · rw [if_pos h5, if_pos (decide_eq_true h5), if_pos (by simp only [List.length_nil]; omega), List.nil_append]
          · rw [if_neg h5, if_neg (by simpa using h5)]
  · rw [if_neg h1, if_neg h1]
theorem Y4J (j : Nat) (k c : Int) (h : ¬ (k < 1 ∨ 4 < k)) : Yp.f (j + 1) k c = some (decide (colP k c)) := by
  unfold Yp.f Yp.j0 colP
  grind
theorem Y38 (j : Nat) (x : Bool) (k c b l d v m : Int) (h1 : ¬ (k < 1 ∨ 4 < k)) (hc : 0 ≤ c ∧ c ≤ 8) : Ya.j1 (j + 2) x k c b l d v m = some (if x = true then 1 else sayC k c d v m) := by
  simp only [Ya.j1, sayC]
  rw [Y3t (c - 2) (by omega) (by omega)]
  cases x with
  | true => simp
  | false =>
    simp only [if_neg (show ¬ (false = true) by decide)]
    by_cases k1 : k = 1
    · rw [if_pos k1, if_pos k1]
      have e : YZ.f d v = some (if 0 ≤ d ∧ d ≤ 8 ∧ -1 ≤ v ∧ v ≤ 1 then 0 else 1) := Y10.dcheck_eq d v
      rw [e, Option.bind_some]
      by_cases h : 0 ≤ d ∧ d ≤ 8 ∧ -1 ≤ v ∧ v ≤ 1
      · rw [if_pos h, if_pos h, if_pos rfl]; split <;> rfl
      · rw [if_neg h, if_neg h, if_neg (by decide)]
    · rw [if_neg k1, if_neg k1]
      by_cases k3 : k = 3
      · rw [if_pos k3, if_neg (by omega), if_pos k3]
        simp only [Y10.f, Option.bind_some]
      · rw [if_neg k3, if_neg k3]
        simp only [Ya.j2]
        by_cases k2 : k = 2
        · by_cases h : d = 0 <;> by_cases h' : v = 0 <;> by_cases h'' : m = 0 <;> simp [h, h', h'', k2]
        · have k4 : k = 4 := by omega
          by_cases h : d = 0 <;> by_cases h' : v = 0 <;> simp [k4, h, h']
          by_cases a : m < -16 <;> by_cases a' : 16 < m <;> by_cases a'' : m = 0 <;> simp [a, a', a'']
theorem Y4t (j : Nat) (x : Bool) (k c b l d v m : Int) (hx : x = false) (h1 : ¬ (k < 1 ∨ 4 < k)) : Ya.j0 (j + 3) x k c b l d v m = some (chkP k c b l d v m) := by
  subst hx
  simp only [Ya.j0, chkP, if_neg h1]
  rw [Y4J (j + 1) k c h1, if_neg (by decide)]
  simp only [Option.bind_some, decide_eq_true_eq]
  by_cases h2 : colP k c
  · have hc : 0 ≤ c ∧ c ≤ 8 := by unfold colP at h2; grind
    rw [if_pos h2, if_neg (not_not_intro h2), Y38 j _ k c b l d v m h1 hc, Y38 j _ k c b l d v m h1 hc]
    by_cases h3 : b < 0 ∨ 8191 < b
    · rw [if_pos (by omega : b < 0 ∨ 8191 < b ∨ l < 1 ∨ 8192 - b < l)]
      rcases h3 with h3 | h3
      · rw [if_pos h3]; rfl
      · rw [if_neg (by omega), if_pos (by omega)]; rfl
    · rw [Y3t (8192 - b) (by omega) (by omega), if_neg (by omega), if_neg (by omega)]
      by_cases h4 : l < 1 ∨ 8192 - b < l
      · rw [if_pos (by omega : b < 0 ∨ 8191 < b ∨ l < 1 ∨ 8192 - b < l)]
        rcases h4 with h4 | h4
        · rw [if_pos h4]; rfl
        · by_cases h5 : l < 1
          · rw [if_pos h5]; rfl
          · rw [if_neg h5, if_pos (by simpa using h4)]
      · rw [if_neg (by omega), if_neg (by simp; omega), if_neg (by omega : ¬ (b < 0 ∨ 8191 < b ∨ l < 1 ∨ 8192 - b < l))]
  · rw [if_neg h2, if_pos h2]
theorem Y3T (j : Nat) (k c b l d v m : Int) : Ya.f (j + 3) k c b l d v m = some (chkP k c b l d v m) := by
  unfold Ya.f
  by_cases h1 : k < 1 ∨ 4 < k
  · have e : chkP k c b l d v m = 9 := by rw [chkP, if_pos h1]
    rw [e]
    rcases h1 with h1 | h1
    · rw [if_pos h1]; simp [Ya.j0]
    · rw [if_neg (by omega)]; simp [Ya.j0, h1]
  · rw [if_neg (by omega)]
    exact Y4t j _ k c b l d v m (by simp; omega) h1
theorem Y4u (c d : Int) : YM.f c d = some (valP c d) := by
  unfold YM.f valP
  by_cases h1 : 1 ≤ c <;> by_cases h2 : c ≤ 1000000 <;> by_cases h3 : 1 ≤ d <;> by_cases h4 : d ≤ 64 <;> simp [h1, h2, h3, h4, GE.ge]
theorem Y3m (a b c d : Int) : YL.f a b c d = some (lessP a b c d) := by
  unfold YL.f lessP
  by_cases h2 : a = c
  · simp [h2]
  · simp [h2]
theorem Y6t (j : Nat) (x : Bool) (a0 a1 a2 a3 a4 : Int) (a5 : Bool) (a6 a7 a8 a9 a10 a11 a12 : Int) :
    Y9.j0 (j + 5) x a0 a1 a2 a3 a4 a5 a6 a7 a8 a9 a10 a11 a12 = some (if x = true then 43 else if a2 < 0 ∨ 12 ≤ a2 then 33
      else if a5 = true then (if a6 = 0 ∧ a7 = 0 ∧ a8 = 0 ∧ a9 = 0 ∧ a10 = 0 ∧ a11 = 0 ∧ a12 = 0 then 0 else 2) else chkP a6 a7 a8 a9 a10 a11 a12) := by
  have e := Y5T (j + 1) x a0 a1 a2 a3 a4 a5 a6 a7 a8 a9 a10 a11 a12
  rw [← e]
  simp only [Y9.j0, Y9.j1, Yz.j0, Yz.j1, Y2S, Y3T]
theorem Y2M (j : Nat) (a0 a1 a2 a3 a4 : Int) (a5 : Bool) (a6 a7 a8 a9 a10 a11 a12 : Int) :
    Y9.f (j + 5) a0 a1 a2 a3 a4 a5 a6 a7 a8 a9 a10 a11 a12 = some (chkE a0 a1 a2 a3 a4 a5 a6 a7 a8 a9 a10 a11 a12) := by
  unfold Y9.f chkE
  simp only [Y4u, Y3m, Option.bind_some, Y6t]
  cases h1 : valP a0 a1 <;> cases h2 : valP a3 a4 <;> cases h3 : lessP a0 a1 a3 a4 <;> simp
end Go.Proofs.Yteopkkoblbmggaa.P
end
