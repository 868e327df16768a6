/- repeats.sections: it passes each section, in order, to the function that it is given; no condition. -/
import Derived.Deep.Light
import Derived.Sort.Walk0
import Derived.Shelf.Abstract
import Derived.Test.YtdilndbanhianaaVMA
set_option linter.unusedVariables false
set_option linter.unusedSimpArgs false
namespace Go.Proofs.Ytdilndbanhianaa.P
open Go.RowKit Go.Proofs.YtdilndbanhianaaW.PrintWords Go.Proofs.YtdilndbanhianaaW.PrintLast Go.Proofs.YtdilndbanhianaaW.PrintMore
/-- Where the written ticks stand behind the first k repetitions. -/
def atR (r : List S61) : Nat → Int
  | 0 => 0
  | k + 1 => if h : k < r.length then r[k].f0.f1 else atR r k
/-- The sections of the first k repetitions. -/
def secR (r : List S61) : Nat → List (S45 × Int)
  | 0 => []
  | k + 1 => if h : k < r.length then secR r k ++ ((if atR r k < r[k].f0.f0 then [(⟨atR r k, r[k].f0.f0⟩, 1)] else []) ++ [(r[k].f0, r[k].f1)]) else secR r k
/-- All sections. -/
def secsP (n : Int) (r : List S61) : List (S45 × Int) := secR r r.length ++ (if atR r r.length < n then [(⟨atR r r.length, n⟩, 1)] else [])
theorem secR_step (r : List S61) (k : Nat) (h : k < r.length) : secR r (k + 1) = secR r k ++ ((if atR r k < r[k].f0.f0 then [(⟨atR r k, r[k].f0.f0⟩, 1)] else []) ++ [(r[k].f0, r[k].f1)]) := by simp only [secR, dif_pos h]
theorem atR_step (r : List S61) (k : Nat) (h : k < r.length) : atR r (k + 1) = r[k].f0.f1 := by simp only [atR, dif_pos h]
theorem secR_pre (r : List S61) (k : Nat) : ∀ m, k ≤ m → ∃ rest, secR r m = secR r k ++ rest := by
  intro m hm
  induction m with
  | zero => exact ⟨[], by rw [show k = 0 by omega]; simp⟩
  | succ m ih =>
    by_cases e : k = m + 1
    · exact ⟨[], by rw [e]; simp⟩
    · obtain ⟨rest, h⟩ := ih (by omega)
      by_cases hl : m < r.length
      · rw [secR_step r m hl, h, List.append_assoc]; exact ⟨_, rfl⟩
      · refine ⟨rest, ?_⟩; simp only [secR, dif_neg hl]; exact h
theorem secsP_pre (n : Int) (r : List S61) (k : Nat) (h : k ≤ r.length) : ∃ rest, secsP n r = secR r k ++ rest := by
  obtain ⟨rest, e⟩ := secR_pre r k r.length h
  unfold secsP
  rw [e, List.append_assoc]; exact ⟨_, rfl⟩
theorem rd61_at {xs : List S61} {i : Nat} (h : i < xs.length) : rd_T61 xs (i : Int) = xs[i] := by
  unfold rd_T61; rw [Int.toNat_natCast, List.getD_eq_getElem?_getD, List.getElem?_eq_getElem h, Option.getD_some]
set_option maxHeartbeats 4000000 in
set_option maxRecDepth 100000 in
/-- The function keeps what J says; what it writes of older blocks is in O. -/
theorem sections_walk (gf : FuncId) (eg : ∀ args w, (callFunc gf args).run Try.prog w = .ok (.enter gf args) w) (cb : Array Value) (n : Int) (r : List S61) (A0 : Option Addr) (c0 : Nat) (w : World) (hlen : r.length ≤ 16)
    (J : List (S45 × Int) → World → Prop) (O : List (S45 × Int) → World → Nat → Prop) (hJb : ∀ q W W', J q W → Below W.heap.size W W' → J q W') (hJr : ∀ q W, J q W → Kd.C k61 W A0 r.length r)
    (hO0 : ∀ q W W' k, J q W → Below W.heap.size W W' → O q W' k → O q W k) (hO1 : ∀ q W k, J q W → O q W k → k < W.heap.size)
    (hf : ∀ q x rest W, secsP n r = q ++ x :: rest → J q W → Calls Try.prog gf (#[.agg #[.int .i64 x.1.f0, .int .i64 x.1.f1], .int .i64 x.2] ++ cb) W fun e W' => e = .returned (.tuple #[]) ∧ J (q ++ [x]) W' ∧ Kept W W' (O q W) ∧ ∀ k, O (q ++ [x]) W' k → O q W k ∨ W.heap.size ≤ k)
    (h0 : J [] w) :
    Calls Try.prog 71 #[.int .i64 n, .slice A0 r.length c0, .func (.func gf) #[] cb] w fun e W' => e = .returned (.tuple #[]) ∧ J (secsP n r) W' ∧ Kept w W' (O [] w) := by
  have HF := Aside0.mk hf
  have HJ0 := Aside0.mk h0
  have HK0 : Aside0 (Kept w w (O [] w) ∧ ∀ k, O [] w k → O [] w k ∨ w.heap.size ≤ k) := ⟨Kept.refl w _, fun k h => .inl h⟩
  have HOB := Aside0.mk hO0
  have HOL := Aside0.mk hO1
  have HJB := Aside0.mk hJb
  have HJR := Aside0.mk hJr
  clear hf h0 hO0 hO1 hJb hJr
  go_enter Try.func71, Try.ntmps71
  go_wp2
  go_loopg [6, 11] r.length (fun kq v6 v11 W => ∃ (i : Nat), v6 = .int .i64 (atR r i) ∧ v11 = .int .i64 (i : Int) ∧ Aside0 (i + kq = r.length) ∧ Aside0 (J (secR r i) W) ∧ Aside0 (Kept w W (O [] w) ∧ ∀ k, O (secR r i) W k → O [] w k ∨ w.heap.size ≤ k))
  case atStart => exact ⟨0, rfl, rfl, ⟨by omega⟩, HJ0, HK0⟩
  case round =>
    clear HJ0 HK0
    obtain ⟨i, rfl, rfl, HK, HJ, HP⟩ := hrel
    cases gk with
    | zero =>
      have hi : i = r.length := by have := HK.out; omega
      have hlt : decide (i < r.length) = false := by simp; omega
      obtain ⟨t, ht⟩ : ∃ t, atR r i = t := ⟨_, rfl⟩
      have hsec : secsP n r = secR r i ++ (if t < n then [(⟨t, n⟩, 1)] else []) := by unfold secsP; rw [← hi, ht]
      rw [ht]
      clear hi ht
      by_cases p : t < n
      · have d : decide (t < n) = true := decide_eq_true p
        rw [if_pos p] at hsec
        have HC := Aside0.mk (HF.out (secR r i) (⟨t, n⟩, 1) [] wr hsec HJ.out)
        have HSEC := Aside0.mk hsec
        clear p hsec
        go_wp2_with (go_at_fn gf; refine HC.out.mono ?_; rintro e w5 ⟨rfl, hj, hk, ho⟩; have HJ5 := Aside0.mk hj; have HP5 := Aside0.mk hk; clear hj hk ho)
        go_end0
        exact ⟨rfl, by rw [HSEC.out]; exact HJ5.out, HP.out.1.then_ HP5.out HP.out.2⟩
      · have d : decide (t < n) = false := decide_eq_false p
        rw [if_neg p, List.append_nil] at hsec
        have HSEC := Aside0.mk hsec
        clear p hsec
        go_wp2
        go_end0
        exact ⟨rfl, by rw [HSEC.out]; exact HJ.out, HP.out.1⟩
    | succ k1 =>
      have hi : i < r.length := by have := HK.out; omega
      have hlt : decide (i < r.length) = true := by simp; exact hi
      obtain ⟨ad, e0, hx0, hx1, hx2⟩ := at_T61 (HJR.out _ _ HJ.out) (i : Int) (by omega) (by omega)
      cases e0
      rw [Int.toNat_natCast] at hx0 hx1 hx2
      rw [rd61_at hi] at hx0 hx1 hx2
      have q0 : (0 ≤ ((i : Nat) : Int)) = True := by simp
      have q1 : (((i : Nat) : Int) < (r.length : Int)) = True := by simp; exact hi
      have hst := secR_step r i hi
      have hat := atR_step r i hi
      obtain ⟨rest, hpre⟩ := secsP_pre n r (i + 1) (by omega)
      rw [hst] at hpre
      obtain ⟨t, ht⟩ : ∃ t, atR r i = t := ⟨_, rfl⟩
      rw [ht] at hst hpre ⊢
      generalize r[i]'hi = x at hx0 hx1 hx2 hst hat hpre
      have HI := Aside0.mk hi
      have HST := Aside0.mk hst
      have HAT := Aside0.mk hat
      have HPRE := Aside0.mk hpre
      clear hi hst hat hpre ht
      go_upto_region 4 with (fail)
      have hbl : Below wr.heap.size wr (wr.alloc (.cells #[.int .i64 x.f0.f0, .int .i64 x.f0.f1, .int .i64 x.f1] 61)) := below_alloc (Below.refl _ _) _
      have HJ1 := Aside0.mk (HJB.out _ _ _ HJ.out hbl)
      have HP1 : Aside0 (Kept w (wr.alloc (.cells #[.int .i64 x.f0.f0, .int .i64 x.f0.f1, .int .i64 x.f1] 61)) (O [] w) ∧ ∀ k, O (secR r i) (wr.alloc (.cells #[.int .i64 x.f0.f0, .int .i64 x.f0.f1, .int .i64 x.f1] 61)) k → O [] w k ∨ w.heap.size ≤ k) := ⟨HP.out.1.alloc _, fun k h => HP.out.2 k (HOB.out _ _ _ k HJ.out hbl h)⟩
      have B8 : Aside0 ((wr.alloc (.cells #[.int .i64 x.f0.f0, .int .i64 x.f0.f1, .int .i64 x.f1] 61)).heap[wr.heap.size]? = some (.cells #[.int .i64 x.f0.f0, .int .i64 x.f0.f1, .int .i64 x.f1] 61 (0, 0))) := ⟨blk_new _ _⟩
      have HNS : Aside0 (¬ O (secR r i) (wr.alloc (.cells #[.int .i64 x.f0.f0, .int .i64 x.f0.f1, .int .i64 x.f1] 61)) wr.heap.size) := ⟨fun h => Nat.lt_irrefl _ (HOL.out _ _ _ HJ.out (HOB.out _ _ _ _ HJ.out hbl h))⟩
      clear hx0 hx1 hx2 HJ HP hbl
      generalize (wr.alloc (.cells #[.int .i64 x.f0.f0, .int .i64 x.f0.f1, .int .i64 x.f1] 61)) = W1 at HJ1 HP1 B8 HNS ⊢
      generalize wr.heap.size = g8 at B8 HNS ⊢
      have hc8 := blk_cell B8.out
      by_cases p : t < x.f0.f0
      · have d : decide (t < x.f0.f0) = true := decide_eq_true p
        have hst := HST.out
        have hpre := HPRE.out
        rw [if_pos p] at hst hpre
        have HST2 := Aside0.mk hst
        have HC1 := Aside0.mk (HF.out (secR r i) (⟨t, x.f0.f0⟩, 1) ((x.f0, x.f1) :: rest) W1 (by rw [hpre]; simp) HJ1.out)
        have HC2 : Aside0 (∀ W, J (secR r i ++ [(⟨t, x.f0.f0⟩, 1)]) W → Calls Try.prog gf (#[.agg #[.int .i64 x.f0.f0, .int .i64 x.f0.f1], .int .i64 x.f1] ++ cb) W fun e W' => e = .returned (.tuple #[]) ∧ J (secR r i ++ [(⟨t, x.f0.f0⟩, 1)] ++ [(x.f0, x.f1)]) W' ∧ Kept W W' (O (secR r i ++ [(⟨t, x.f0.f0⟩, 1)]) W) ∧ ∀ k, O (secR r i ++ [(⟨t, x.f0.f0⟩, 1)] ++ [(x.f0, x.f1)]) W' k → O (secR r i ++ [(⟨t, x.f0.f0⟩, 1)]) W k ∨ W.heap.size ≤ k) := ⟨fun W hj => HF.out _ (x.f0, x.f1) rest W (by rw [hpre]; simp) hj⟩
        clear p hst hpre
        go_upto_region 6 with (go_at_fn gf; refine HC1.out.mono ?_; rintro e w5 ⟨rfl, hj, hk, ho⟩; have HJ5 := Aside0.mk hj; have HP5 : Aside0 (Kept w w5 (O [] w) ∧ ∀ k, O (secR r i ++ [(⟨t, x.f0.f0⟩, 1)]) w5 k → O [] w k ∨ w.heap.size ≤ k) := ⟨HP1.out.1.then_ hk HP1.out.2, fun k h => (ho k h).elim (HP1.out.2 k) (fun h => .inr (Nat.le_trans HP1.out.1.1 h))⟩; have HNS5 : Aside0 (¬ O (secR r i ++ [(⟨t, x.f0.f0⟩, 1)]) w5 g8) := ⟨fun h => (ho g8 h).elim HNS.out (fun h => by have := blk_lt B8.out; omega)⟩; have B85 := Aside0.mk (blk_kept B8.out hk HNS.out); clear hj hk ho)
        clear hc8
        have hc8 := blk_cell B85.out
        go_wp2_with (go_at_fn gf; refine (HC2.out _ HJ5.out).mono ?_; rintro e w6 ⟨rfl, hj, hk, ho⟩; have HJ6 := Aside0.mk hj; have HP6 : Aside0 (Kept w w6 (O [] w) ∧ ∀ k, O (secR r i ++ [(⟨t, x.f0.f0⟩, 1)] ++ [(x.f0, x.f1)]) w6 k → O [] w k ∨ w.heap.size ≤ k) := ⟨HP5.out.1.then_ hk HP5.out.2, fun k h => (ho k h).elim (HP5.out.2 k) (fun h => .inr (Nat.le_trans HP5.out.1.1 h))⟩; have B86 := Aside0.mk (blk_kept B85.out hk HNS5.out); clear hc8; have hc8 := blk_cell B86.out; clear hj hk ho)
        go_roundg k1
        case measure => have := HK.out; omega
        case rel => exact ⟨i + 1, by rw [HAT.out], by first | (simp; done) | (simp; have := HI.out; unfold wrap64; omega), ⟨by have := HK.out; omega⟩, ⟨by rw [HST2.out]; have := HJ6.out; rwa [List.append_assoc] at this⟩, ⟨by rw [HST2.out]; have := HP6.out; rwa [List.append_assoc] at this⟩⟩
      · have d : decide (t < x.f0.f0) = false := decide_eq_false p
        have hst := HST.out
        have hpre := HPRE.out
        rw [if_neg p, List.nil_append] at hst hpre
        have HST2 := Aside0.mk hst
        have HC1 := Aside0.mk (HF.out (secR r i) (x.f0, x.f1) rest W1 (by rw [hpre]; simp) HJ1.out)
        clear p hst hpre
        go_wp2_with (go_at_fn gf; refine HC1.out.mono ?_; rintro e w5 ⟨rfl, hj, hk, ho⟩; have HJ5 := Aside0.mk hj; have HP5 : Aside0 (Kept w w5 (O [] w) ∧ ∀ k, O (secR r i ++ [(x.f0, x.f1)]) w5 k → O [] w k ∨ w.heap.size ≤ k) := ⟨HP1.out.1.then_ hk HP1.out.2, fun k h => (ho k h).elim (HP1.out.2 k) (fun h => .inr (Nat.le_trans HP1.out.1.1 h))⟩; have B85 := Aside0.mk (blk_kept B8.out hk HNS.out); clear hc8; have hc8 := blk_cell B85.out; clear hj hk ho)
        go_roundg k1
        case measure => have := HK.out; omega
        case rel => exact ⟨i + 1, by rw [HAT.out], by first | (simp; done) | (simp; have := HI.out; unfold wrap64; omega), ⟨by have := HK.out; omega⟩, ⟨by rw [HST2.out]; exact HJ5.out⟩, ⟨by rw [HST2.out]; exact HP5.out⟩⟩
end Go.Proofs.Ytdilndbanhianaa.P
