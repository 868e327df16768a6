/- Texts of this seat in one: SCheck, Moved, Place, TakS, Cut, P15; no condition. -/
import Derived.Test.YtdilndbanhianaaUReg
import Derived.Deep.Light
import Derived.WalkMore
import Derived.Test.YtdilndbanhianaaUMB
import Derived.Sort.Walk0
import Derived.Shelf.Abstract
import Derived.Test.YtdilndbanhianaaUMA
section
set_option linter.unusedVariables false
set_option linter.unusedSimpArgs false
namespace Go.Proofs.Ytdilndbanhianaa.P
open Go.RowKit Go.Proofs.YtdilndbanhianaaW.PrintWords Go.Proofs.YtdilndbanhianaaW.PrintLast Go.Proofs.YtdilndbanhianaaW.PrintMore
def staff_Check.f (l0 : List S29) (a1 : Int) : Option Int := some (chkS l0 a1)
set_option maxHeartbeats 4000000 in
set_option maxRecDepth 100000 in
theorem staff_Check.calls (A0 : Option Addr) (c0 : Nat) (l0 : List S29) (a1 : Int) (r : Int) (w : World) (hr0 : Kd.C k29 w A0 l0.length l0) (hc0 : l0.length ≤ c0) (h : staff_Check.f l0 a1 = some r) :
  Calls Try.prog 20 #[.slice A0 l0.length c0, .int .i64 a1] w fun e w' => e = .returned (.int .i64 r) ∧ Below w.heap.size w w' := by
 have hu29 := Try.underlying29
 have hu51 := Try.underlying68
 have HR0 := Aside0.mk hr0
 have HC0 := Aside0.mk hc0
 have H := Aside0.mk (Option.some.inj h)
 have HB := Aside0.mk (Below.refl w.heap.size w)
 clear hr0 hc0 h
 go_enter Try.func20, Try.ntmps20
 go_wp2
 go_step3
 by_cases h1 : a1 < 1
 ·have d1 : decide (a1 < 1) = true := decide_eq_true h1
  have e : r = 1 := by rw [← H.out]; unfold chkS; rw [if_pos (Or.inl h1)]
  subst e
  clear h1
  go_wp2
  (try rw [Exit.noGoto_ret])
  go_ret
  exact ⟨rfl, HB.out⟩
 have d1 : decide (a1 < 1) = false := decide_eq_false h1
 by_cases h2 : 8192 < a1
 ·have d2 : decide (8192 < a1) = true := decide_eq_true h2
  have e : r = 1 := by rw [← H.out]; unfold chkS; rw [if_pos (Or.inr h2)]
  subst e
  clear h1 h2
  go_wp2
  (try rw [Exit.noGoto_ret])
  go_ret
  exact ⟨rfl, HB.out⟩
 have d2 : decide (8192 < a1) = false := decide_eq_false h2
 by_cases h3 : 256 < l0.length
 ·have d3 : decide ((256 : Int) < (l0.length : Int)) = true := decide_eq_true (by omega)
  have e : r = 3 := by rw [← H.out]; unfold chkS; rw [if_neg (show ¬ (a1 < 1 ∨ 8192 < a1) by omega), if_pos h3]
  subst e
  clear h1 h2 h3
  go_wp2
  (try rw [Exit.noGoto_ret])
  go_ret
  exact ⟨rfl, HB.out⟩
 have d3 : decide ((256 : Int) < (l0.length : Int)) = false := decide_eq_false (by omega)
 have H2 : Aside0 ((if ¬ chk1 l0 = 0 then chk1 l0 else if ordS l0 = false then 5 else chk3 a1 [0, 0, 0, 0, 0, 0, 0, 0, 0] l0) = r) := ⟨by rw [← H.out]; unfold chkS; rw [if_neg (show ¬ (a1 < 1 ∨ 8192 < a1) by omega), if_neg h3]⟩
 have HN : Aside0 (l0.length ≤ 256) := ⟨by omega⟩
 have HA : Aside0 (¬ a1 < 1 ∧ ¬ 8192 < a1) := ⟨h1, h2⟩
 clear H h1 h2 h3
 go_wp2
 go_loopg [24] l0.length (fun kq v24 W => ∃ i : Nat, v24 = .int .i64 (i : Int) ∧ Aside0 (i + kq = l0.length) ∧ Aside0 (chk1 (l0.drop i) = chk1 l0) ∧ Aside0 (Below w.heap.size w W))
 case atStart => exact ⟨0, rfl, ⟨by omega⟩, ⟨rfl⟩, HB⟩
 case round =>
  clear HB
  obtain ⟨i, rfl, HK, HS, HB⟩ := hrel
  cases gk with
  | succ k1 =>
   have hi : i < l0.length := by have := HK.out; omega
   have hlt : decide ((i : Int) < (l0.length : Int)) = true := by simp; exact hi
   obtain ⟨ad, e0, hx0, hx1, hx2, hx3, hx4, hx5, hx6⟩ := at_T29 HR0.out (i : Int) (by omega) (by omega)
   cases e0
   rw [Int.toNat_natCast] at hx0 hx1 hx2 hx3 hx4 hx5 hx6
   replace hx0 := hbC HB hx0
   replace hx1 := hbC HB hx1
   replace hx2 := hbC HB hx2
   replace hx3 := hbC HB hx3
   replace hx4 := hbC HB hx4
   replace hx5 := hbC HB hx5
   replace hx6 := hbC HB hx6
   have q0 : (0 ≤ ((i : Nat) : Int)) = True := by simp
   have q1 : (((i : Nat) : Int) < (l0.length : Int)) = True := by simp; exact hi
   have hs := HS.out
   rw [drop_cons29 hi, chk1] at hs
   have hcq := symCheck_eq 0 (rd_T29 l0 i).f0 (rd_T29 l0 i).f1 (rd_T29 l0 i).f2 (rd_T29 l0 i).f3 (rd_T29 l0 i).f4 (rd_T29 l0 i).f5 (rd_T29 l0 i).f6
   have hco : chkP (rd_T29 l0 i).f0 (rd_T29 l0 i).f1 (rd_T29 l0 i).f2 (rd_T29 l0 i).f3 (rd_T29 l0 i).f4 (rd_T29 l0 i).f5 (rd_T29 l0 i).f6 = chkO l0[i] := by rw [rd29_at hi]; rfl
   rw [hco] at hcq
   generalize rd_T29 l0 (i : Int) = x at hx0 hx1 hx2 hx3 hx4 hx5 hx6 hcq
   by_cases hc : chkO l0[i] = 0
   ·rw [if_pos hc] at hs
    rw [hc] at hcq
    have HQ := Aside0.mk hcq
    have HS' := Aside0.mk hs
    clear hcq hco hs HS hc
    go_wp2_with (first | (go_at_call 52; refine (symbol_Check.calls _ _ _ _ _ _ _ _ _ _ HQ.out).mono ?_; rintro e w5 ⟨rfl, hb⟩; have HB5 := Aside0.mk (below_step (hU HB.out) hb); clear hb))
    go_roundg k1
    case measure => have := HK.out; omega
    case rel => exact ⟨i + 1, by simp; rw [wrap_in _ (by have := HN.out; omega) (by have := HN.out; omega)], ⟨by have := HK.out; omega⟩, HS', HB5⟩
   ·have hr : r = chkO l0[i] := by
     have := H2.out
     rw [if_neg hc] at hs
     rw [if_pos (by rw [← hs]; exact hc), ← hs] at this
     exact this.symm
    rw [← hr] at hcq hc
    have HQ := Aside0.mk hcq
    have dr : (r != 0) = true := bne_iff_ne.mpr hc
    clear hcq hco hs HS hc hr H2
    go_wp2_with (first | (go_at_call 52; refine (symbol_Check.calls _ _ _ _ _ _ _ _ _ _ HQ.out).mono ?_; rintro e w5 ⟨rfl, hb⟩; have HB5 := Aside0.mk (below_step (hU HB.out) hb); clear hb))
    (try rw [Exit.noGoto_ret])
    go_ret
    exact ⟨rfl, HB5.out⟩
  | zero =>
   have hi : i = l0.length := by have := HK.out; omega
   have hlt : decide (i < l0.length) = false := by simp; omega
   have h1 : chk1 l0 = 0 := by
    have := HS.out
    rw [hi, List.drop_length] at this
    exact this.symm
   have H3 : Aside0 ((if ordS l0 = false then 5 else chk3 a1 [0, 0, 0, 0, 0, 0, 0, 0, 0] l0) = r) := ⟨by rw [← H2.out, if_neg (not_not_intro h1)]⟩
   have HO : Aside0 (∀ s ∈ l0, chkO s = 0) := ⟨chk1_all l0 h1⟩
   clear H2 HS HK h1 hi
   go_wp2
   clear hlt
   go_loopg [8] l0.length (fun kq v8 W => ∃ (i : Nat) (X : Int), v8 = .int .i64 X ∧ Aside0 (X = (i : Int) + 1) ∧ Aside0 (i + kq = l0.length) ∧ Aside0 (ordS l0 = ordS (l0.drop i)) ∧ Aside0 (Below w.heap.size w W))
   case atStart => exact ⟨0, 1, rfl, ⟨rfl⟩, ⟨by omega⟩, ⟨rfl⟩, HB⟩
   case round =>
    clear HB
    obtain ⟨i, X, rfl, HX, HK, HS, HB⟩ := hrel
    by_cases hi : i + 1 < l0.length
    ·have hlt : decide (X < (l0.length : Int)) = true := by have := HX.out; simp; omega
     obtain ⟨J, hJ⟩ : ∃ J : Int, wrap64 (X - 1) = J := ⟨_, rfl⟩
     have hJi : J = (i : Int) := by rw [← hJ, HX.out, wrap_in _ (by have := HN.out; omega) (by have := HN.out; omega)]; omega
     have HJI := Aside0.mk hJi
     have hX := HX.out
     obtain ⟨ad, e0, hx0, hx1, hx2, hx3, hx4, hx5, hx6⟩ := at_T29 HR0.out J (by omega) (by omega)
     obtain ⟨ad', e1, hy0, hy1, hy2, hy3, hy4, hy5, hy6⟩ := at_T29 HR0.out X (by omega) (by omega)
     obtain rfl : ad = ad' := by rw [e0] at e1; injection e1
     cases e0
     clear e1
     have hwx0 := hx0
     replace hx0 := hbC HB hx0
     have hwx1 := hx1
     replace hx1 := hbC HB hx1
     have hwx2 := hx2
     replace hx2 := hbC HB hx2
     have hwx3 := hx3
     replace hx3 := hbC HB hx3
     have hwx4 := hx4
     replace hx4 := hbC HB hx4
     have hwx5 := hx5
     replace hx5 := hbC HB hx5
     have hwx6 := hx6
     replace hx6 := hbC HB hx6
     have hwy0 := hy0
     replace hy0 := hbC HB hy0
     have hwy1 := hy1
     replace hy1 := hbC HB hy1
     have hwy2 := hy2
     replace hy2 := hbC HB hy2
     have hwy3 := hy3
     replace hy3 := hbC HB hy3
     have hwy4 := hy4
     replace hy4 := hbC HB hy4
     have hwy5 := hy5
     replace hy5 := hbC HB hy5
     have hwy6 := hy6
     replace hy6 := hbC HB hy6
     have p0 : (0 ≤ J) = True := eq_true (by omega)
     have p1 : (J < (l0.length : Int)) = True := eq_true (by omega)
     have q0 : (0 ≤ X) = True := eq_true (by omega)
     have q1 : (X < (l0.length : Int)) = True := eq_true (by omega)
     have hs := HS.out
     rw [drop_cons29 (show i < l0.length by omega), drop_cons29 hi] at hs
     have hlq := symLess_eq 0 (rd_T29 l0 J).f0 (rd_T29 l0 J).f1 (rd_T29 l0 J).f2 (rd_T29 l0 J).f3 (rd_T29 l0 J).f4 (rd_T29 l0 J).f5 (rd_T29 l0 J).f6 (rd_T29 l0 X).f0 (rd_T29 l0 X).f1 (rd_T29 l0 X).f2 (rd_T29 l0 X).f3 (rd_T29 l0 X).f4 (rd_T29 l0 X).f5 (rd_T29 l0 X).f6
     have hi0 : i < l0.length := Nat.lt_of_succ_lt hi
     obtain ⟨sa, hsa⟩ : ∃ s, l0[i]'hi0 = s := ⟨_, rfl⟩
     obtain ⟨sb, hsb⟩ : ∃ s, l0[i + 1]'hi = s := ⟨_, rfl⟩
     have hra : rd_T29 l0 J = sa := by rw [hJi, rd29_at hi0, hsa]
     have hrb : rd_T29 l0 X = sb := by rw [hX, show ((i : Int) + 1) = ((i + 1 : Nat) : Int) by omega, rd29_at hi, hsb]
     have hlo : lessB (rd_T29 l0 J).f2 (rd_T29 l0 J).f1 (rd_T29 l0 X).f2 (rd_T29 l0 X).f1 = ltS sa sb := by
      rw [hra, hrb]; rfl
     rw [hsa, hsb] at hs
     rw [hlo] at hlq
     have hs2 : ordS l0 = (ltS sa sb && ordS (l0.drop (i + 1))) := by rw [hs, drop_cons29 hi, hsb]; rfl
     have HS2 := Aside0.mk hs2
     have HI := Aside0.mk hi
     clear hs hs2 hlo HS hJi hX hra hrb hsa hsb hi hi0
     generalize hxe : rd_T29 l0 J = x at hx0 hx1 hx2 hx3 hx4 hx5 hx6 hwx0 hwx1 hwx2 hwx3 hwx4 hwx5 hwx6 hlq
     generalize hye : rd_T29 l0 X = y at hy0 hy1 hy2 hy3 hy4 hy5 hy6 hwy0 hwy1 hwy2 hwy3 hwy4 hwy5 hwy6 hlq
     clear hxe hye
     obtain ⟨b, hb0⟩ : ∃ b, ltS sa sb = b := ⟨_, rfl⟩
     rw [hb0] at hlq HS2
     have HQ := Aside0.mk hlq
     clear hlq hb0
     go_upto_region 15 with (fail)
     refine start_ (n := 11) (S := fun w' => w'.cell? (ad.add (J.toNat * 7)) = some (.int .i64 x.f0) ∧ w'.cell? ⟨(ad.add (J.toNat * 7)).block, (ad.add (J.toNat * 7)).off + 1, none⟩ = some (.int .i64 x.f1) ∧ w'.cell? ⟨(ad.add (J.toNat * 7)).block, (ad.add (J.toNat * 7)).off + 2, none⟩ = some (.int .i64 x.f2) ∧ w'.cell? ⟨(ad.add (J.toNat * 7)).block, (ad.add (J.toNat * 7)).off + 3, none⟩ = some (.int .i64 x.f3) ∧ w'.cell? ⟨(ad.add (J.toNat * 7)).block, (ad.add (J.toNat * 7)).off + 4, none⟩ = some (.int .i64 x.f4) ∧ w'.cell? ⟨(ad.add (J.toNat * 7)).block, (ad.add (J.toNat * 7)).off + 5, none⟩ = some (.int .i64 x.f5) ∧ w'.cell? ⟨(ad.add (J.toNat * 7)).block, (ad.add (J.toNat * 7)).off + 6, none⟩ = some (.int .i64 x.f6) ∧ w'.cell? (ad.add (X.toNat * 7)) = some (.int .i64 y.f0) ∧ w'.cell? ⟨(ad.add (X.toNat * 7)).block, (ad.add (X.toNat * 7)).off + 1, none⟩ = some (.int .i64 y.f1) ∧ w'.cell? ⟨(ad.add (X.toNat * 7)).block, (ad.add (X.toNat * 7)).off + 2, none⟩ = some (.int .i64 y.f2) ∧ w'.cell? ⟨(ad.add (X.toNat * 7)).block, (ad.add (X.toNat * 7)).off + 3, none⟩ = some (.int .i64 y.f3) ∧ w'.cell? ⟨(ad.add (X.toNat * 7)).block, (ad.add (X.toNat * 7)).off + 4, none⟩ = some (.int .i64 y.f4) ∧ w'.cell? ⟨(ad.add (X.toNat * 7)).block, (ad.add (X.toNat * 7)).off + 5, none⟩ = some (.int .i64 y.f5) ∧ w'.cell? ⟨(ad.add (X.toNat * 7)).block, (ad.add (X.toNat * 7)).off + 6, none⟩ = some (.int .i64 y.f6)) (ds := []) #[false, false, false, false, false, false, false, false, false, false, false] rfl rfl rfl ⟨hx0, hx1, hx2, hx3, hx4, hx5, hx6, hy0, hy1, hy2, hy3, hy4, hy5, hy6⟩ (fun hHeld => ?_)
     refine puA 0 40 (bs 11 1) ?_
     refine puA 1 41 (bs 11 3) ?_
     refine puA 2 42 (bs 11 7) ?_
     refine puA 3 43 (bs 11 15) ?_
     refine puA 5 45 (bs 11 47) ?_
     refine puA 6 46 (bs 11 111) ?_
     refine puA 7 47 (bs 11 239) ?_
     refine tkA 4 44 (bs 11 255) hHeld ?_
     refine tkA 8 48 (bs 11 511) hHeld ?_
     refine one_ (i := 9) (N := some 49) (bs 11 1023) rfl rfl (by kernel_rfl) (by decide) (fun K hK => ?_)
     refine goes_ Try.func53 (by kernel_rfl) rfl #[.agg #[.int .i64 x.f0, .int .i64 x.f1, .int .i64 x.f2, .int .i64 x.f3, .int .i64 x.f4, .int .i64 x.f5, .int .i64 x.f6], .agg #[.int .i64 y.f0, .int .i64 y.f1, .int .i64 y.f2, .int .i64 y.f3, .int .i64 y.f4, .int .i64 y.f5, .int .i64 y.f6]] (by rfl) rfl rfl (by (try simp only [List.map_toArray, List.map_cons, List.map_nil]); first | done | rfl) ?_
     refine (symbol_Less.calls _ _ _ _ _ _ _ _ _ _ _ _ _ _ _ b _ HQ.out).mono ?_
     rintro e w21 ⟨rfl, hb⟩
     refine ⟨_, rfl, ?_⟩
     have HB5 := Aside0.mk (below_step (hU HB.out) hb)
     clear hb
     refine hK.out _ _ ⟨(HB5.out.cell (World.block_lt_of_cell? w _ hwx0)).trans hwx0, (HB5.out.cell (World.block_lt_of_cell? w _ hwx1)).trans hwx1, (HB5.out.cell (World.block_lt_of_cell? w _ hwx2)).trans hwx2, (HB5.out.cell (World.block_lt_of_cell? w _ hwx3)).trans hwx3, (HB5.out.cell (World.block_lt_of_cell? w _ hwx4)).trans hwx4, (HB5.out.cell (World.block_lt_of_cell? w _ hwx5)).trans hwx5, (HB5.out.cell (World.block_lt_of_cell? w _ hwx6)).trans hwx6, (HB5.out.cell (World.block_lt_of_cell? w _ hwy0)).trans hwy0, (HB5.out.cell (World.block_lt_of_cell? w _ hwy1)).trans hwy1, (HB5.out.cell (World.block_lt_of_cell? w _ hwy2)).trans hwy2, (HB5.out.cell (World.block_lt_of_cell? w _ hwy3)).trans hwy3, (HB5.out.cell (World.block_lt_of_cell? w _ hwy4)).trans hwy4, (HB5.out.cell (World.block_lt_of_cell? w _ hwy5)).trans hwy5, (HB5.out.cell (World.block_lt_of_cell? w _ hwy6)).trans hwy6⟩ (fun _ => ?_)
     clear hK K
     refine nmA 49 ?_
     refine puA 10 50 (bs 11 2047) ?_
     refine done_ (by kernel_rfl) ?_
     cases b
     ·have hr : r = 5 := by
       have h := H3.out
       rw [HS2.out, Bool.false_and, if_pos rfl] at h
       exact h.symm
      subst hr
      go_wp2
      (try rw [Exit.noGoto_ret])
      go_ret
      exact ⟨rfl, HB5.out⟩
     ·go_wp2
      cases gk with
      | zero => have := HK.out; have := HI.out; omega
      | succ k1 =>
       go_roundg k1
       case measure => have := HK.out; omega
       case rel => exact ⟨i + 1, _, rfl, ⟨by have := HX.out; have := HN.out; have := HK.out; rw [wrap_in _ (by omega) (by omega)]; omega⟩, ⟨by have := HK.out; omega⟩, ⟨by rw [HS2.out, Bool.true_and]⟩, HB5⟩
    ·have hlt : decide (X < (l0.length : Int)) = false := by have := HX.out; simp; omega
     have h1 : ordS l0 = true := by
      rw [HS.out]
      have : (l0.drop i).length ≤ 1 := by rw [List.length_drop]; omega
      match hd : l0.drop i, this with
      | [], _ => rfl
      | [a], _ => rfl
      | a :: b :: l, h => simp at h
     have H4 : Aside0 (chk3 a1 [0, 0, 0, 0, 0, 0, 0, 0, 0] l0 = r) := ⟨by rw [← H3.out, h1, if_neg (by decide)]⟩
     clear H3 HS HK HX h1 hi
     go_wp2
     go_step3
     go_wp2
     have hbE : Below w.heap.size w (wr.alloc (.cells #[.int .i64 0, .int .i64 0, .int .i64 0, .int .i64 0, .int .i64 0, .int .i64 0, .int .i64 0, .int .i64 0, .int .i64 0] 68)) := below_alloc HB.out _
     have BE0 : Aside0 ((wr.alloc (.cells #[.int .i64 0, .int .i64 0, .int .i64 0, .int .i64 0, .int .i64 0, .int .i64 0, .int .i64 0, .int .i64 0, .int .i64 0] 68)).heap[wr.heap.size]? = some (.cells (([0, 0, 0, 0, 0, 0, 0, 0, 0] : List Int).map (Value.int .i64)).toArray 68 (0, 0))) := ⟨blk_new _ _⟩
     have GE : Aside0 (w.heap.size ≤ wr.heap.size) := ⟨below_size HB.out⟩
     clear HB
     have HB := Aside0.mk hbE
     clear hbE
     generalize (wr.alloc (.cells #[.int .i64 0, .int .i64 0, .int .i64 0, .int .i64 0, .int .i64 0, .int .i64 0, .int .i64 0, .int .i64 0, .int .i64 0] 68)) = w3 at BE0 HB ⊢
     generalize wr.heap.size = gE at BE0 GE ⊢
     clear hlt
     go_loopg [10, 53] l0.length (fun kq v10 v53 W => ∃ (i : Nat) (E : List Int), v10 = .int .i64 0 ∧ v53 = .int .i64 (i : Int) ∧ Aside0 (i + kq = l0.length) ∧ Aside0 (E.length = 9) ∧ Aside0 (W.heap[gE]? = some (.cells (E.map (Value.int .i64)).toArray 68 (0, 0))) ∧ Aside0 (chk3 a1 E (l0.drop i) = r) ∧ Aside0 (Below w.heap.size w W))
     case atStart => exact ⟨0, [0, 0, 0, 0, 0, 0, 0, 0, 0], rfl, rfl, ⟨by omega⟩, ⟨rfl⟩, BE0, H4, HB⟩
     case round =>
      clear HB BE0 H4
      obtain ⟨i, E, rfl, rfl, HK, HL, BE, H5, HB⟩ := hrel
      cases gk with
      | zero =>
       have hi : i = l0.length := by have := HK.out; omega
       have hlt : decide (i < l0.length) = false := by simp; omega
       have hr : r = 0 := by
        have := H5.out
        rw [hi, List.drop_length] at this
        exact this.symm
       subst hr
       clear hi
       go_wp2
       (try rw [Exit.noGoto_ret])
       go_ret
       exact ⟨rfl, HB.out⟩
      | succ k1 =>
       have hi : i < l0.length := by have := HK.out; omega
       have hlt : decide (i < l0.length) = true := by simp; exact hi
       have hlt2 : decide ((i : Int) < (l0.length : Int)) = true := by simp; exact hi
       obtain ⟨ad, e0, hx0, hx1, hx2, hx3, hx4, hx5, hx6⟩ := at_T29 HR0.out (i : Int) (by omega) (by omega)
       cases e0
       rw [Int.toNat_natCast] at hx0 hx1 hx2 hx3 hx4 hx5 hx6
       replace hx0 := hbC HB hx0
       replace hx1 := hbC HB hx1
       replace hx2 := hbC HB hx2
       replace hx3 := hbC HB hx3
       replace hx4 := hbC HB hx4
       replace hx5 := hbC HB hx5
       replace hx6 := hbC HB hx6
       have q0 : (0 ≤ ((i : Nat) : Int)) = True := by simp
       have q1 : (((i : Nat) : Int) < (l0.length : Int)) = True := by simp; exact hi
       have hd := H5.out
       rw [drop_cons29 hi, chk3] at hd
       have hin := chkO_in (l0[i]'hi) (HO.out _ (List.getElem_mem hi))
       have hra := rd29_at hi
       generalize l0[i]'hi = s at hd hin hra
       rw [hra] at hx0 hx1 hx2 hx3 hx4 hx5 hx6
       obtain ⟨e2, he2⟩ : ∃ e2, endS s = e2 := ⟨_, rfl⟩
       have hend : staff_end.f s.f0 s.f1 s.f2 s.f3 s.f4 s.f5 s.f6 = some e2 := by
        unfold staff_end.f; rw [wrap_in _ (by omega) (by omega), ← he2]; rfl
       have HE := Aside0.mk hend
       rw [he2] at hd
       have HIN := Aside0.mk hin
       clear hra hend H5 he2
       by_cases hA : a1 < e2
       ·rw [if_pos hA] at hd
        have dA : decide (a1 < e2) = true := decide_eq_true hA
        subst hd
        clear hA hin hi
        go_wp2_with (first | (go_at_call 54; refine (staff_end.calls _ _ _ _ _ _ _ e2 _ HE.out).mono ?_; rintro e w5 ⟨rfl, hb⟩; have HB5 := Aside0.mk (below_step (hU HB.out) hb); have BE5 := Aside0.mk (blk_below (bU BE.out) hb); have BX5 := Aside0.mk (blk_below (blk_new wr (.cells #[.int .i64 s.f0, .int .i64 s.f1, .int .i64 s.f2, .int .i64 s.f3, .int .i64 s.f4, .int .i64 s.f5, .int .i64 s.f6] 29)) hb); have hcx := blk_cell BX5.out; have hfx := blk_frozen BX5.out; clear hb))
        (try rw [Exit.noGoto_ret])
        go_ret
        exact ⟨rfl, HB5.out⟩
       ·rw [if_neg hA] at hd
        have dA : decide (a1 < e2) = false := decide_eq_false hA
        clear hA
        have HD := Aside0.mk hd
        have HI := Aside0.mk hi
        clear hd hi
        have b0 : (0 ≤ s.f1) = True := eq_true hin.1
        have b1 : (s.f1 < 9) = True := eq_true (by omega)
        clear hin
        go_upto_region 24 with (first | (go_at_call 54; refine (staff_end.calls _ _ _ _ _ _ _ e2 _ HE.out).mono ?_; rintro e w5 ⟨rfl, hb⟩; have HB5 := Aside0.mk (below_step (hU HB.out) hb); have BE5 := Aside0.mk (blk_below (bU BE.out) hb); have BX5 := Aside0.mk (blk_below (blk_new wr (.cells #[.int .i64 s.f0, .int .i64 s.f1, .int .i64 s.f2, .int .i64 s.f3, .int .i64 s.f4, .int .i64 s.f5, .int .i64 s.f6] 29)) hb); have hcx := blk_cell BX5.out; have hfx := blk_frozen BX5.out; clear hb))
        have GX : Aside0 (w.heap.size ≤ wr.heap.size) := ⟨below_size HB.out⟩
        have hne : gE ≠ wr.heap.size := Nat.ne_of_lt (blk_lt BE.out)
        clear hcx hfx hx0 hx1 hx2 hx3 hx4 hx5 hx6 HB BE q0 q1 hlt hlt2
        generalize wr.heap.size = gX at BX5 GX hne ⊢
        obtain ⟨v, hv⟩ : ∃ v, E.getD s.f1.toNat 0 = v := ⟨_, rfl⟩
        have hE : w5.cell? ⟨gE, s.f1.toNat, none⟩ = some (.int .i64 v) := by
         rw [blk_cell BE5.out, ← hv]
         have := HL.out; have := HIN.out
         have hlt : s.f1.toNat < E.length := by omega
         simp [List.getD, hlt]
        have HV := Aside0.mk hv
        clear hv
        have BE6 := Aside0.mk (blk_drew BE5.out)
        have BX6 := Aside0.mk (blk_drew BX5.out)
        have HB6 := Aside0.mk (below_drew1 HB5.out)
        refine start_ (n := 8) (S := fun w' => w'.cell? ⟨gX, 1, none⟩ = some (.int .i64 s.f1) ∧ w'.cell? ⟨gX, 2, none⟩ = some (.int .i64 s.f2) ∧ w'.cell? ⟨gE, s.f1.toNat, none⟩ = some (.int .i64 v)) (ds := []) #[false, false, false, false, false, false, false, false] rfl rfl rfl ⟨(blk_cell BX5.out 1).trans rfl, (blk_cell BX5.out 2).trans rfl, hE⟩ (fun hHeld => ?_)
        clear BE5 BX5 HB5 hE
        generalize w5.drew = w6 at BE6 BX6 HB6 hHeld ⊢
        refine puA 0 63 (bs 8 1) ?_
        refine puA 4 67 (bs 8 17) ?_
        refine tkA 1 64 (bs 8 19) hHeld ?_
        refine tkA 5 68 (bs 8 51) hHeld ?_
        refine puA 2 65 (bs 8 55) ?_
        refine tkA 3 66 (bs 8 63) hHeld ?_
        refine puA 6 69 (bs 8 127) ?_
        refine puA 7 62 (bs 8 255) ?_
        refine done_ (by kernel_rfl) ?_
        clear hHeld
        by_cases hQ : s.f2 < v
        ·have dQ : decide (s.f2 < v) = true := decide_eq_true hQ
         have hd := HD.out
         rw [HV.out, if_pos hQ] at hd
         subst hd
         clear hQ
         rw [dQ]
         go_wp2
         (try rw [Exit.noGoto_ret])
         go_ret
         exact ⟨rfl, HB6.out⟩
        ·have dQ : decide (s.f2 < v) = false := decide_eq_false hQ
         have hd := HD.out
         rw [HV.out, if_neg hQ] at hd
         have HD2 := Aside0.mk hd
         clear hd HD hQ
         rw [dQ]
         go_upto_region 26 with (fail)
         have BE7 := Aside0.mk (blk_drew BE6.out)
         have BX7 := Aside0.mk (blk_drew BX6.out)
         have HB7 := Aside0.mk (below_drew1 HB6.out)
         refine start_ (n := 6) (S := fun w' => w'.cell? ⟨gX, 0, none⟩ = some (.int .i64 s.f0) ∧ w'.cell? ⟨gX, 1, none⟩ = some (.int .i64 s.f1) ∧ w'.cell? ⟨gX, 2, none⟩ = some (.int .i64 s.f2) ∧ w'.cell? ⟨gX, 3, none⟩ = some (.int .i64 s.f3) ∧ w'.cell? ⟨gX, 4, none⟩ = some (.int .i64 s.f4) ∧ w'.cell? ⟨gX, 5, none⟩ = some (.int .i64 s.f5) ∧ w'.cell? ⟨gX, 6, none⟩ = some (.int .i64 s.f6)) (ds := []) #[false, false, false, false, false, false] rfl rfl rfl ⟨(blk_cell BX6.out 0).trans rfl, (blk_cell BX6.out 1).trans rfl, (blk_cell BX6.out 2).trans rfl, (blk_cell BX6.out 3).trans rfl, (blk_cell BX6.out 4).trans rfl, (blk_cell BX6.out 5).trans rfl, (blk_cell BX6.out 6).trans rfl⟩ (fun hHeld => ?_)
         clear BE6 BX6 HB6
         generalize w6.drew = w7 at BE7 BX7 HB7 hHeld ⊢
         refine puA 0 70 (bs 6 1) ?_
         refine tkA 1 71 (bs 6 3) hHeld ?_
         refine tkA 2 72 (bs 6 7) hHeld ?_
         refine one_ (i := 3) (N := some 73) (bs 6 15) rfl rfl (by kernel_rfl) (by decide) (fun K hK => ?_)
         refine goes_ Try.func54 (by kernel_rfl) rfl #[.agg #[.int .i64 s.f0, .int .i64 s.f1, .int .i64 s.f2, .int .i64 s.f3, .int .i64 s.f4, .int .i64 s.f5, .int .i64 s.f6]] (by rfl) rfl rfl (by (try simp only [List.map_toArray, List.map_cons, List.map_nil]); first | done | rfl) ?_
         refine (staff_end.calls _ _ _ _ _ _ _ e2 _ HE.out).mono ?_
         rintro e w8 ⟨rfl, hb⟩
         refine ⟨_, rfl, ?_⟩
         have BE8 := Aside0.mk (blk_below BE7.out hb)
         have BX8 := Aside0.mk (blk_below BX7.out hb)
         have HB8 := Aside0.mk (below_step HB7.out hb)
         clear hb BE7 BX7 HB7 hHeld
         refine hK.out _ _ ⟨(blk_cell BX8.out 0).trans rfl, (blk_cell BX8.out 1).trans rfl, (blk_cell BX8.out 2).trans rfl, (blk_cell BX8.out 3).trans rfl, (blk_cell BX8.out 4).trans rfl, (blk_cell BX8.out 5).trans rfl, (blk_cell BX8.out 6).trans rfl⟩ (fun hHeld => ?_)
         clear hK K
         refine nmA 73 ?_
         refine puA 4 74 (bs 6 31) ?_
         have hcE : w8.cell? ⟨gE, s.f1.toNat, none⟩ = some (.int .i64 v) := by
          rw [blk_cell BE8.out, ← HV.out]
          have := HL.out; have := HIN.out
          have hlt : s.f1.toNat < E.length := by omega
          simp [List.getD, hlt]
         have hfE := blk_frozen BE8.out
         refine one_ (i := 5) (N := none) #[true, true, true, true, true, true] rfl rfl (by kernel_rfl) (by decide) (fun K hK => ?_)
         rw [if_pos (by rfl)]
         go_wp2
         have hne' : gX ≠ gE := Ne.symm hne
         have HB9 : Aside0 (Below w.heap.size w (w8.setCell ⟨gE, s.f1.toNat, none⟩ (.int .i64 e2))) := ⟨below_set HB8.out GE.out⟩
         have BE9 : Aside0 ((w8.setCell ⟨gE, s.f1.toNat, none⟩ (.int .i64 e2)).heap[gE]? = some (.cells ((E.set s.f1.toNat e2).map (Value.int .i64)).toArray 68 (0, 0))) := ⟨blk_put BE8.out _ _ (by simp [List.map_set])⟩
         refine hK.out _ _ ⟨(cell_far hne' _).trans ((blk_cell BX8.out 0).trans rfl), (cell_far hne' _).trans ((blk_cell BX8.out 1).trans rfl), (cell_far hne' _).trans ((blk_cell BX8.out 2).trans rfl), (cell_far hne' _).trans ((blk_cell BX8.out 3).trans rfl), (cell_far hne' _).trans ((blk_cell BX8.out 4).trans rfl), (cell_far hne' _).trans ((blk_cell BX8.out 5).trans rfl), (cell_far hne' _).trans ((blk_cell BX8.out 6).trans rfl)⟩ (fun _ => ?_)
         refine done_ (by kernel_rfl) ?_
         generalize (w8.setCell ⟨gE, s.f1.toNat, none⟩ (.int .i64 e2)) = w9 at HB9 BE9 ⊢
         clear hK K hHeld hcE hfE
         go_wp2
         go_roundg k1
         case measure => have := HK.out; omega
         case rel => exact ⟨i + 1, E.set s.f1.toNat e2, rfl, by simp; rw [wrap_in _ (by have := HN.out; have := HK.out; omega) (by have := HN.out; have := HK.out; omega)], ⟨by have := HK.out; omega⟩, ⟨by rw [List.length_set]; exact HL.out⟩, BE9, HD2, HB9⟩
end Go.Proofs.Ytdilndbanhianaa.P
end
section
set_option linter.unusedVariables false
set_option linter.unusedSimpArgs false
namespace Go.Proofs.Ytdilndbanhianaa.P
open Go.RowKit Go.Proofs.YtdilndbanhianaaW.PrintWords Go.Proofs.YtdilndbanhianaaW.PrintLast Go.Proofs.YtdilndbanhianaaW.PrintMore
def movS (by_ : Int) (s : S29) : S29 := ⟨s.f0, s.f1, wrap64 (s.f2 + by_), s.f3, s.f4, s.f5, s.f6⟩
def staff_moved.f (l0 : List S29) (a1 : Int) : Option (List S29) := if l0.length ≤ 256 then some (l0.map (movS a1)) else none
set_option maxHeartbeats 4000000 in
set_option maxRecDepth 100000 in
theorem staff_moved.calls (A0 : Option Addr) (c0 : Nat) (l0 : List S29) (a1 : Int) (r : List S29) (w : World) (hr0 : Kd.C k29 w A0 l0.length l0) (hc0 : l0.length ≤ c0) (h : staff_moved.f l0 a1 = some r) :
    Calls Try.prog 64 #[.slice A0 l0.length c0, .int .i64 a1] w fun e w' => ∃ v0_ : Value, e = .returned (v0_) ∧ Kd.R k29 29 w' w.heap.size (fun _ => True) v0_ r ∧ Below w.heap.size w w' := by
  have hu29 := Try.underlying29
  unfold staff_moved.f at h
  by_cases hl : l0.length ≤ 256
  · rw [if_pos hl] at h
    have H := Aside0.mk (Option.some.inj h)
    have HR := Aside0.mk hr0
    have HC := Aside0.mk hc0
    have HN := Aside0.mk hl
    have HB := Aside0.mk (Below.refl w.heap.size w)
    clear h hr0 hc0 hl
    go_enter Try.func64, Try.ntmps64
    go_wp2
    go_loopg [5, 10] l0.length (fun kq v5 v10 W => ∃ (i : Nat), v10 = .int .i64 (i : Int) ∧ Aside0 (i + kq = l0.length) ∧ Aside0 (Kd.R k29 29 W w.heap.size (fun _ => True) v5 ((l0.take i).map (movS a1))) ∧ Aside0 (Below w.heap.size w W))
    case atStart => exact ⟨0, rfl, ⟨by omega⟩, ⟨Kd.R_nil _ _ _ _ _⟩, HB⟩
    case round =>
      clear HB
      obtain ⟨i, rfl, HK, HO, HB⟩ := hrel
      cases gk with
      | zero =>
        have hi : i = l0.length := by have := HK.out; omega
        have hlt : decide (i < l0.length) = false := by simp; omega
        have ho := HO.out
        rw [hi, List.take_length, H.out] at ho
        clear hi
        go_wp2
        go_ret
        exact ⟨_, rfl, ho, HB.out⟩
      | succ k1 =>
        have hi : i < l0.length := by have := HK.out; omega
        have hlt : decide (i < l0.length) = true := by simp; exact hi
        obtain ⟨ad, e0, hx0, hx1, hx2, hx3, hx4, hx5, hx6⟩ := at_T29 HR.out (i : Int) (by omega) (by omega)
        cases e0
        rw [Int.toNat_natCast] at hx0 hx1 hx2 hx3 hx4 hx5 hx6
        rw [rd29_at hi] at hx0 hx1 hx2 hx3 hx4 hx5 hx6
        replace hx0 := (HB.out.cell (World.block_lt_of_cell? w _ hx0)).trans hx0
        replace hx1 := (HB.out.cell (World.block_lt_of_cell? w _ hx1)).trans hx1
        replace hx2 := (HB.out.cell (World.block_lt_of_cell? w _ hx2)).trans hx2
        replace hx3 := (HB.out.cell (World.block_lt_of_cell? w _ hx3)).trans hx3
        replace hx4 := (HB.out.cell (World.block_lt_of_cell? w _ hx4)).trans hx4
        replace hx5 := (HB.out.cell (World.block_lt_of_cell? w _ hx5)).trans hx5
        replace hx6 := (HB.out.cell (World.block_lt_of_cell? w _ hx6)).trans hx6
        have q0 : (0 ≤ ((i : Nat) : Int)) = True := by simp
        have q1 : (((i : Nat) : Int) < (l0.length : Int)) = True := by simp; exact hi
        have htk : (l0.take (i + 1)).map (movS a1) = (l0.take i).map (movS a1) ++ [movS a1 l0[i]] := by rw [List.take_add_one, List.getElem?_eq_getElem hi, List.map_append]; rfl
        have HT := Aside0.mk htk
        generalize l0[i]'hi = s at hx0 hx1 hx2 hx3 hx4 hx5 hx6 HT
        have HI := Aside0.mk hi
        clear hi htk
        obtain ⟨sb, hsb⟩ : ∃ sb, wrap64 (s.f2 + a1) = sb := ⟨_, rfl⟩
        have HSB := Aside0.mk hsb
        go_upto_region 6 with (fail)
        have HB1 : Aside0 (Below w.heap.size w (wr.alloc (.cells #[.int .i64 s.f0, .int .i64 s.f1, .int .i64 sb, .int .i64 s.f3, .int .i64 s.f4, .int .i64 s.f5, .int .i64 s.f6] 29))) := ⟨below_alloc HB.out _⟩
        have HO1 : Aside0 (Kd.R k29 29 (wr.alloc (.cells #[.int .i64 s.f0, .int .i64 s.f1, .int .i64 sb, .int .i64 s.f3, .int .i64 s.f4, .int .i64 s.f5, .int .i64 s.f6] 29)) w.heap.size (fun _ => True) u5 ((l0.take i).map (movS a1))) := ⟨Kd.R_alloc HO.out _⟩
        have B7 : Aside0 ((wr.alloc (.cells #[.int .i64 s.f0, .int .i64 s.f1, .int .i64 sb, .int .i64 s.f3, .int .i64 s.f4, .int .i64 s.f5, .int .i64 s.f6] 29)).heap[wr.heap.size]? = some (.cells #[.int .i64 s.f0, .int .i64 s.f1, .int .i64 sb, .int .i64 s.f3, .int .i64 s.f4, .int .i64 s.f5, .int .i64 s.f6] 29 (0, 0))) := ⟨blk_new _ _⟩
        generalize (wr.alloc (.cells #[.int .i64 s.f0, .int .i64 s.f1, .int .i64 sb, .int .i64 s.f3, .int .i64 s.f4, .int .i64 s.f5, .int .i64 s.f6] 29)) = W1 at HB1 HO1 B7 ⊢
        generalize wr.heap.size = g7 at B7 ⊢
        have hc7 := blk_cell B7.out
        have hlen : ((l0.take i).map (movS a1)).length = i := by rw [List.length_map, List.length_take]; have := HI.out; omega
        go_wp2_with (first | ((with_reducible refine gate_builtin (b := .append) (xs := #[.tmp 19, .tmp 21]) rfl ?_); at_builtin; refine Kd.R_append k29 (w0 := w) w.heap.size rfl (.tmp 19) (.tmp 21) 22 29 (.agg #[(.int .i64 0), (.int .i64 0), (.int .i64 0), (.int .i64 0), (.int .i64 0), (.int .i64 0), (.int .i64 0)]) 56 rfl Try.underlying22 info29 rfl (by decide) (by omega) u5 ((l0.take i).map (movS a1)) (⟨s.f0, s.f1, sb, s.f3, s.f4, s.f5, s.f6⟩ : S29) [.int .i64 s.f0, .int .i64 s.f1, .int .i64 sb, .int .i64 s.f3, .int .i64 s.f4, .int .i64 s.f5, .int .i64 s.f6] (fun _ => True) (fun _ => False) rfl (by first | (go_simp; done) | (go_simp; rfl)) (k29_mkM _ _ _ (⟨s.f0, s.f1, sb, s.f3, s.f4, s.f5, s.f6⟩ : S29)) (fun _ hk => hk.elim) (fun _ _ => trivial) HO1.out HB1.out (below_size HB1.out) (by rw [hlen]; have := HN.out; have := HI.out; omega) ?_; intro v6 w6 ho6 hb6 hg6 hat6; have HO6 := Aside0.mk ho6; have HB6 := Aside0.mk hb6; clear ho6 hb6 hg6 hat6))
        go_roundg k1
        case measure => have := HK.out; omega
        case rel => exact ⟨i + 1, by first | (simp; done) | (simp; rw [wrap_in _ (by have := HN.out; have := HI.out; omega) (by have := HN.out; have := HI.out; omega)]), ⟨by have := HK.out; omega⟩, ⟨by rw [HT.out]; have := HO6.out; rw [← HSB.out] at this; exact this⟩, HB6⟩
  · rw [if_neg hl] at h; cases h
end Go.Proofs.Ytdilndbanhianaa.P
end
section
set_option linter.unusedVariables false
set_option linter.unusedSimpArgs false
namespace Go.Proofs.Ytdilndbanhianaa.P
open Go.RowKit Go.Proofs.YtdilndbanhianaaW.PrintWords Go.Proofs.YtdilndbanhianaaW.PrintLast Go.Proofs.YtdilndbanhianaaW.PrintMore
theorem ltS_trans {a b c : S29} (h1 : ltS a b = true) (h2 : ltS b c = true) : ltS a c = true := by
 simp only [ltS, lessB, decide_eq_true_eq] at *; omega
theorem chk2_all : ∀ (l : List S29) (a : S29), chk2 a l = true → ∀ b ∈ l, ltS a b = true
 | [], _, _, b, hb => by simp at hb
 | x :: l, a, h, b, hb => by
  simp only [chk2, Bool.and_eq_true] at h
  rcases List.mem_cons.mp hb with rfl | hb
  ·exact h.1
  ·exact ltS_trans h.1 (chk2_all l x h.2 b hb)
theorem ordS_tail (a : S29) (l : List S29) (h : ordS (a :: l) = true) : ordS l = true := by
 cases l with
 | nil => rfl
 | cons b l => simp only [ordS, chk2, Bool.and_eq_true] at h; exact h.2
theorem ordS_lt : ∀ (l : List S29), ordS l = true → ∀ (i j : Nat) (hj : j < l.length) (hij : i < j), ltS (l[i]'(Nat.lt_trans hij hj)) l[j] = true
 | [], _, i, j, hj, _ => by simp at hj
 | a :: l, h, 0, j + 1, hj, _ => chk2_all l a h _ (List.getElem_mem _)
 | a :: l, h, i + 1, j + 1, hj, hij => ordS_lt l (ordS_tail a l h) i j (by simpa using hj) (by omega)
theorem place_mono (l : List S29) (s : S29) (h : ordS l = true) (i j : Nat) (hj : j < l.length) (hij : i ≤ j) (hi : ltS (l[i]'(by omega)) s = false) : ltS l[j] s = false := by
 by_cases e : i = j
 ·subst e; exact hi
 ·have := ordS_lt l h i j hj (by omega)
  cases hs : ltS l[j] s with
  | false => rfl
  | true => rw [ltS_trans this hs] at hi; cases hi
def placeN (l : List S29) (s : S29) : Nat := l.countP (fun x => ltS x s)
theorem countP_split (f : S29 → Bool) : ∀ (l : List S29) (n : Nat), n ≤ l.length → (∀ i (h : i < l.length), i < n → f l[i] = true) → (∀ i (h : i < l.length), n ≤ i → f l[i] = false) → l.countP f = n
 | [], n, hn, _, _ => by simp at hn; simp [hn]
 | a :: l, 0, _, _, h2 => by
  have h0 : f a = false := h2 0 (by simp) (by omega)
  rw [List.countP_cons_of_neg (by rw [h0]; decide)]
  exact countP_split f l 0 (by omega) (fun i h hi => by omega) (fun i h _ => h2 (i + 1) (by simpa using h) (by omega))
 | a :: l, n + 1, hn, h1, h2 => by
  have h0 : f a = true := h1 0 (by simp) (by omega)
  rw [List.countP_cons_of_pos h0, countP_split f l n (by simpa using hn) (fun i h hi => h1 (i + 1) (by simpa using h) (by omega)) (fun i h hi => h2 (i + 1) (by simpa using h) (by omega))]
theorem place_split : ∀ (l : List S29) (s : S29), ordS l = true → ∃ n, n ≤ l.length ∧ (∀ i (h : i < l.length), i < n → ltS l[i] s = true) ∧ (∀ i (h : i < l.length), n ≤ i → ltS l[i] s = false)
 | [], s, _ => ⟨0, Nat.le_refl _, fun i h _ => by simp at h, fun i h _ => by simp at h⟩
 | a :: l, s, ho => by
  cases ha : ltS a s with
  | false => exact ⟨0, Nat.zero_le _, fun i h hi => by omega, fun i h _ => place_mono (a :: l) s ho 0 i h (Nat.zero_le _) ha⟩
  | true =>
   obtain ⟨n, hn, h1, h2⟩ := place_split l s (ordS_tail a l ho)
   refine ⟨n + 1, by simpa using hn, fun i h hi => ?_, fun i h hi => ?_⟩
   ·cases i with
    | zero => exact ha
    | succ i => exact h1 i (by simpa using h) (by omega)
   ·cases i with
    | zero => omega
    | succ i => exact h2 i (by simpa using h) (by omega)
theorem place_at (l : List S29) (s : S29) (ho : ordS l = true) : placeN l s ≤ l.length ∧ (∀ i (h : i < l.length), i < placeN l s → ltS l[i] s = true) ∧ (∀ i (h : i < l.length), placeN l s ≤ i → ltS l[i] s = false) := by
 obtain ⟨n, hn, h1, h2⟩ := place_split l s ho
 have e : placeN l s = n := countP_split _ l n hn h1 h2
 rw [e]; exact ⟨hn, h1, h2⟩
def staff_place.f (l0 : List S29) (a0 a1 a2 a3 a4 a5 a6 : Int) : Option Int := if ordS l0 = true ∧ l0.length ≤ 256 then some (placeN l0 ⟨a0, a1, a2, a3, a4, a5, a6⟩ : Int) else none
set_option maxHeartbeats 4000000 in
set_option maxRecDepth 100000 in
theorem place_closure (Bl Bs : Nat) (A0 : Option Addr) (c0 : Nat) (l0 : List S29) (s : S29) (i : Nat) (hi : i < l0.length) (w : World) (hr0 : Kd.C k29 w A0 l0.length l0)
  (hl : w.heap[Bl]? = some (.cells #[.slice A0 l0.length c0] 22 (0, 0))) (hs : w.heap[Bs]? = some (.cells #[.int .i64 s.f0, .int .i64 s.f1, .int .i64 s.f2, .int .i64 s.f3, .int .i64 s.f4, .int .i64 s.f5, .int .i64 s.f6] 29 (0, 0))) :
  Calls Try.prog 90 #[.int .i64 (i : Int), .pointer (some ⟨Bl, 0, none⟩), .pointer (some ⟨Bs, 0, none⟩)] w fun e w' => e = .returned (.bool (!ltS l0[i] s)) ∧ Below w.heap.size w w' := by
 have hu29 := Try.underlying29
 obtain ⟨J, hJ⟩ : ∃ J : Int, (i : Int) = J := ⟨_, rfl⟩
 obtain ⟨ad, e0, hx0, hx1, hx2, hx3, hx4, hx5, hx6⟩ := at_T29 hr0 J (by omega) (by omega)
 cases e0
 have hra : rd_T29 l0 J = l0[i] := by rw [← hJ, rd29_at hi]
 have p0 : (0 ≤ J) = True := eq_true (by omega)
 have p1 : (J < (l0.length : Int)) = True := eq_true (by omega)
 rw [hJ]
 generalize l0[i]'hi = x at hra ⊢
 rw [hra] at hx0 hx1 hx2 hx3 hx4 hx5 hx6
 have HQ := Aside0.mk (symLess_eq 0 x.f0 x.f1 x.f2 x.f3 x.f4 x.f5 x.f6 s.f0 s.f1 s.f2 s.f3 s.f4 s.f5 s.f6)
 have hxs : lessB x.f2 x.f1 s.f2 s.f1 = ltS x s := rfl
 rw [hxs] at HQ
 generalize ltS x s = b at HQ ⊢
 have hcl := (blk_cell hl 0).trans rfl
 have hcs0 : w.cell? ⟨Bs, 0, none⟩ = some (.int .i64 s.f0) := (blk_cell hs 0).trans rfl
 have hcs1 : w.cell? ⟨Bs, 1, none⟩ = some (.int .i64 s.f1) := (blk_cell hs 1).trans rfl
 have hcs2 : w.cell? ⟨Bs, 2, none⟩ = some (.int .i64 s.f2) := (blk_cell hs 2).trans rfl
 have hcs3 : w.cell? ⟨Bs, 3, none⟩ = some (.int .i64 s.f3) := (blk_cell hs 3).trans rfl
 have hcs4 : w.cell? ⟨Bs, 4, none⟩ = some (.int .i64 s.f4) := (blk_cell hs 4).trans rfl
 have hcs5 : w.cell? ⟨Bs, 5, none⟩ = some (.int .i64 s.f5) := (blk_cell hs 5).trans rfl
 have hcs6 : w.cell? ⟨Bs, 6, none⟩ = some (.int .i64 s.f6) := (blk_cell hs 6).trans rfl
 clear hr0 hra hxs hJ hi
 go_enter Try.func90, Try.ntmps90
 go_upto_region 1 with (fail)
 refine start_ (n := 8) (S := fun w' => w'.cell? ⟨Bl, 0, none⟩ = some (.slice (some ad) l0.length c0) ∧ w'.cell? (ad.add (J.toNat * 7)) = some (.int .i64 x.f0) ∧ w'.cell? ⟨(ad.add (J.toNat * 7)).block, (ad.add (J.toNat * 7)).off + 1, none⟩ = some (.int .i64 x.f1) ∧ w'.cell? ⟨(ad.add (J.toNat * 7)).block, (ad.add (J.toNat * 7)).off + 2, none⟩ = some (.int .i64 x.f2) ∧ w'.cell? ⟨(ad.add (J.toNat * 7)).block, (ad.add (J.toNat * 7)).off + 3, none⟩ = some (.int .i64 x.f3) ∧ w'.cell? ⟨(ad.add (J.toNat * 7)).block, (ad.add (J.toNat * 7)).off + 4, none⟩ = some (.int .i64 x.f4) ∧ w'.cell? ⟨(ad.add (J.toNat * 7)).block, (ad.add (J.toNat * 7)).off + 5, none⟩ = some (.int .i64 x.f5) ∧ w'.cell? ⟨(ad.add (J.toNat * 7)).block, (ad.add (J.toNat * 7)).off + 6, none⟩ = some (.int .i64 x.f6) ∧ w'.cell? ⟨Bs, 0, none⟩ = some (.int .i64 s.f0) ∧ w'.cell? ⟨Bs, 1, none⟩ = some (.int .i64 s.f1) ∧ w'.cell? ⟨Bs, 2, none⟩ = some (.int .i64 s.f2) ∧ w'.cell? ⟨Bs, 3, none⟩ = some (.int .i64 s.f3) ∧ w'.cell? ⟨Bs, 4, none⟩ = some (.int .i64 s.f4) ∧ w'.cell? ⟨Bs, 5, none⟩ = some (.int .i64 s.f5) ∧ w'.cell? ⟨Bs, 6, none⟩ = some (.int .i64 s.f6)) (ds := []) #[false, false, false, false, false, false, false, false] rfl rfl rfl ⟨hcl, hx0, hx1, hx2, hx3, hx4, hx5, hx6, hcs0, hcs1, hcs2, hcs3, hcs4, hcs5, hcs6⟩ (fun hHeld => ?_)
 have HB : Aside0 (Below w.heap.size w w.drew) := ⟨below_drew1 (Below.refl _ _)⟩
 generalize w.drew = w1 at HB hHeld ⊢
 refine tkA 0 5 (bs 8 1) hHeld ?_
 refine puA 1 6 (bs 8 3) ?_
 refine puA 2 7 (bs 8 7) ?_
 refine tkA 3 8 (bs 8 15) hHeld ?_
 refine tkA 4 9 (bs 8 31) hHeld ?_
 refine one_ (i := 5) (N := some 10) (bs 8 63) rfl rfl (by kernel_rfl) (by decide) (fun K hK => ?_)
 refine goes_ Try.func53 (by kernel_rfl) rfl #[.agg #[.int .i64 x.f0, .int .i64 x.f1, .int .i64 x.f2, .int .i64 x.f3, .int .i64 x.f4, .int .i64 x.f5, .int .i64 x.f6], .agg #[.int .i64 s.f0, .int .i64 s.f1, .int .i64 s.f2, .int .i64 s.f3, .int .i64 s.f4, .int .i64 s.f5, .int .i64 s.f6]] (by rfl) rfl rfl (by (try simp only [List.map_toArray, List.map_cons, List.map_nil]); first | done | rfl) ?_
 refine (symbol_Less.calls _ _ _ _ _ _ _ _ _ _ _ _ _ _ _ b _ HQ.out).mono ?_
 rintro e w5 ⟨rfl, hb⟩
 refine ⟨_, rfl, ?_⟩
 have HB5 := Aside0.mk (below_step HB.out hb)
 clear hb
 refine hK.out _ _ ⟨(HB5.out.cell (World.block_lt_of_cell? w _ hcl)).trans hcl, (HB5.out.cell (World.block_lt_of_cell? w _ hx0)).trans hx0, (HB5.out.cell (World.block_lt_of_cell? w _ hx1)).trans hx1, (HB5.out.cell (World.block_lt_of_cell? w _ hx2)).trans hx2, (HB5.out.cell (World.block_lt_of_cell? w _ hx3)).trans hx3, (HB5.out.cell (World.block_lt_of_cell? w _ hx4)).trans hx4, (HB5.out.cell (World.block_lt_of_cell? w _ hx5)).trans hx5, (HB5.out.cell (World.block_lt_of_cell? w _ hx6)).trans hx6, (HB5.out.cell (World.block_lt_of_cell? w _ hcs0)).trans hcs0, (HB5.out.cell (World.block_lt_of_cell? w _ hcs1)).trans hcs1, (HB5.out.cell (World.block_lt_of_cell? w _ hcs2)).trans hcs2, (HB5.out.cell (World.block_lt_of_cell? w _ hcs3)).trans hcs3, (HB5.out.cell (World.block_lt_of_cell? w _ hcs4)).trans hcs4, (HB5.out.cell (World.block_lt_of_cell? w _ hcs5)).trans hcs5, (HB5.out.cell (World.block_lt_of_cell? w _ hcs6)).trans hcs6⟩ (fun _ => ?_)
 clear hK K
 refine nmA 10 ?_
 refine puA 6 11 (bs 8 127) ?_
 refine puA 7 4 (bs 8 255) ?_
 refine done_ (by kernel_rfl) ?_
 go_wp2
 go_ret
 exact ⟨rfl, HB5.out⟩
set_option maxHeartbeats 4000000 in
set_option maxRecDepth 100000 in
/-- sort.Search over a function that only lays memory of its own: where its first true stands, if it is false up to there and true from there on. -/
theorem search_walk (cb : Array Value) (n m : Nat) (p : Nat → Bool) (w : World) (hn : n ≤ 256) (hm : m ≤ n) (hp0 : ∀ i, i < m → p i = false) (hp1 : ∀ i, m ≤ i → i < n → p i = true)
  (hf : ∀ (W : World) (i : Nat), Below w.heap.size w W → i < n → Calls Try.prog 90 (#[.int .i64 (i : Int)] ++ cb) W fun e w' => e = .returned (.bool (p i)) ∧ Below W.heap.size W w') :
  Calls Try.prog 89 #[.int .i64 (n : Int), .func (.func 90) #[] cb] w fun e w' => e = .returned (.int .i64 (m : Int)) ∧ Below w.heap.size w w' := by
 have eg : ∀ args w, (callFunc 90 args).run Try.prog w = .ok (.enter 90 args) w := enters_of Try.func90 (by kernel_rfl) rfl
 have HF := Aside0.mk hf
 have HP0 := Aside0.mk hp0
 have HP1 := Aside0.mk hp1
 have HB := Aside0.mk (Below.refl w.heap.size w)
 have HN : Aside0 (n ≤ 256 ∧ m ≤ n) := ⟨hn, hm⟩
 clear hf hp0 hp1 hn hm
 go_enter Try.func89, Try.ntmps89
 go_wp2
 go_loopg [5, 6] n (fun kx s5 s6 wr => ∃ (lo hi : Nat), s5 = .int .i64 lo ∧ s6 = .int .i64 hi ∧ Aside0 (lo ≤ m ∧ m ≤ hi ∧ hi ≤ n ∧ hi - lo ≤ kx) ∧ Aside0 (Below w.heap.size w wr))
 case atStart => exact ⟨0, n, rfl, rfl, ⟨by have := HN.out; omega⟩, HB⟩
 case round =>
  clear HB
  obtain ⟨lo, hi, rfl, rfl, HK, HB⟩ := hrel
  by_cases hlt : lo < hi
  ·have hq : (lo + hi) / 2 < n := by have := HK.out; omega
   have HC := Aside0.mk (HF.out wr ((lo + hi) / 2) HB.out hq)
   obtain ⟨h, hh⟩ : ∃ h : Nat, (lo + hi) / 2 = h := ⟨_, rfl⟩
   have HH := Aside0.mk hh
   rw [hh] at HC
   have d0 : decide ((lo : Int) < (hi : Int)) = true := by simp; exact hlt
   have d1 : decide (lo < hi) = true := by simp; exact hlt
   clear hq
   have hmid : wrap64 (IntKind.u64.wrap (wrap64 ((lo : Int) + (hi : Int))) / 2) = (h : Int) := by
    have := HK.out; have := HN.out
    rw [wrap_in ((lo : Int) + hi) (by omega) (by omega)]
    have e1 : IntKind.u64.wrap ((lo : Int) + hi) = (lo : Int) + hi := by
     have : IntKind.u64.wrap ((lo : Int) + hi) = ((lo : Int) + hi) % 18446744073709551616 := by simp [IntKind.wrap, IntKind.bits, IntKind.signed]
     rw [this]; omega
    rw [e1, wrap_in _ (by omega) (by omega)]
    omega
   go_upto_region 4 with (fail)
   rw [hmid]
   cases hpv : p h
   ·have HP := Aside0.mk hpv
    rw [hpv] at HC
    clear hpv
    go_wp2_with (go_at_fn 90; refine HC.out.mono ?_; rintro e w5 ⟨rfl, hb⟩; have HB5 := Aside0.mk (below_step HB.out hb); clear hb)
    go_roundg (hi - (h + 1))
    case measure => have := HK.out; have := HH.out; omega
    case rel => exact ⟨h + 1, hi, by simp; rw [wrap_in _ (by have := HK.out; have := HN.out; have := HH.out; omega) (by have := HK.out; have := HN.out; have := HH.out; omega)], rfl, ⟨by
     have := HK.out; have := HN.out; have := HH.out
     have hhm : h < m := by
      apply Decidable.byContradiction
      intro c
      have := HP1.out h (by omega) (by omega)
      rw [HP.out] at this; cases this
     omega⟩, HB5⟩
   ·have HP := Aside0.mk hpv
    rw [hpv] at HC
    clear hpv
    go_wp2_with (go_at_fn 90; refine HC.out.mono ?_; rintro e w5 ⟨rfl, hb⟩; have HB5 := Aside0.mk (below_step HB.out hb); clear hb)
    go_roundg (h - lo)
    case measure => have := HK.out; have := HH.out; omega
    case rel => exact ⟨lo, h, rfl, rfl, ⟨by
     have := HK.out; have := HN.out; have := HH.out
     have hhm : m ≤ h := by
      apply Decidable.byContradiction
      intro c
      have := HP0.out h (by omega)
      rw [HP.out] at this; cases this
     omega⟩, HB5⟩
  ·have e1 : lo = m := by have := HK.out; omega
   have d0 : decide ((lo : Int) < (hi : Int)) = false := by simp; omega
   have d1 : decide (lo < hi) = false := by simp; omega
   subst e1
   go_wp2
   go_ret
   exact ⟨rfl, HB.out⟩
set_option maxHeartbeats 4000000 in
set_option maxRecDepth 100000 in
theorem staff_place.calls (A0 : Option Addr) (c0 : Nat) (l0 : List S29) (a0 a1 a2 a3 a4 a5 a6 : Int) (r : Int) (w : World) (hr0 : Kd.C k29 w A0 l0.length l0) (hc0 : l0.length ≤ c0) (h : staff_place.f l0 a0 a1 a2 a3 a4 a5 a6 = some r) :
  Calls Try.prog 62 #[.slice A0 l0.length c0, .agg #[.int .i64 a0, .int .i64 a1, .int .i64 a2, .int .i64 a3, .int .i64 a4, .int .i64 a5, .int .i64 a6]] w fun e w' => e = .returned (.int .i64 r) ∧ Below w.heap.size w w' := by
 have hu29 := Try.underlying29
 unfold staff_place.f at h
 obtain ⟨s, hs⟩ : ∃ s : S29, (⟨a0, a1, a2, a3, a4, a5, a6⟩ : S29) = s := ⟨_, rfl⟩
 rw [hs] at h
 have e0 : a0 = s.f0 := by rw [← hs]
 have e1 : a1 = s.f1 := by rw [← hs]
 have e2 : a2 = s.f2 := by rw [← hs]
 have e3 : a3 = s.f3 := by rw [← hs]
 have e4 : a4 = s.f4 := by rw [← hs]
 have e5 : a5 = s.f5 := by rw [← hs]
 have e6 : a6 = s.f6 := by rw [← hs]
 clear hs
 subst e0 e1 e2 e3 e4 e5 e6
 by_cases ho : ordS l0 = true ∧ l0.length ≤ 256
 ·rw [if_pos ho] at h
  have hr := Option.some.inj h
  subst hr
  obtain ⟨hml, hlow, hhigh⟩ := place_at l0 s ho.1
  have hq : ∀ (W : World) (i : Nat), W.heap[w.heap.size]? = some (.cells #[.slice A0 l0.length c0] 22 (0, 0)) → W.heap[w.heap.size + 1]? = some (.cells #[.int .i64 s.f0, .int .i64 s.f1, .int .i64 s.f2, .int .i64 s.f3, .int .i64 s.f4, .int .i64 s.f5, .int .i64 s.f6] 29 (0, 0)) → Kd.C k29 W A0 l0.length l0 → i < l0.length →
    Calls Try.prog 90 (#[.int .i64 (i : Int)] ++ #[.pointer (some ⟨w.heap.size, 0, none⟩), .pointer (some ⟨w.heap.size + 1, 0, none⟩)]) W fun e w' => e = .returned (.bool ((fun j => if h : j < l0.length then !ltS l0[j] s else true) i)) ∧ Below W.heap.size W w' := by
   intro W i h1 h2 h3 hi
   have h4 := place_closure w.heap.size (w.heap.size + 1) A0 c0 l0 s i hi W h3 h1 h2
   simp only [dif_pos hi]
   exact h4
  have hS : ∀ (W : World), W.heap[w.heap.size]? = some (.cells #[.slice A0 l0.length c0] 22 (0, 0)) → W.heap[w.heap.size + 1]? = some (.cells #[.int .i64 s.f0, .int .i64 s.f1, .int .i64 s.f2, .int .i64 s.f3, .int .i64 s.f4, .int .i64 s.f5, .int .i64 s.f6] 29 (0, 0)) → Kd.C k29 W A0 l0.length l0 →
    Calls Try.prog 89 #[.int .i64 (l0.length : Int), .func (.func 90) #[] #[.pointer (some ⟨w.heap.size, 0, none⟩), .pointer (some ⟨w.heap.size + 1, 0, none⟩)]] W fun e w' => e = .returned (.int .i64 (placeN l0 s : Int)) ∧ Below W.heap.size W w' := by
   intro W h1 h2 h3
   refine search_walk _ l0.length (placeN l0 s) (fun j => if h : j < l0.length then !ltS l0[j] s else true) W ho.2 hml (fun i hi => ?_) (fun i h4 h5 => ?_) (fun W2 i hb hi => hq W2 i (blk_below h1 hb) (blk_below h2 hb) (Kd.C_below h3 hb) hi)
   ·have hi' : i < l0.length := Nat.lt_of_lt_of_le hi hml
    simp only [dif_pos hi', hlow i hi' hi]; rfl
   ·simp only [dif_pos h5, hhigh i h5 h4]; rfl
  generalize placeN l0 s = N at hS ⊢
  have HS := Aside0.mk hS
  have HR := Aside0.mk hr0
  have HB0 : Aside0 (Below w.heap.size w ((w.alloc (.cells #[.slice A0 l0.length c0] 22)).alloc (.cells #[.int .i64 s.f0, .int .i64 s.f1, .int .i64 s.f2, .int .i64 s.f3, .int .i64 s.f4, .int .i64 s.f5, .int .i64 s.f6] 29))) := ⟨below_alloc (below_alloc (Below.refl _ _) _) _⟩
  have hz : (w.alloc (.cells #[.slice A0 l0.length c0] 22)).heap.size = w.heap.size + 1 := by rw [World.size_alloc]
  have B1 : Aside0 (((w.alloc (.cells #[.slice A0 l0.length c0] 22)).alloc (.cells #[.int .i64 s.f0, .int .i64 s.f1, .int .i64 s.f2, .int .i64 s.f3, .int .i64 s.f4, .int .i64 s.f5, .int .i64 s.f6] 29)).heap[w.heap.size]? = some (.cells #[.slice A0 l0.length c0] 22 (0, 0))) := ⟨blk_alloc (blk_new _ _) _⟩
  have B2 : Aside0 (((w.alloc (.cells #[.slice A0 l0.length c0] 22)).alloc (.cells #[.int .i64 s.f0, .int .i64 s.f1, .int .i64 s.f2, .int .i64 s.f3, .int .i64 s.f4, .int .i64 s.f5, .int .i64 s.f6] 29)).heap[w.heap.size + 1]? = some (.cells #[.int .i64 s.f0, .int .i64 s.f1, .int .i64 s.f2, .int .i64 s.f3, .int .i64 s.f4, .int .i64 s.f5, .int .i64 s.f6] 29 (0, 0))) := ⟨by rw [← hz]; exact blk_new _ _⟩
  clear hq hS hlow hhigh hml hr0 ho hz hc0
  go_enter Try.func62, Try.ntmps62
  go_upto_region 1 with (fail)
  generalize ((w.alloc (.cells #[.slice A0 l0.length c0] 22)).alloc (.cells #[.int .i64 s.f0, .int .i64 s.f1, .int .i64 s.f2, .int .i64 s.f3, .int .i64 s.f4, .int .i64 s.f5, .int .i64 s.f6] 29)) = W at HB0 B1 B2 ⊢
  have hc1 := blk_cell B1.out
  have hf1 := blk_frozen B1.out
  go_wp2_with (go_at_call 89; refine (HS.out W B1.out B2.out (Kd.C_below HR.out HB0.out)).mono ?_; rintro e w5 ⟨rfl, hb⟩; have HB5 := Aside0.mk (below_step HB0.out hb); clear hb)
  go_ret
  exact ⟨rfl, HB5.out⟩
 ·rw [if_neg ho] at h; cases h
end Go.Proofs.Ytdilndbanhianaa.P
end
section
set_option linter.unusedVariables false
set_option linter.unusedSimpArgs false
namespace Go.Proofs.Ytdilndbanhianaa.P
open Go.RowKit Go.Proofs.YtdilndbanhianaaW.PrintWords Go.Proofs.YtdilndbanhianaaW.PrintLast Go.Proofs.YtdilndbanhianaaW.PrintMore
attribute [local go_sem high] eqA29
def neS (a b : S29) : Bool := !(a.f0 == b.f0) || (!(a.f1 == b.f1) || (!(a.f2 == b.f2) || (!(a.f3 == b.f3) || (!(a.f4 == b.f4) || (!(a.f5 == b.f5) || (!(a.f6 == b.f6)))))))
def keyS (c b : Int) : S29 := ⟨0, c, b, 0, 0, 0, 0⟩
/-- What Take says. -/
def takS (l : List S29) (n c b : Int) : List S29 × Int :=
 if ¬ chkS l n = 0 then ([], chkS l n)
 else if h : placeN l (keyS c b) < l.length then
  (if l[placeN l (keyS c b)].f1 = c then (if l[placeN l (keyS c b)].f2 = b then (l.filter (fun s => neS s l[placeN l (keyS c b)]), 0) else ([], 6)) else ([], 6))
 else ([], 6)
def staff_Take.f (l0 : List S29) (a1 a2 a3 : Int) : Option (List S29 × Int) := some (takS l0 a1 a2 a3)
theorem tak_len (l : List S29) (n : Int) (h : chkS l n = 0) : l.length ≤ 256 := by
 unfold chkS at h
 split at h
 ·cases h
 ·split at h
  ·cases h
  ·omega
theorem tak_ord (l : List S29) (n : Int) (h : chkS l n = 0) : ordS l = true := by
 unfold chkS at h
 split at h
 ·cases h
 ·split at h
  ·cases h
  ·split at h
   ·rename_i h1; exact absurd h h1
   ·split at h
    ·cases h
    ·rename_i h2; exact Bool.not_eq_false _ ▸ h2
set_option maxHeartbeats 4000000 in
set_option maxRecDepth 100000 in
theorem staff_Take.calls (A0 : Option Addr) (c0 : Nat) (l0 : List S29) (a1 a2 a3 : Int) (r1 : List S29) (r2 : Int) (w : World) (hr0 : Kd.C k29 w A0 l0.length l0) (hc0 : l0.length ≤ c0) (h : staff_Take.f l0 a1 a2 a3 = some (r1, r2)) :
  Calls Try.prog 25 #[.slice A0 l0.length c0, .int .i64 a1, .int .i64 a2, .int .i64 a3] w fun e w' => ∃ v0_ : Value, e = .returned (.tuple #[v0_, .int .i64 r2]) ∧ Kd.R k29 29 w' w.heap.size (fun _ => True) v0_ r1 ∧ Below w.heap.size w w' := by
 have hu29 := Try.underlying29
 have H1 := Option.some.inj h
 have HR := Aside0.mk hr0
 have HC := Aside0.mk hc0
 have HB := Aside0.mk (Below.refl w.heap.size w)
 clear h hr0 hc0
 obtain ⟨ce, hce⟩ : ∃ ce, chkS l0 a1 = ce := ⟨_, rfl⟩
 have HQ : Aside0 (staff_Check.f l0 a1 = some ce) := ⟨congrArg some hce⟩
 unfold takS at H1
 rw [hce] at H1
 go_enter Try.func25, Try.ntmps25
 by_cases h1 : ce = 0
 ·subst h1
  rw [if_neg (by decide)] at H1
  have hL := tak_len _ _ hce
  have hO := tak_ord _ _ hce
  have HPL : Aside0 (staff_place.f l0 0 a2 a3 0 0 0 0 = some (placeN l0 (keyS a2 a3) : Int)) := ⟨by unfold staff_place.f; rw [if_pos ⟨hO, hL⟩]; rfl⟩
  have hml := (place_at l0 (keyS a2 a3) hO).1
  have HL := Aside0.mk hL
  clear hce hO hL
  generalize placeN l0 (keyS a2 a3) = k at H1 HPL hml
  by_cases h2 : k < l0.length
  ·rw [dif_pos h2] at H1
   have e2 : ((k : Int) == (l0.length : Int)) = false := by simp; omega
   have e2' : (k == l0.length) = false := by simp; omega
   obtain ⟨K, hK⟩ : ∃ K : Int, (k : Int) = K := ⟨_, rfl⟩
   obtain ⟨ad, e0, hw0, hw1, hw2, hw3, hw4, hw5, hw6⟩ := at_T29 HR.out K (by omega) (by omega)
   cases e0
   have hra : rd_T29 l0 K = l0[k] := by rw [← hK, rd29_at h2]
   have p0 : (0 ≤ K) = True := eq_true (by omega)
   have p1 : (K < (l0.length : Int)) = True := eq_true (by omega)
   rw [hK] at HPL e2
   have HKK := Aside0.mk hK
   generalize hyk : l0[k]'h2 = y at H1 hra
   rw [hra] at hw0 hw1 hw2 hw3 hw4 hw5 hw6
   clear hyk hra hml e2'
   have HI2 := Aside0.mk h2
   clear h2 hK
   by_cases h3 : y.f1 = a2
   ·rw [if_pos h3] at H1
    have e3 : (y.f1 != a2) = false := by simp [h3]
    by_cases h4 : y.f2 = a3
    ·rw [if_pos h4] at H1
     have e4 : (y.f2 != a3) = false := by simp [h4]
     have H2 := Aside0.mk H1
     clear H1 h3 h4
     go_upto_region 8 with (first | (go_at_call 20; refine (staff_Check.calls _ c0 l0 a1 _ _ (Kd.C_below HR.out HB.out) HC.out HQ.out).mono ?_; rintro e W1 ⟨rfl, hb⟩; have HB1 := Aside0.mk (below_step HB.out hb); clear hb) | (go_at_call 62; refine (staff_place.calls _ c0 l0 0 a2 a3 0 0 0 0 _ _ (Kd.C_below HR.out HB1.out) HC.out HPL.out).mono ?_; rintro e W2 ⟨rfl, hb⟩; have HB2 := Aside0.mk (below_step HB1.out hb); clear hb; have hy0 := (HB2.out.cell (World.block_lt_of_cell? w _ hw0)).trans hw0; have hy1 := (HB2.out.cell (World.block_lt_of_cell? w _ hw1)).trans hw1; have hy2 := (HB2.out.cell (World.block_lt_of_cell? w _ hw2)).trans hw2; have hy3 := (HB2.out.cell (World.block_lt_of_cell? w _ hw3)).trans hw3; have hy4 := (HB2.out.cell (World.block_lt_of_cell? w _ hw4)).trans hw4; have hy5 := (HB2.out.cell (World.block_lt_of_cell? w _ hw5)).trans hw5; have hy6 := (HB2.out.cell (World.block_lt_of_cell? w _ hw6)).trans hw6))
     clear hy0 hy1 hy2 hy3 hy4 hy5 hy6
     go_wp2
     go_loopg [12, 50] l0.length (fun kq v12 v50 W => ∃ (i : Nat), v50 = .int .i64 (i : Int) ∧ Aside0 (i + kq = l0.length) ∧ Aside0 (Kd.R k29 29 W w.heap.size (fun _ => True) v12 ((l0.take i).filter (fun s => neS s y))) ∧ Aside0 (Below w.heap.size w W))
     case atStart => exact ⟨0, rfl, ⟨by omega⟩, ⟨Kd.R_nil _ _ _ _ _⟩, HB2⟩
     case round =>
      clear HB2 HB1 HB
      obtain ⟨i, rfl, HK, HO, HB⟩ := hrel
      cases gk with
      | zero =>
       have hi : i = l0.length := by have := HK.out; omega
       have hlt : decide (i < l0.length) = false := by simp; omega
       have ho := HO.out
       rw [hi, List.take_length] at ho
       obtain ⟨rfl, rfl⟩ := Prod.mk.inj H2.out
       clear hi
       go_wp2
       go_ret2
       exact ⟨_, rfl, ho, HB.out⟩
      | succ k1 =>
       have hi : i < l0.length := by have := HK.out; omega
       have hlt : decide (i < l0.length) = true := by simp; exact hi
       obtain ⟨ad', e0, hx0, hx1, hx2, hx3, hx4, hx5, hx6⟩ := at_T29 HR.out (i : Int) (by omega) (by omega)
       obtain rfl : ad = ad' := by injection e0
       clear e0
       rw [Int.toNat_natCast] at hx0 hx1 hx2 hx3 hx4 hx5 hx6
       rw [rd29_at hi] at hx0 hx1 hx2 hx3 hx4 hx5 hx6
       replace hx0 := hbC HB hx0
       replace hx1 := hbC HB hx1
       replace hx2 := hbC HB hx2
       replace hx3 := hbC HB hx3
       replace hx4 := hbC HB hx4
       replace hx5 := hbC HB hx5
       replace hx6 := hbC HB hx6
       have q0 : (0 ≤ ((i : Nat) : Int)) = True := by simp
       have q1 : (((i : Nat) : Int) < (l0.length : Int)) = True := by simp; exact hi
       have htk : (l0.take (i + 1)).filter (fun s => neS s y) = (l0.take i).filter (fun s => neS s y) ++ (if neS l0[i] y = true then [l0[i]] else []) := by
        rw [List.take_add_one, List.getElem?_eq_getElem hi, List.filter_append]
        cases hh : neS l0[i] y <;> simp [hh]
       have HT := Aside0.mk htk
       generalize l0[i]'hi = x at hx0 hx1 hx2 hx3 hx4 hx5 hx6 HT
       have hlen : ((l0.take i).filter (fun s => neS s y)).length ≤ i := Nat.le_trans (List.length_filter_le _ _) (by rw [List.length_take]; omega)
       have HLEN := Aside0.mk hlen
       have HI := Aside0.mk hi
       clear hi htk hlen
       go_upto_region 11 with (fail)
       have HB1 : Aside0 (Below w.heap.size w (wr.alloc (.cells #[.int .i64 x.f0, .int .i64 x.f1, .int .i64 x.f2, .int .i64 x.f3, .int .i64 x.f4, .int .i64 x.f5, .int .i64 x.f6] 29))) := ⟨below_alloc HB.out _⟩
       have HO1 : Aside0 (Kd.R k29 29 (wr.alloc (.cells #[.int .i64 x.f0, .int .i64 x.f1, .int .i64 x.f2, .int .i64 x.f3, .int .i64 x.f4, .int .i64 x.f5, .int .i64 x.f6] 29)) w.heap.size (fun _ => True) u12 ((l0.take i).filter (fun s => neS s y))) := ⟨Kd.R_alloc HO.out _⟩
       have B7 : Aside0 ((wr.alloc (.cells #[.int .i64 x.f0, .int .i64 x.f1, .int .i64 x.f2, .int .i64 x.f3, .int .i64 x.f4, .int .i64 x.f5, .int .i64 x.f6] 29)).heap[wr.heap.size]? = some (.cells #[.int .i64 x.f0, .int .i64 x.f1, .int .i64 x.f2, .int .i64 x.f3, .int .i64 x.f4, .int .i64 x.f5, .int .i64 x.f6] 29 (0, 0))) := ⟨blk_new _ _⟩
       clear hx0 hx1 hx2 hx3 hx4 hx5 hx6 HO HB
       generalize (wr.alloc (.cells #[.int .i64 x.f0, .int .i64 x.f1, .int .i64 x.f2, .int .i64 x.f3, .int .i64 x.f4, .int .i64 x.f5, .int .i64 x.f6] 29)) = W1 at HB1 HO1 B7 ⊢
       generalize wr.heap.size = g7 at B7 ⊢
       have HB2 := Aside0.mk (below_drew1 HB1.out)
       have HO2 := Aside0.mk (Kd.R_drew HO1.out)
       have B72 := Aside0.mk (blk_drew B7.out)
       have hy0 := (HB1.out.cell (World.block_lt_of_cell? w _ hw0)).trans hw0
       have hy1 := (HB1.out.cell (World.block_lt_of_cell? w _ hw1)).trans hw1
       have hy2 := (HB1.out.cell (World.block_lt_of_cell? w _ hw2)).trans hw2
       have hy3 := (HB1.out.cell (World.block_lt_of_cell? w _ hw3)).trans hw3
       have hy4 := (HB1.out.cell (World.block_lt_of_cell? w _ hw4)).trans hw4
       have hy5 := (HB1.out.cell (World.block_lt_of_cell? w _ hw5)).trans hw5
       have hy6 := (HB1.out.cell (World.block_lt_of_cell? w _ hw6)).trans hw6
       refine start_ (n := 6) (S := fun w' => w'.cell? ⟨g7, 0, none⟩ = some (.int .i64 x.f0) ∧ w'.cell? ⟨g7, 1, none⟩ = some (.int .i64 x.f1) ∧ w'.cell? ⟨g7, 2, none⟩ = some (.int .i64 x.f2) ∧ w'.cell? ⟨g7, 3, none⟩ = some (.int .i64 x.f3) ∧ w'.cell? ⟨g7, 4, none⟩ = some (.int .i64 x.f4) ∧ w'.cell? ⟨g7, 5, none⟩ = some (.int .i64 x.f5) ∧ w'.cell? ⟨g7, 6, none⟩ = some (.int .i64 x.f6) ∧ w'.cell? (ad.add (K.toNat * 7)) = some (.int .i64 y.f0) ∧ w'.cell? ⟨(ad.add (K.toNat * 7)).block, (ad.add (K.toNat * 7)).off + 1, none⟩ = some (.int .i64 y.f1) ∧ w'.cell? ⟨(ad.add (K.toNat * 7)).block, (ad.add (K.toNat * 7)).off + 2, none⟩ = some (.int .i64 y.f2) ∧ w'.cell? ⟨(ad.add (K.toNat * 7)).block, (ad.add (K.toNat * 7)).off + 3, none⟩ = some (.int .i64 y.f3) ∧ w'.cell? ⟨(ad.add (K.toNat * 7)).block, (ad.add (K.toNat * 7)).off + 4, none⟩ = some (.int .i64 y.f4) ∧ w'.cell? ⟨(ad.add (K.toNat * 7)).block, (ad.add (K.toNat * 7)).off + 5, none⟩ = some (.int .i64 y.f5) ∧ w'.cell? ⟨(ad.add (K.toNat * 7)).block, (ad.add (K.toNat * 7)).off + 6, none⟩ = some (.int .i64 y.f6)) (ds := []) #[false, false, false, false, false, false] rfl rfl rfl ⟨(blk_cell B7.out 0).trans rfl, (blk_cell B7.out 1).trans rfl, (blk_cell B7.out 2).trans rfl, (blk_cell B7.out 3).trans rfl, (blk_cell B7.out 4).trans rfl, (blk_cell B7.out 5).trans rfl, (blk_cell B7.out 6).trans rfl, hy0, hy1, hy2, hy3, hy4, hy5, hy6⟩ (fun hHeld => ?_)
       clear HB1 HO1 B7 hy0 hy1 hy2 hy3 hy4 hy5 hy6
       generalize W1.drew = W2 at HB2 HO2 B72 hHeld ⊢
       refine tkA 0 54 (bs 6 1) hHeld ?_
       refine puA 1 55 (bs 6 3) ?_
       refine puA 2 56 (bs 6 7) ?_
       refine puA 3 57 (bs 6 15) ?_
       refine tkA 4 58 (bs 6 31) hHeld ?_
       refine puA 5 59 (bs 6 63) ?_
       refine done_ (by kernel_rfl) ?_
       clear hHeld
       cases hh : neS x y
       ·have hh' : (!(x.f0 == y.f0) || (!(x.f1 == y.f1) || (!(x.f2 == y.f2) || (!(x.f3 == y.f3) || (!(x.f4 == y.f4) || (!(x.f5 == y.f5) || (!(x.f6 == y.f6)))))))) = false := hh
        rw [hh']
        have ht := HT.out
        rw [hh, if_neg (by decide), List.append_nil] at ht
        have HT2 := Aside0.mk ht
        clear hh hh' ht
        go_wp2
        go_roundg k1
        case measure => have := HK.out; omega
        case rel => exact ⟨i + 1, by first | (simp; done) | (simp; rw [wrap_in _ (by have := HL.out; have := HI.out; omega) (by have := HL.out; have := HI.out; omega)]), ⟨by have := HK.out; omega⟩, ⟨by rw [HT2.out]; exact HO2.out⟩, HB2⟩
       ·have hh' : (!(x.f0 == y.f0) || (!(x.f1 == y.f1) || (!(x.f2 == y.f2) || (!(x.f3 == y.f3) || (!(x.f4 == y.f4) || (!(x.f5 == y.f5) || (!(x.f6 == y.f6)))))))) = true := hh
        rw [hh']
        have ht := HT.out
        rw [hh, if_pos rfl] at ht
        have HT2 := Aside0.mk ht
        clear hh hh' ht
        have hc7 := blk_cell B72.out
        go_wp2_with (first | ((with_reducible refine gate_builtin (b := .append) (xs := #[.tmp 60, .tmp 62]) rfl ?_); at_builtin; refine Kd.R_append k29 (w0 := w) w.heap.size rfl (.tmp 60) (.tmp 62) 22 29 (.agg #[(.int .i64 0), (.int .i64 0), (.int .i64 0), (.int .i64 0), (.int .i64 0), (.int .i64 0), (.int .i64 0)]) 56 rfl Try.underlying22 info29 rfl (by decide) (by omega) u12 ((l0.take i).filter (fun s => neS s y)) x [.int .i64 x.f0, .int .i64 x.f1, .int .i64 x.f2, .int .i64 x.f3, .int .i64 x.f4, .int .i64 x.f5, .int .i64 x.f6] (fun _ => True) (fun _ => False) rfl (by first | (go_simp; done) | (go_simp; rfl)) (k29_mkM _ _ _ x) (fun _ hk => hk.elim) (fun _ _ => trivial) HO2.out HB2.out (below_size HB2.out) (by have := HL.out; have := HI.out; have := HLEN.out; omega) ?_; intro v6 w6 ho6 hb6 hg6 hat6; have HO6 := Aside0.mk ho6; have HB6 := Aside0.mk hb6; clear ho6 hb6 hg6 hat6))
        go_roundg k1
        case measure => have := HK.out; omega
        case rel => exact ⟨i + 1, by first | (simp; done) | (simp; rw [wrap_in _ (by have := HL.out; have := HI.out; omega) (by have := HL.out; have := HI.out; omega)]), ⟨by have := HK.out; omega⟩, ⟨by rw [HT2.out]; exact HO6.out⟩, HB6⟩
    ·rw [if_neg h4] at H1
     obtain ⟨rfl, rfl⟩ := Prod.mk.inj H1
     have e4 : (y.f2 != a3) = true := bne_iff_ne.mpr h4
     clear H1 h3 h4
     go_wp2_with (first | (go_at_call 20; refine (staff_Check.calls _ c0 l0 a1 _ _ (Kd.C_below HR.out HB.out) HC.out HQ.out).mono ?_; rintro e W1 ⟨rfl, hb⟩; have HB1 := Aside0.mk (below_step HB.out hb); clear hb) | (go_at_call 62; refine (staff_place.calls _ c0 l0 0 a2 a3 0 0 0 0 _ _ (Kd.C_below HR.out HB1.out) HC.out HPL.out).mono ?_; rintro e W2 ⟨rfl, hb⟩; have HB2 := Aside0.mk (below_step HB1.out hb); clear hb; have hy0 := (HB2.out.cell (World.block_lt_of_cell? w _ hw0)).trans hw0; have hy1 := (HB2.out.cell (World.block_lt_of_cell? w _ hw1)).trans hw1; have hy2 := (HB2.out.cell (World.block_lt_of_cell? w _ hw2)).trans hw2; have hy3 := (HB2.out.cell (World.block_lt_of_cell? w _ hw3)).trans hw3; have hy4 := (HB2.out.cell (World.block_lt_of_cell? w _ hw4)).trans hw4; have hy5 := (HB2.out.cell (World.block_lt_of_cell? w _ hw5)).trans hw5; have hy6 := (HB2.out.cell (World.block_lt_of_cell? w _ hw6)).trans hw6))
     go_ret2
     exact ⟨_, rfl, Kd.R_nil _ _ _ _ _, HB2.out⟩
   ·rw [if_neg h3] at H1
    obtain ⟨rfl, rfl⟩ := Prod.mk.inj H1
    have e3 : (y.f1 != a2) = true := bne_iff_ne.mpr h3
    clear H1 h3
    go_wp2_with (first | (go_at_call 20; refine (staff_Check.calls _ c0 l0 a1 _ _ (Kd.C_below HR.out HB.out) HC.out HQ.out).mono ?_; rintro e W1 ⟨rfl, hb⟩; have HB1 := Aside0.mk (below_step HB.out hb); clear hb) | (go_at_call 62; refine (staff_place.calls _ c0 l0 0 a2 a3 0 0 0 0 _ _ (Kd.C_below HR.out HB1.out) HC.out HPL.out).mono ?_; rintro e W2 ⟨rfl, hb⟩; have HB2 := Aside0.mk (below_step HB1.out hb); clear hb; have hy0 := (HB2.out.cell (World.block_lt_of_cell? w _ hw0)).trans hw0; have hy1 := (HB2.out.cell (World.block_lt_of_cell? w _ hw1)).trans hw1; have hy2 := (HB2.out.cell (World.block_lt_of_cell? w _ hw2)).trans hw2; have hy3 := (HB2.out.cell (World.block_lt_of_cell? w _ hw3)).trans hw3; have hy4 := (HB2.out.cell (World.block_lt_of_cell? w _ hw4)).trans hw4; have hy5 := (HB2.out.cell (World.block_lt_of_cell? w _ hw5)).trans hw5; have hy6 := (HB2.out.cell (World.block_lt_of_cell? w _ hw6)).trans hw6))
    go_ret2
    exact ⟨_, rfl, Kd.R_nil _ _ _ _ _, HB2.out⟩
  ·rw [dif_neg h2] at H1
   obtain ⟨rfl, rfl⟩ := Prod.mk.inj H1
   have e2 : ((k : Int) == (l0.length : Int)) = true := by simp; omega
   have e2' : (k == l0.length) = true := by simp; omega
   clear H1 h2 hml
   go_wp2_with (first | (go_at_call 20; refine (staff_Check.calls _ c0 l0 a1 _ _ (Kd.C_below HR.out HB.out) HC.out HQ.out).mono ?_; rintro e W1 ⟨rfl, hb⟩; have HB1 := Aside0.mk (below_step HB.out hb); clear hb) | (go_at_call 62; refine (staff_place.calls _ c0 l0 0 a2 a3 0 0 0 0 _ _ (Kd.C_below HR.out HB1.out) HC.out HPL.out).mono ?_; rintro e W2 ⟨rfl, hb⟩; have HB2 := Aside0.mk (below_step HB1.out hb); clear hb))
   go_ret2
   exact ⟨_, rfl, Kd.R_nil _ _ _ _ _, HB2.out⟩
 ·rw [if_pos h1] at H1
  obtain ⟨rfl, rfl⟩ := Prod.mk.inj H1
  have hne0 : (ce != 0) = true := bne_iff_ne.mpr h1
  clear H1 hce h1
  go_wp2_with (first | (go_at_call 20; refine (staff_Check.calls _ c0 l0 a1 _ _ (Kd.C_below HR.out HB.out) HC.out HQ.out).mono ?_; rintro e W1 ⟨rfl, hb⟩; have HB1 := Aside0.mk (below_step HB.out hb); clear hb))
  go_ret2
  exact ⟨_, rfl, Kd.R_nil _ _ _ _ _, HB1.out⟩
end Go.Proofs.Ytdilndbanhianaa.P
end
section
set_option linter.unusedVariables false
set_option linter.unusedSimpArgs false
namespace Go.Proofs.Ytdilndbanhianaa.P
open Go.RowKit Go.Proofs.YtdilndbanhianaaW.PrintWords Go.Proofs.YtdilndbanhianaaW.PrintLast Go.Proofs.YtdilndbanhianaaW.PrintMore
def badC (f t : Int) (x : S29) : Bool := (decide (x.f2 < f) && decide (f < wrap64 (x.f2 + x.f3))) || (decide (x.f2 < t) && decide (t < wrap64 (x.f2 + x.f3)))
def inC (f t : Int) (x : S29) : Bool := decide (f ≤ x.f2) && decide (x.f2 < t)
/-- What Cut says. -/
def cutP (l : List S29) (n f t : Int) : List S29 × Int :=
 if ¬ chkS l n = 0 then ([], chkS l n)
 else if f < 0 ∨ t ≤ f ∨ n < t then ([], 1)
 else if l.any (badC f t) = true then ([], 17)
 else ((l.filter (inC f t)).map (movS (wrap64 (-f))), 0)
def staff_Cut.f (l0 : List S29) (a1 b0 b1 : Int) : Option (List S29 × Int) := some (cutP l0 a1 b0 b1)
set_option maxHeartbeats 4000000 in
set_option maxRecDepth 100000 in
theorem staff_Cut.calls (A0 : Option Addr) (c0 : Nat) (l0 : List S29) (a1 b0 b1 : Int) (r1 : List S29) (r2 : Int) (w : World) (hr0 : Kd.C k29 w A0 l0.length l0) (hc0 : l0.length ≤ c0) (h : staff_Cut.f l0 a1 b0 b1 = some (r1, r2)) :
  Calls Try.prog 34 #[.slice A0 l0.length c0, .int .i64 a1, .agg #[.int .i64 b0, .int .i64 b1]] w fun e w' => ∃ v0_ : Value, e = .returned (.tuple #[v0_, .int .i64 r2]) ∧ Kd.R k29 29 w' w.heap.size (fun _ => True) v0_ r1 ∧ Below w.heap.size w w' := by
 have hu29 := Try.underlying29
 have H1 := Option.some.inj h
 have HR := Aside0.mk hr0
 have HC := Aside0.mk hc0
 clear h hr0 hc0
 obtain ⟨ce, hce⟩ : ∃ ce, chkS l0 a1 = ce := ⟨_, rfl⟩
 have HQ : Aside0 (staff_Check.f l0 a1 = some ce) := ⟨congrArg some hce⟩
 unfold cutP at H1
 rw [hce] at H1
 go_enter Try.func34, Try.ntmps34
 go_upto_region 1 with (fail)
 have hb0 : Below w.heap.size w (w.alloc (.cells #[.int .i64 b0, .int .i64 b1] 45)) := below_alloc (Below.refl _ _) _
 have hb5 : (w.alloc (.cells #[.int .i64 b0, .int .i64 b1] 45)).heap[w.heap.size]? = some (.cells #[.int .i64 b0, .int .i64 b1] 45 (0, 0)) := blk_new _ _
 generalize (w.alloc (.cells #[.int .i64 b0, .int .i64 b1] 45)) = W0 at hb0 hb5 ⊢
 obtain ⟨g5, hg5⟩ : ∃ g, w.heap.size = g := ⟨_, rfl⟩
 have B5 : Aside0 (W0.heap[g5]? = some (.cells #[.int .i64 b0, .int .i64 b1] 45 (0, 0))) := ⟨by rw [← hg5]; exact hb5⟩
 have hptr : Value.pointer (some { block := w.heap.size, off := 0 }) = Value.pointer (some { block := g5, off := 0 }) := by rw [hg5]
 rw [hptr]
 have HB := Aside0.mk hb0
 clear hptr hg5 hb5 hb0
 by_cases h1 : ce = 0
 ·subst h1
  rw [if_neg (by decide)] at H1
  have HL := Aside0.mk (tak_len _ _ hce)
  clear hce
  by_cases h2 : b0 < 0 ∨ b1 ≤ b0 ∨ a1 < b1
  ·rw [if_pos h2] at H1
   obtain ⟨rfl, rfl⟩ := Prod.mk.inj H1
   by_cases h3 : b0 < 0
   ·have e1 : decide (b0 < 0) = true := decide_eq_true h3
    clear H1 h2 h3
    go_wp2_with (first | (go_at_call 20; refine (staff_Check.calls _ c0 l0 a1 _ _ (Kd.C_below HR.out HB.out) HC.out HQ.out).mono ?_; rintro e W1 ⟨rfl, hb⟩; have HB1 := Aside0.mk (below_step HB.out hb); have B51 := Aside0.mk (blk_below B5.out hb); have hc5 := blk_cell B51.out; clear hb))
    go_ret2
    exact ⟨_, rfl, Kd.R_nil _ _ _ _ _, HB1.out⟩
   ·have e1 : decide (b0 < 0) = false := decide_eq_false h3
    by_cases h4 : b1 ≤ b0
    ·have e2 : decide (b1 ≤ b0) = true := decide_eq_true h4
     clear H1 h2 h3 h4
     go_wp2_with (first | (go_at_call 20; refine (staff_Check.calls _ c0 l0 a1 _ _ (Kd.C_below HR.out HB.out) HC.out HQ.out).mono ?_; rintro e W1 ⟨rfl, hb⟩; have HB1 := Aside0.mk (below_step HB.out hb); have B51 := Aside0.mk (blk_below B5.out hb); have hc5 := blk_cell B51.out; clear hb))
     go_ret2
     exact ⟨_, rfl, Kd.R_nil _ _ _ _ _, HB1.out⟩
    ·have e2 : decide (b1 ≤ b0) = false := decide_eq_false h4
     have e3 : decide (a1 < b1) = true := decide_eq_true (by omega)
     clear H1 h2 h3 h4
     go_wp2_with (first | (go_at_call 20; refine (staff_Check.calls _ c0 l0 a1 _ _ (Kd.C_below HR.out HB.out) HC.out HQ.out).mono ?_; rintro e W1 ⟨rfl, hb⟩; have HB1 := Aside0.mk (below_step HB.out hb); have B51 := Aside0.mk (blk_below B5.out hb); have hc5 := blk_cell B51.out; clear hb))
     go_ret2
     exact ⟨_, rfl, Kd.R_nil _ _ _ _ _, HB1.out⟩
  ·rw [if_neg h2] at H1
   have e1 : decide (b0 < 0) = false := by simp; omega
   have e2 : decide (b1 ≤ b0) = false := by simp; omega
   have e3 : decide (a1 < b1) = false := by simp; omega
   have HFT : Aside0 (0 ≤ b0 ∧ b0 < b1) := ⟨by omega, by omega⟩
   have H2 := Aside0.mk H1
   clear H1 h2
   go_upto_region 7 with (first | (go_at_call 20; refine (staff_Check.calls _ c0 l0 a1 _ _ (Kd.C_below HR.out HB.out) HC.out HQ.out).mono ?_; rintro e W1 ⟨rfl, hb⟩; have HB1 := Aside0.mk (below_step HB.out hb); have B51 := Aside0.mk (blk_below B5.out hb); have hc5 := blk_cell B51.out; clear hb))
   clear hc5
   go_wp2
   go_loopg [9, 36] l0.length (fun kq v9 v36 W => ∃ (i : Nat), v36 = .int .i64 (i : Int) ∧ Aside0 (i + kq = l0.length) ∧ Aside0 (Kd.R k29 29 W w.heap.size (fun k => k ≠ g5) v9 ((l0.take i).filter (inC b0 b1))) ∧ Aside0 ((l0.take i).any (badC b0 b1) = false) ∧ Aside0 (W.heap[g5]? = some (.cells #[.int .i64 b0, .int .i64 b1] 45 (0, 0))) ∧ Aside0 (Below w.heap.size w W))
   case atStart => exact ⟨0, rfl, ⟨by omega⟩, ⟨Kd.R_nil _ _ _ _ _⟩, ⟨rfl⟩, B51, HB1⟩
   case round =>
    clear HB1 HB B5 B51
    obtain ⟨i, rfl, HK, HO, HANY, B5, HB⟩ := hrel
    cases gk with
    | zero =>
     have hi : i = l0.length := by have := HK.out; omega
     have hlt : decide (i < l0.length) = false := by simp; omega
     have ho := HO.out
     have hany := HANY.out
     rw [hi, List.take_length] at ho hany
     have h2 := H2.out
     rw [hany, if_neg (by decide)] at h2
     obtain ⟨rfl, rfl⟩ := Prod.mk.inj h2
     have hfl : (l0.filter (inC b0 b1)).length ≤ 256 := Nat.le_trans (List.length_filter_le _ _) HL.out
     have HMV : Aside0 (staff_moved.f (l0.filter (inC b0 b1)) (wrap64 (-b0)) = some ((l0.filter (inC b0 b1)).map (movS (wrap64 (-b0))))) := ⟨by unfold staff_moved.f; rw [if_pos hfl]⟩
     generalize hq : l0.filter (inC b0 b1) = q at ho HMV
     have HQQ := Aside0.mk hq
     clear hq
     obtain ⟨A9, c9, rfl⟩ := Kd.R_slice ho
     have hreads := Kd.R_reads' ho
     have HC9 := Aside0.mk hreads
     have hc5 := blk_cell B5.out
     clear hi h2 hany hreads hfl
     go_wp2_with (first | (go_at_call 64; refine (staff_moved.calls _ c9 q (wrap64 (-b0)) _ _ HC9.out.2.2 HC9.out.2.1 HMV.out).mono ?_; rintro e W9 ⟨v9', rfl, hr9, hb9⟩))
     go_ret2
     exact ⟨v9', rfl, by rw [HQQ.out]; exact Kd.R_lower hr9 (below_size HB.out), below_step HB.out hb9⟩
    | succ k1 =>
     have hi : i < l0.length := by have := HK.out; omega
     have hlt : decide (i < l0.length) = true := by simp; exact hi
     obtain ⟨ad, e0, hx0, hx1, hx2, hx3, hx4, hx5, hx6⟩ := at_T29 HR.out (i : Int) (by omega) (by omega)
     cases e0
     rw [Int.toNat_natCast] at hx0 hx1 hx2 hx3 hx4 hx5 hx6
     rw [rd29_at hi] at hx0 hx1 hx2 hx3 hx4 hx5 hx6
     replace hx0 := hbC HB hx0
     replace hx1 := hbC HB hx1
     replace hx2 := hbC HB hx2
     replace hx3 := hbC HB hx3
     replace hx4 := hbC HB hx4
     replace hx5 := hbC HB hx5
     replace hx6 := hbC HB hx6
     have q0 : (0 ≤ ((i : Nat) : Int)) = True := by simp
     have q1 : (((i : Nat) : Int) < (l0.length : Int)) = True := by simp; exact hi
     have htk : (l0.take (i + 1)).filter (inC b0 b1) = (l0.take i).filter (inC b0 b1) ++ (if inC b0 b1 l0[i] = true then [l0[i]] else []) := by
      rw [List.take_add_one, List.getElem?_eq_getElem hi, List.filter_append]
      cases hh : inC b0 b1 l0[i] <;> simp [hh]
     have hnb : badC b0 b1 l0[i] = false → (l0.take (i + 1)).any (badC b0 b1) = false := by
      intro hh
      rw [List.take_add_one, List.getElem?_eq_getElem hi, List.any_append, HANY.out]
      simp [hh]
     have hbd : badC b0 b1 l0[i] = true → r1 = [] ∧ r2 = 17 := by
      intro hh
      have h2 := H2.out
      rw [if_pos (List.any_eq_true.mpr ⟨_, List.getElem_mem hi, hh⟩)] at h2
      obtain ⟨rfl, rfl⟩ := Prod.mk.inj h2
      exact ⟨rfl, rfl⟩
     have HT := Aside0.mk htk
     have HNB := Aside0.mk hnb
     have HBAD := Aside0.mk hbd
     clear htk hnb hbd
     generalize l0[i]'hi = x at hx0 hx1 hx2 hx3 hx4 hx5 hx6 HT HNB HBAD
     have hlen : ((l0.take i).filter (inC b0 b1)).length ≤ i := Nat.le_trans (List.length_filter_le _ _) (by rw [List.length_take]; omega)
     have HLEN := Aside0.mk hlen
     have HI := Aside0.mk hi
     obtain ⟨ex, hex⟩ : ∃ ex, wrap64 (x.f2 + x.f3) = ex := ⟨_, rfl⟩
     have HE : Aside0 (staff_end.f x.f0 x.f1 x.f2 x.f3 x.f4 x.f5 x.f6 = some ex) := ⟨by rw [← hex]; rfl⟩
     have hbx : badC b0 b1 x = ((decide (x.f2 < b0) && decide (b0 < ex)) || (decide (x.f2 < b1) && decide (b1 < ex))) := by unfold badC; rw [hex]
     have HBX := Aside0.mk hbx
     clear hi hlen hex hbx
     go_upto_region 10 with (fail)
     have HB1 : Aside0 (Below w.heap.size w (wr.alloc (.cells #[.int .i64 x.f0, .int .i64 x.f1, .int .i64 x.f2, .int .i64 x.f3, .int .i64 x.f4, .int .i64 x.f5, .int .i64 x.f6] 29))) := ⟨below_alloc HB.out _⟩
     have HO1 : Aside0 (Kd.R k29 29 (wr.alloc (.cells #[.int .i64 x.f0, .int .i64 x.f1, .int .i64 x.f2, .int .i64 x.f3, .int .i64 x.f4, .int .i64 x.f5, .int .i64 x.f6] 29)) w.heap.size (fun k => k ≠ g5) u9 ((l0.take i).filter (inC b0 b1))) := ⟨Kd.R_alloc HO.out _⟩
     have B11 : Aside0 ((wr.alloc (.cells #[.int .i64 x.f0, .int .i64 x.f1, .int .i64 x.f2, .int .i64 x.f3, .int .i64 x.f4, .int .i64 x.f5, .int .i64 x.f6] 29)).heap[wr.heap.size]? = some (.cells #[.int .i64 x.f0, .int .i64 x.f1, .int .i64 x.f2, .int .i64 x.f3, .int .i64 x.f4, .int .i64 x.f5, .int .i64 x.f6] 29 (0, 0))) := ⟨blk_new _ _⟩
     have B51 : Aside0 ((wr.alloc (.cells #[.int .i64 x.f0, .int .i64 x.f1, .int .i64 x.f2, .int .i64 x.f3, .int .i64 x.f4, .int .i64 x.f5, .int .i64 x.f6] 29)).heap[g5]? = some (.cells #[.int .i64 b0, .int .i64 b1] 45 (0, 0))) := ⟨blk_alloc B5.out _⟩
     clear hx0 hx1 hx2 hx3 hx4 hx5 hx6 HO HB B5 hlt q0 q1
     generalize (wr.alloc (.cells #[.int .i64 x.f0, .int .i64 x.f1, .int .i64 x.f2, .int .i64 x.f3, .int .i64 x.f4, .int .i64 x.f5, .int .i64 x.f6] 29)) = W1 at HB1 HO1 B11 B51 ⊢
     generalize wr.heap.size = g11 at B11 ⊢
     by_cases p1 : x.f2 < b0
     ·have d1 : decide (x.f2 < b0) = true := decide_eq_true p1
      by_cases p2 : b0 < ex
      ·have d2 : decide (b0 < ex) = true := decide_eq_true p2
       have hf : badC b0 b1 x = true := by rw [HBX.out]; simp [p1, p2]
       have HF := Aside0.mk hf
       clear hf p1 p2
       have HB2 := Aside0.mk (below_drew1 HB1.out)
       have HO2 := Aside0.mk (Kd.R_drew HO1.out)
       have B112 := Aside0.mk (blk_drew B11.out)
       have B52 := Aside0.mk (blk_drew B51.out)
       refine start_ (n := 26) (S := fun w' => w'.cell? ⟨g11, 0, none⟩ = some (.int .i64 x.f0) ∧ w'.cell? ⟨g11, 1, none⟩ = some (.int .i64 x.f1) ∧ w'.cell? ⟨g11, 2, none⟩ = some (.int .i64 x.f2) ∧ w'.cell? ⟨g11, 3, none⟩ = some (.int .i64 x.f3) ∧ w'.cell? ⟨g11, 4, none⟩ = some (.int .i64 x.f4) ∧ w'.cell? ⟨g11, 5, none⟩ = some (.int .i64 x.f5) ∧ w'.cell? ⟨g11, 6, none⟩ = some (.int .i64 x.f6) ∧ w'.cell? ⟨g5, 0, none⟩ = some (.int .i64 b0) ∧ w'.cell? ⟨g5, 1, none⟩ = some (.int .i64 b1)) (ds := []) #[false, false, false, false, false, false, false, false, false, false, false, false, false, false, false, false, false, false, false, false, false, false, false, false, false, false] rfl rfl rfl ⟨(blk_cell B11.out 0).trans rfl, (blk_cell B11.out 1).trans rfl, (blk_cell B11.out 2).trans rfl, (blk_cell B11.out 3).trans rfl, (blk_cell B11.out 4).trans rfl, (blk_cell B11.out 5).trans rfl, (blk_cell B11.out 6).trans rfl, (blk_cell B51.out 0).trans rfl, (blk_cell B51.out 1).trans rfl⟩ (fun hHeld => ?_)
       clear HB1 HO1 B11 B51
       generalize W1.drew = W2 at HB2 HO2 B112 B52 hHeld ⊢
       refine puA 0 40 (bs 26 1) ?_
       refine puA 2 42 (bs 26 5) ?_
       refine tkA 1 41 (bs 26 7) hHeld ?_
       refine tkA 3 43 (bs 26 15) hHeld ?_
       refine puA 4 44 (bs 26 31) ?_
       refine puA 5 45 (bs 26 63) ?_
       refine puA 8 48 (bs 26 319) ?_
       refine tkA 6 46 (bs 26 383) hHeld ?_
       refine tkA 9 49 (bs 26 895) hHeld ?_
       refine one_ (i := 7) (N := some 47) (bs 26 1023) rfl rfl (by kernel_rfl) (by decide) (fun K hK => ?_)
       refine goes_ Try.func54 (by kernel_rfl) rfl #[.agg #[.int .i64 x.f0, .int .i64 x.f1, .int .i64 x.f2, .int .i64 x.f3, .int .i64 x.f4, .int .i64 x.f5, .int .i64 x.f6]] (by rfl) rfl rfl (by (try simp only [List.map_toArray, List.map_cons, List.map_nil]); first | done | rfl) ?_
       refine (staff_end.calls _ _ _ _ _ _ _ ex _ HE.out).mono ?_
       rintro e w5 ⟨rfl, hb⟩
       refine ⟨_, rfl, ?_⟩
       have HB2' := Aside0.mk (below_step HB2.out hb)
       have HO2' := Aside0.mk (Kd.R_below HO2.out hb)
       have B112' := Aside0.mk (blk_below B112.out hb)
       have B52' := Aside0.mk (blk_below B52.out hb)
       clear hb HB2 HO2 B112 B52 hHeld
       have HB2 := HB2'
       have HO2 := HO2'
       have B112 := B112'
       have B52 := B52'
       clear HB2' HO2' B112' B52'
       refine hK.out _ _ ⟨(blk_cell B112.out 0).trans rfl, (blk_cell B112.out 1).trans rfl, (blk_cell B112.out 2).trans rfl, (blk_cell B112.out 3).trans rfl, (blk_cell B112.out 4).trans rfl, (blk_cell B112.out 5).trans rfl, (blk_cell B112.out 6).trans rfl, (blk_cell B52.out 0).trans rfl, (blk_cell B52.out 1).trans rfl⟩ (fun hHeld => ?_)
       clear hK K
       refine nmA 47 ?_
       refine puA 10 50 (bs 26 2047) ?_
       refine puA 11 51 (bs 26 4095) ?_
       refine puA 12 52 (bs 26 8191) ?_
       refine skA 13 53 (bs 26 16383) ?_
       refine skA 14 54 (bs 26 32767) ?_
       refine skA 15 55 (bs 26 65535) ?_
       refine skA 16 56 (bs 26 131071) ?_
       refine skA 17 57 (bs 26 262143) ?_
       refine skA 18 58 (bs 26 524287) ?_
       refine skA 19 59 (bs 26 1048575) ?_
       refine skA 20 60 (bs 26 2097151) ?_
       refine skA 21 61 (bs 26 4194303) ?_
       refine skA 22 62 (bs 26 8388607) ?_
       refine skA 23 63 (bs 26 16777215) ?_
       refine skA 24 64 (bs 26 33554431) ?_
       refine puA 25 65 (bs 26 67108863) ?_
       refine done_ (by kernel_rfl) ?_
       clear hHeld
       go_wp2
       have hr := HBAD.out HF.out
       obtain ⟨rfl, rfl⟩ := hr
       go_ret2
       exact ⟨_, rfl, Kd.R_nil _ _ _ _ _, HB2.out⟩
      ·have d2 : decide (b0 < ex) = false := decide_eq_false p2
       have d3 : decide (x.f2 < b1) = true := decide_eq_true (by have := HFT.out; omega)
       have d4 : decide (b1 < ex) = false := decide_eq_false (by have := HFT.out; omega)
       have hf : badC b0 b1 x = false := by rw [HBX.out, d1, d2, d3, d4]; rfl
       have HPF : Aside0 (x.f2 < b0) := ⟨p1⟩
       have HF := Aside0.mk hf
       clear hf p1 p2
       have HB2 := Aside0.mk (below_drew1 HB1.out)
       have HO2 := Aside0.mk (Kd.R_drew HO1.out)
       have B112 := Aside0.mk (blk_drew B11.out)
       have B52 := Aside0.mk (blk_drew B51.out)
       refine start_ (n := 26) (S := fun w' => w'.cell? ⟨g11, 0, none⟩ = some (.int .i64 x.f0) ∧ w'.cell? ⟨g11, 1, none⟩ = some (.int .i64 x.f1) ∧ w'.cell? ⟨g11, 2, none⟩ = some (.int .i64 x.f2) ∧ w'.cell? ⟨g11, 3, none⟩ = some (.int .i64 x.f3) ∧ w'.cell? ⟨g11, 4, none⟩ = some (.int .i64 x.f4) ∧ w'.cell? ⟨g11, 5, none⟩ = some (.int .i64 x.f5) ∧ w'.cell? ⟨g11, 6, none⟩ = some (.int .i64 x.f6) ∧ w'.cell? ⟨g5, 0, none⟩ = some (.int .i64 b0) ∧ w'.cell? ⟨g5, 1, none⟩ = some (.int .i64 b1)) (ds := []) #[false, false, false, false, false, false, false, false, false, false, false, false, false, false, false, false, false, false, false, false, false, false, false, false, false, false] rfl rfl rfl ⟨(blk_cell B11.out 0).trans rfl, (blk_cell B11.out 1).trans rfl, (blk_cell B11.out 2).trans rfl, (blk_cell B11.out 3).trans rfl, (blk_cell B11.out 4).trans rfl, (blk_cell B11.out 5).trans rfl, (blk_cell B11.out 6).trans rfl, (blk_cell B51.out 0).trans rfl, (blk_cell B51.out 1).trans rfl⟩ (fun hHeld => ?_)
       clear HB1 HO1 B11 B51
       generalize W1.drew = W2 at HB2 HO2 B112 B52 hHeld ⊢
       refine puA 0 40 (bs 26 1) ?_
       refine puA 2 42 (bs 26 5) ?_
       refine tkA 1 41 (bs 26 7) hHeld ?_
       refine tkA 3 43 (bs 26 15) hHeld ?_
       refine puA 4 44 (bs 26 31) ?_
       refine puA 5 45 (bs 26 63) ?_
       refine puA 8 48 (bs 26 319) ?_
       refine tkA 6 46 (bs 26 383) hHeld ?_
       refine tkA 9 49 (bs 26 895) hHeld ?_
       refine one_ (i := 7) (N := some 47) (bs 26 1023) rfl rfl (by kernel_rfl) (by decide) (fun K hK => ?_)
       refine goes_ Try.func54 (by kernel_rfl) rfl #[.agg #[.int .i64 x.f0, .int .i64 x.f1, .int .i64 x.f2, .int .i64 x.f3, .int .i64 x.f4, .int .i64 x.f5, .int .i64 x.f6]] (by rfl) rfl rfl (by (try simp only [List.map_toArray, List.map_cons, List.map_nil]); first | done | rfl) ?_
       refine (staff_end.calls _ _ _ _ _ _ _ ex _ HE.out).mono ?_
       rintro e w5 ⟨rfl, hb⟩
       refine ⟨_, rfl, ?_⟩
       have HB2' := Aside0.mk (below_step HB2.out hb)
       have HO2' := Aside0.mk (Kd.R_below HO2.out hb)
       have B112' := Aside0.mk (blk_below B112.out hb)
       have B52' := Aside0.mk (blk_below B52.out hb)
       clear hb HB2 HO2 B112 B52 hHeld
       have HB2 := HB2'
       have HO2 := HO2'
       have B112 := B112'
       have B52 := B52'
       clear HB2' HO2' B112' B52'
       refine hK.out _ _ ⟨(blk_cell B112.out 0).trans rfl, (blk_cell B112.out 1).trans rfl, (blk_cell B112.out 2).trans rfl, (blk_cell B112.out 3).trans rfl, (blk_cell B112.out 4).trans rfl, (blk_cell B112.out 5).trans rfl, (blk_cell B112.out 6).trans rfl, (blk_cell B52.out 0).trans rfl, (blk_cell B52.out 1).trans rfl⟩ (fun hHeld => ?_)
       clear hK K
       refine nmA 47 ?_
       refine puA 10 50 (bs 26 2047) ?_
       refine puA 11 51 (bs 26 4095) ?_
       refine puA 12 52 (bs 26 8191) ?_
       refine puA 13 53 (bs 26 16383) ?_
       refine puA 15 55 (bs 26 49151) ?_
       refine tkA 14 54 (bs 26 65535) hHeld ?_
       refine tkA 16 56 (bs 26 131071) hHeld ?_
       refine puA 17 57 (bs 26 262143) ?_
       refine puA 18 58 (bs 26 524287) ?_
       refine puA 21 61 (bs 26 2621439) ?_
       refine tkA 19 59 (bs 26 3145727) hHeld ?_
       refine tkA 22 62 (bs 26 7340031) hHeld ?_
       refine one_ (i := 20) (N := some 60) (bs 26 8388607) rfl rfl (by kernel_rfl) (by decide) (fun K hK => ?_)
       refine goes_ Try.func54 (by kernel_rfl) rfl #[.agg #[.int .i64 x.f0, .int .i64 x.f1, .int .i64 x.f2, .int .i64 x.f3, .int .i64 x.f4, .int .i64 x.f5, .int .i64 x.f6]] (by rfl) rfl rfl (by (try simp only [List.map_toArray, List.map_cons, List.map_nil]); first | done | rfl) ?_
       refine (staff_end.calls _ _ _ _ _ _ _ ex _ HE.out).mono ?_
       rintro e w5 ⟨rfl, hb⟩
       refine ⟨_, rfl, ?_⟩
       have HB2' := Aside0.mk (below_step HB2.out hb)
       have HO2' := Aside0.mk (Kd.R_below HO2.out hb)
       have B112' := Aside0.mk (blk_below B112.out hb)
       have B52' := Aside0.mk (blk_below B52.out hb)
       clear hb HB2 HO2 B112 B52 hHeld
       have HB2 := HB2'
       have HO2 := HO2'
       have B112 := B112'
       have B52 := B52'
       clear HB2' HO2' B112' B52'
       refine hK.out _ _ ⟨(blk_cell B112.out 0).trans rfl, (blk_cell B112.out 1).trans rfl, (blk_cell B112.out 2).trans rfl, (blk_cell B112.out 3).trans rfl, (blk_cell B112.out 4).trans rfl, (blk_cell B112.out 5).trans rfl, (blk_cell B112.out 6).trans rfl, (blk_cell B52.out 0).trans rfl, (blk_cell B52.out 1).trans rfl⟩ (fun hHeld => ?_)
       clear hK K
       refine nmA 60 ?_
       refine puA 23 63 (bs 26 16777215) ?_
       refine puA 24 64 (bs 26 33554431) ?_
       refine puA 25 65 (bs 26 67108863) ?_
       refine done_ (by kernel_rfl) ?_
       clear hHeld
       have hc11 := blk_cell B112.out
       have hc5 := blk_cell B52.out
       have hany := HNB.out HF.out
       have HANY2 := Aside0.mk hany
       clear hany
       have e1 : decide (b0 ≤ x.f2) = false := by have := HPF.out; simp; omega
       have ht := HT.out
       rw [show inC b0 b1 x = false by simp only [inC, e1]; rfl, if_neg (by decide), List.append_nil] at ht
       have HT2 := Aside0.mk ht
       clear ht
       go_wp2
       go_roundg k1
       case measure => have := HK.out; omega
       case rel => exact ⟨i + 1, (by first | (simp; done) | (simp; rw [wrap_in _ (by have := HL.out; have := HI.out; omega) (by have := HL.out; have := HI.out; omega)])), ⟨by have := HK.out; omega⟩, ⟨by rw [HT2.out]; exact HO2.out⟩, HANY2, B52, HB2⟩
     ·have d1 : decide (x.f2 < b0) = false := decide_eq_false p1
      by_cases p3 : x.f2 < b1
      ·have d3 : decide (x.f2 < b1) = true := decide_eq_true p3
       by_cases p4 : b1 < ex
       ·have d4 : decide (b1 < ex) = true := decide_eq_true p4
        have hf : badC b0 b1 x = true := by rw [HBX.out, d1, d3, d4]; simp
        have HF := Aside0.mk hf
        clear hf p1 p3 p4
        have HB2 := Aside0.mk (below_drew1 HB1.out)
        have HO2 := Aside0.mk (Kd.R_drew HO1.out)
        have B112 := Aside0.mk (blk_drew B11.out)
        have B52 := Aside0.mk (blk_drew B51.out)
        refine start_ (n := 26) (S := fun w' => w'.cell? ⟨g11, 0, none⟩ = some (.int .i64 x.f0) ∧ w'.cell? ⟨g11, 1, none⟩ = some (.int .i64 x.f1) ∧ w'.cell? ⟨g11, 2, none⟩ = some (.int .i64 x.f2) ∧ w'.cell? ⟨g11, 3, none⟩ = some (.int .i64 x.f3) ∧ w'.cell? ⟨g11, 4, none⟩ = some (.int .i64 x.f4) ∧ w'.cell? ⟨g11, 5, none⟩ = some (.int .i64 x.f5) ∧ w'.cell? ⟨g11, 6, none⟩ = some (.int .i64 x.f6) ∧ w'.cell? ⟨g5, 0, none⟩ = some (.int .i64 b0) ∧ w'.cell? ⟨g5, 1, none⟩ = some (.int .i64 b1)) (ds := []) #[false, false, false, false, false, false, false, false, false, false, false, false, false, false, false, false, false, false, false, false, false, false, false, false, false, false] rfl rfl rfl ⟨(blk_cell B11.out 0).trans rfl, (blk_cell B11.out 1).trans rfl, (blk_cell B11.out 2).trans rfl, (blk_cell B11.out 3).trans rfl, (blk_cell B11.out 4).trans rfl, (blk_cell B11.out 5).trans rfl, (blk_cell B11.out 6).trans rfl, (blk_cell B51.out 0).trans rfl, (blk_cell B51.out 1).trans rfl⟩ (fun hHeld => ?_)
        clear HB1 HO1 B11 B51
        generalize W1.drew = W2 at HB2 HO2 B112 B52 hHeld ⊢
        refine puA 0 40 (bs 26 1) ?_
        refine puA 2 42 (bs 26 5) ?_
        refine tkA 1 41 (bs 26 7) hHeld ?_
        refine tkA 3 43 (bs 26 15) hHeld ?_
        refine puA 4 44 (bs 26 31) ?_
        refine puA 5 45 (bs 26 63) ?_
        refine skA 6 46 (bs 26 127) ?_
        refine skA 7 47 (bs 26 255) ?_
        refine skA 8 48 (bs 26 511) ?_
        refine skA 9 49 (bs 26 1023) ?_
        refine skA 10 50 (bs 26 2047) ?_
        refine puA 11 51 (bs 26 4095) ?_
        refine puA 12 52 (bs 26 8191) ?_
        refine puA 13 53 (bs 26 16383) ?_
        refine puA 15 55 (bs 26 49151) ?_
        refine tkA 14 54 (bs 26 65535) hHeld ?_
        refine tkA 16 56 (bs 26 131071) hHeld ?_
        refine puA 17 57 (bs 26 262143) ?_
        refine puA 18 58 (bs 26 524287) ?_
        refine puA 21 61 (bs 26 2621439) ?_
        refine tkA 19 59 (bs 26 3145727) hHeld ?_
        refine tkA 22 62 (bs 26 7340031) hHeld ?_
        refine one_ (i := 20) (N := some 60) (bs 26 8388607) rfl rfl (by kernel_rfl) (by decide) (fun K hK => ?_)
        refine goes_ Try.func54 (by kernel_rfl) rfl #[.agg #[.int .i64 x.f0, .int .i64 x.f1, .int .i64 x.f2, .int .i64 x.f3, .int .i64 x.f4, .int .i64 x.f5, .int .i64 x.f6]] (by rfl) rfl rfl (by (try simp only [List.map_toArray, List.map_cons, List.map_nil]); first | done | rfl) ?_
        refine (staff_end.calls _ _ _ _ _ _ _ ex _ HE.out).mono ?_
        rintro e w5 ⟨rfl, hb⟩
        refine ⟨_, rfl, ?_⟩
        have HB2' := Aside0.mk (below_step HB2.out hb)
        have HO2' := Aside0.mk (Kd.R_below HO2.out hb)
        have B112' := Aside0.mk (blk_below B112.out hb)
        have B52' := Aside0.mk (blk_below B52.out hb)
        clear hb HB2 HO2 B112 B52 hHeld
        have HB2 := HB2'
        have HO2 := HO2'
        have B112 := B112'
        have B52 := B52'
        clear HB2' HO2' B112' B52'
        refine hK.out _ _ ⟨(blk_cell B112.out 0).trans rfl, (blk_cell B112.out 1).trans rfl, (blk_cell B112.out 2).trans rfl, (blk_cell B112.out 3).trans rfl, (blk_cell B112.out 4).trans rfl, (blk_cell B112.out 5).trans rfl, (blk_cell B112.out 6).trans rfl, (blk_cell B52.out 0).trans rfl, (blk_cell B52.out 1).trans rfl⟩ (fun hHeld => ?_)
        clear hK K
        refine nmA 60 ?_
        refine puA 23 63 (bs 26 16777215) ?_
        refine puA 24 64 (bs 26 33554431) ?_
        refine puA 25 65 (bs 26 67108863) ?_
        refine done_ (by kernel_rfl) ?_
        clear hHeld
        go_wp2
        have hr := HBAD.out HF.out
        obtain ⟨rfl, rfl⟩ := hr
        go_ret2
        exact ⟨_, rfl, Kd.R_nil _ _ _ _ _, HB2.out⟩
       ·have d4 : decide (b1 < ex) = false := decide_eq_false p4
        have hf : badC b0 b1 x = false := by rw [HBX.out, d1, d3, d4]; rfl
        have HPF : Aside0 (¬ x.f2 < b0) := ⟨p1⟩
        have HF := Aside0.mk hf
        clear hf p1 p3 p4
        have HB2 := Aside0.mk (below_drew1 HB1.out)
        have HO2 := Aside0.mk (Kd.R_drew HO1.out)
        have B112 := Aside0.mk (blk_drew B11.out)
        have B52 := Aside0.mk (blk_drew B51.out)
        refine start_ (n := 26) (S := fun w' => w'.cell? ⟨g11, 0, none⟩ = some (.int .i64 x.f0) ∧ w'.cell? ⟨g11, 1, none⟩ = some (.int .i64 x.f1) ∧ w'.cell? ⟨g11, 2, none⟩ = some (.int .i64 x.f2) ∧ w'.cell? ⟨g11, 3, none⟩ = some (.int .i64 x.f3) ∧ w'.cell? ⟨g11, 4, none⟩ = some (.int .i64 x.f4) ∧ w'.cell? ⟨g11, 5, none⟩ = some (.int .i64 x.f5) ∧ w'.cell? ⟨g11, 6, none⟩ = some (.int .i64 x.f6) ∧ w'.cell? ⟨g5, 0, none⟩ = some (.int .i64 b0) ∧ w'.cell? ⟨g5, 1, none⟩ = some (.int .i64 b1)) (ds := []) #[false, false, false, false, false, false, false, false, false, false, false, false, false, false, false, false, false, false, false, false, false, false, false, false, false, false] rfl rfl rfl ⟨(blk_cell B11.out 0).trans rfl, (blk_cell B11.out 1).trans rfl, (blk_cell B11.out 2).trans rfl, (blk_cell B11.out 3).trans rfl, (blk_cell B11.out 4).trans rfl, (blk_cell B11.out 5).trans rfl, (blk_cell B11.out 6).trans rfl, (blk_cell B51.out 0).trans rfl, (blk_cell B51.out 1).trans rfl⟩ (fun hHeld => ?_)
        clear HB1 HO1 B11 B51
        generalize W1.drew = W2 at HB2 HO2 B112 B52 hHeld ⊢
        refine puA 0 40 (bs 26 1) ?_
        refine puA 2 42 (bs 26 5) ?_
        refine tkA 1 41 (bs 26 7) hHeld ?_
        refine tkA 3 43 (bs 26 15) hHeld ?_
        refine puA 4 44 (bs 26 31) ?_
        refine puA 5 45 (bs 26 63) ?_
        refine skA 6 46 (bs 26 127) ?_
        refine skA 7 47 (bs 26 255) ?_
        refine skA 8 48 (bs 26 511) ?_
        refine skA 9 49 (bs 26 1023) ?_
        refine skA 10 50 (bs 26 2047) ?_
        refine puA 11 51 (bs 26 4095) ?_
        refine puA 12 52 (bs 26 8191) ?_
        refine puA 13 53 (bs 26 16383) ?_
        refine puA 15 55 (bs 26 49151) ?_
        refine tkA 14 54 (bs 26 65535) hHeld ?_
        refine tkA 16 56 (bs 26 131071) hHeld ?_
        refine puA 17 57 (bs 26 262143) ?_
        refine puA 18 58 (bs 26 524287) ?_
        refine puA 21 61 (bs 26 2621439) ?_
        refine tkA 19 59 (bs 26 3145727) hHeld ?_
        refine tkA 22 62 (bs 26 7340031) hHeld ?_
        refine one_ (i := 20) (N := some 60) (bs 26 8388607) rfl rfl (by kernel_rfl) (by decide) (fun K hK => ?_)
        refine goes_ Try.func54 (by kernel_rfl) rfl #[.agg #[.int .i64 x.f0, .int .i64 x.f1, .int .i64 x.f2, .int .i64 x.f3, .int .i64 x.f4, .int .i64 x.f5, .int .i64 x.f6]] (by rfl) rfl rfl (by (try simp only [List.map_toArray, List.map_cons, List.map_nil]); first | done | rfl) ?_
        refine (staff_end.calls _ _ _ _ _ _ _ ex _ HE.out).mono ?_
        rintro e w5 ⟨rfl, hb⟩
        refine ⟨_, rfl, ?_⟩
        have HB2' := Aside0.mk (below_step HB2.out hb)
        have HO2' := Aside0.mk (Kd.R_below HO2.out hb)
        have B112' := Aside0.mk (blk_below B112.out hb)
        have B52' := Aside0.mk (blk_below B52.out hb)
        clear hb HB2 HO2 B112 B52 hHeld
        have HB2 := HB2'
        have HO2 := HO2'
        have B112 := B112'
        have B52 := B52'
        clear HB2' HO2' B112' B52'
        refine hK.out _ _ ⟨(blk_cell B112.out 0).trans rfl, (blk_cell B112.out 1).trans rfl, (blk_cell B112.out 2).trans rfl, (blk_cell B112.out 3).trans rfl, (blk_cell B112.out 4).trans rfl, (blk_cell B112.out 5).trans rfl, (blk_cell B112.out 6).trans rfl, (blk_cell B52.out 0).trans rfl, (blk_cell B52.out 1).trans rfl⟩ (fun hHeld => ?_)
        clear hK K
        refine nmA 60 ?_
        refine puA 23 63 (bs 26 16777215) ?_
        refine puA 24 64 (bs 26 33554431) ?_
        refine puA 25 65 (bs 26 67108863) ?_
        refine done_ (by kernel_rfl) ?_
        clear hHeld
        have hc11 := blk_cell B112.out
        have hc5 := blk_cell B52.out
        have hany := HNB.out HF.out
        have HANY2 := Aside0.mk hany
        clear hany
        have e1 : decide (b0 ≤ x.f2) = true := by have := HPF.out; simp; omega
        have e2 : decide (x.f2 < b1) = true := d3
        have ht := HT.out
        rw [show inC b0 b1 x = true by simp only [inC, e1, e2]; rfl, if_pos rfl] at ht
        have HT2 := Aside0.mk ht
        clear ht
        go_wp2_with (first | ((with_reducible refine gate_builtin (b := .append) (xs := #[.tmp 78, .tmp 80]) rfl ?_); at_builtin; refine Kd.R_append k29 (w0 := w) w.heap.size rfl (.tmp 78) (.tmp 80) 22 29 (.agg #[(.int .i64 0), (.int .i64 0), (.int .i64 0), (.int .i64 0), (.int .i64 0), (.int .i64 0), (.int .i64 0)]) 56 rfl Try.underlying22 info29 rfl (by decide) (by omega) u9 ((l0.take i).filter (inC b0 b1)) x [.int .i64 x.f0, .int .i64 x.f1, .int .i64 x.f2, .int .i64 x.f3, .int .i64 x.f4, .int .i64 x.f5, .int .i64 x.f6] (fun k => k ≠ g5) (fun _ => False) rfl (by first | (go_simp; done) | (go_simp; rfl)) (k29_mkM _ _ _ x) (fun _ hk => hk.elim) (fun k hk => by have := blk_lt B52.out; omega) HO2.out HB2.out (below_size HB2.out) (by have := HL.out; have := HI.out; have := HLEN.out; omega) ?_; intro v6 w6 ho6 hb6 hg6 hat6; have HO6 := Aside0.mk ho6; have HB6 := Aside0.mk hb6; have B56 := Aside0.mk (blk_grown B52.out hg6 (Kd.R_away HO2.out (fun _ hk => hk))); clear ho6 hb6 hg6 hat6))
        go_roundg k1
        case measure => have := HK.out; omega
        case rel => exact ⟨i + 1, (by first | (simp; done) | (simp; rw [wrap_in _ (by have := HL.out; have := HI.out; omega) (by have := HL.out; have := HI.out; omega)])), ⟨by have := HK.out; omega⟩, ⟨by rw [HT2.out]; exact HO6.out⟩, HANY2, B56, HB6⟩
      ·have d3 : decide (x.f2 < b1) = false := decide_eq_false p3
       have hf : badC b0 b1 x = false := by rw [HBX.out, d1, d3]; simp
       have HPF : Aside0 (¬ x.f2 < b0) := ⟨p1⟩
       have HF := Aside0.mk hf
       clear hf p1 p3
       have HB2 := Aside0.mk (below_drew1 HB1.out)
       have HO2 := Aside0.mk (Kd.R_drew HO1.out)
       have B112 := Aside0.mk (blk_drew B11.out)
       have B52 := Aside0.mk (blk_drew B51.out)
       refine start_ (n := 26) (S := fun w' => w'.cell? ⟨g11, 0, none⟩ = some (.int .i64 x.f0) ∧ w'.cell? ⟨g11, 1, none⟩ = some (.int .i64 x.f1) ∧ w'.cell? ⟨g11, 2, none⟩ = some (.int .i64 x.f2) ∧ w'.cell? ⟨g11, 3, none⟩ = some (.int .i64 x.f3) ∧ w'.cell? ⟨g11, 4, none⟩ = some (.int .i64 x.f4) ∧ w'.cell? ⟨g11, 5, none⟩ = some (.int .i64 x.f5) ∧ w'.cell? ⟨g11, 6, none⟩ = some (.int .i64 x.f6) ∧ w'.cell? ⟨g5, 0, none⟩ = some (.int .i64 b0) ∧ w'.cell? ⟨g5, 1, none⟩ = some (.int .i64 b1)) (ds := []) #[false, false, false, false, false, false, false, false, false, false, false, false, false, false, false, false, false, false, false, false, false, false, false, false, false, false] rfl rfl rfl ⟨(blk_cell B11.out 0).trans rfl, (blk_cell B11.out 1).trans rfl, (blk_cell B11.out 2).trans rfl, (blk_cell B11.out 3).trans rfl, (blk_cell B11.out 4).trans rfl, (blk_cell B11.out 5).trans rfl, (blk_cell B11.out 6).trans rfl, (blk_cell B51.out 0).trans rfl, (blk_cell B51.out 1).trans rfl⟩ (fun hHeld => ?_)
       clear HB1 HO1 B11 B51
       generalize W1.drew = W2 at HB2 HO2 B112 B52 hHeld ⊢
       refine puA 0 40 (bs 26 1) ?_
       refine puA 2 42 (bs 26 5) ?_
       refine tkA 1 41 (bs 26 7) hHeld ?_
       refine tkA 3 43 (bs 26 15) hHeld ?_
       refine puA 4 44 (bs 26 31) ?_
       refine puA 5 45 (bs 26 63) ?_
       refine skA 6 46 (bs 26 127) ?_
       refine skA 7 47 (bs 26 255) ?_
       refine skA 8 48 (bs 26 511) ?_
       refine skA 9 49 (bs 26 1023) ?_
       refine skA 10 50 (bs 26 2047) ?_
       refine puA 11 51 (bs 26 4095) ?_
       refine puA 12 52 (bs 26 8191) ?_
       refine puA 13 53 (bs 26 16383) ?_
       refine puA 15 55 (bs 26 49151) ?_
       refine tkA 14 54 (bs 26 65535) hHeld ?_
       refine tkA 16 56 (bs 26 131071) hHeld ?_
       refine puA 17 57 (bs 26 262143) ?_
       refine puA 18 58 (bs 26 524287) ?_
       refine skA 19 59 (bs 26 1048575) ?_
       refine skA 20 60 (bs 26 2097151) ?_
       refine skA 21 61 (bs 26 4194303) ?_
       refine skA 22 62 (bs 26 8388607) ?_
       refine skA 23 63 (bs 26 16777215) ?_
       refine puA 24 64 (bs 26 33554431) ?_
       refine puA 25 65 (bs 26 67108863) ?_
       refine done_ (by kernel_rfl) ?_
       clear hHeld
       have hc11 := blk_cell B112.out
       have hc5 := blk_cell B52.out
       have hany := HNB.out HF.out
       have HANY2 := Aside0.mk hany
       clear hany
       have e1 : decide (b0 ≤ x.f2) = true := by have := HPF.out; simp; omega
       have ht := HT.out
       rw [show inC b0 b1 x = false by simp only [inC, e1, d3]; rfl, if_neg (by decide), List.append_nil] at ht
       have HT2 := Aside0.mk ht
       clear ht
       go_wp2
       go_roundg k1
       case measure => have := HK.out; omega
       case rel => exact ⟨i + 1, (by first | (simp; done) | (simp; rw [wrap_in _ (by have := HL.out; have := HI.out; omega) (by have := HL.out; have := HI.out; omega)])), ⟨by have := HK.out; omega⟩, ⟨by rw [HT2.out]; exact HO2.out⟩, HANY2, B52, HB2⟩
 ·rw [if_pos h1] at H1
  obtain ⟨rfl, rfl⟩ := Prod.mk.inj H1
  have hne0 : (ce != 0) = true := bne_iff_ne.mpr h1
  clear H1 hce h1
  go_wp2_with (first | (go_at_call 20; refine (staff_Check.calls _ c0 l0 a1 _ _ (Kd.C_below HR.out HB.out) HC.out HQ.out).mono ?_; rintro e W1 ⟨rfl, hb⟩; have HB1 := Aside0.mk (below_step HB.out hb); have B51 := Aside0.mk (blk_below B5.out hb); have hc5 := blk_cell B51.out; clear hb))
  go_ret2
  exact ⟨_, rfl, Kd.R_nil _ _ _ _ _, HB1.out⟩
end Go.Proofs.Ytdilndbanhianaa.P
end
section
namespace Go.Proofs.Ytdilndbanhianaa.P
open Go.RowKit Go.Proofs.YtdilndbanhianaaW.PrintWords Go.Proofs.YtdilndbanhianaaW.PrintLast Go.Proofs.YtdilndbanhianaaW.PrintMore
attribute [local go_sem] max2_int min2_int max_two min_two max_three min_three max_four min_four   -- for this text's walks alone
set_option linter.unusedVariables false
set_option linter.unusedSimpArgs false

/-! ### staff_Join: function 32 -/
def staff_Join.f (l0 : List (S29)) (a1 : Int) (l2 : List (S29)) (a3 : Int) : Option ((List (S29)) × Int) := (staff_Check.f l0 a1).bind fun t155 => (if t155 = 0 then ((staff_Check.f l2 a3).bind fun t156 => (if t156 = 0 then (if (wrap64 (a1 + a3)) > 8192 then (some (([] : List (S29)), 1)) else (if (wrap64 ((l0.length : Int) + (l2.length : Int))) > 256 then (some (([] : List (S29)), 3)) else ((staff_moved.f l0 0).bind fun t157 => ((staff_moved.f l2 a1).bind fun t160 => (if t157.length + t160.length < 2513169434916 then (some ((t157 ++ t160), 0)) else (none)))))) else (some (([] : List (S29)), t156)))) else (some (([] : List (S29)), t155)))
set_option maxHeartbeats 8000000 in
set_option maxRecDepth 100000 in
theorem staff_Join.calls (A0 : Option Addr) (c0 : Nat) (l0 : List (S29)) (a1 : Int) (A2 : Option Addr) (c2 : Nat) (l2 : List (S29)) (a3 : Int) (r1 : List (S29)) (r2 : Int) (w : World) (hr0 : Kd.C k29 w A0 l0.length l0) (hc0 : l0.length ≤ c0) (hr2 : Kd.C k29 w A2 l2.length l2) (hc2 : l2.length ≤ c2) (h : staff_Join.f l0 a1 l2 a3 = some (r1, r2)) :
  Calls Try.prog 32 #[.slice A0 l0.length c0, .int .i64 a1, .slice A2 l2.length c2, .int .i64 a3] w fun e w' => ∃ v0_ : Value, e = .returned (.tuple #[v0_, .int .i64 r2]) ∧ Kd.R k29 29 w' w.heap.size (fun _ => True) v0_ r1 ∧ Below w.heap.size w w' := by
 have HR0 := Aside0.mk hr0
 have HC0 := Aside0.mk hc0
 clear hr0 hc0
 have HR2 := Aside0.mk hr2
 have HC2 := Aside0.mk hc2
 clear hr2 hc2
 have HB := Aside0.mk (Below.refl w.heap.size w)
 have H : ((staff_Check.f l0 a1).bind fun t155 => (if t155 = 0 then ((staff_Check.f l2 a3).bind fun t156 => (if t156 = 0 then (if (wrap64 (a1 + a3)) > 8192 then (some (([] : List (S29)), 1)) else (if (wrap64 ((l0.length : Int) + (l2.length : Int))) > 256 then (some (([] : List (S29)), 3)) else ((staff_moved.f l0 0).bind fun t157 => ((staff_moved.f l2 a1).bind fun t160 => (if t157.length + t160.length < 2513169434916 then (some ((t157 ++ t160), 0)) else (none)))))) else (some (([] : List (S29)), t156)))) else (some (([] : List (S29)), t155)))) = some (r1, r2) := h
 clear h
 replace H := Option.bind_eq_some_iff.mp H
 obtain ⟨t155, A50, H⟩ := H
 try dsimp only at H
 have A5 := Aside0.mk A50
 clear A50
 by_cases c6 : t155 = 0
 ·rw [if_pos c6] at H
  have c6b0 : (t155 == 0) = true := beq_iff_eq.mpr c6
  have c6b1 : (t155 != 0) = false := bne_eq_false_iff_eq.mpr c6
  clear c6
  replace H := Option.bind_eq_some_iff.mp H
  obtain ⟨t156, A70, H⟩ := H
  try dsimp only at H
  have A7 := Aside0.mk A70
  clear A70
  by_cases c8 : t156 = 0
  ·rw [if_pos c8] at H
   have c8b0 : (t156 == 0) = true := beq_iff_eq.mpr c8
   have c8b1 : (t156 != 0) = false := bne_eq_false_iff_eq.mpr c8
   clear c8
   by_cases c9 : (wrap64 (a1 + a3)) > 8192
   ·rw [if_pos c9] at H
    have c9b0 : decide (8192 < (wrap64 (a1 + a3))) = true := decide_eq_true c9
    clear c9
    simp only [Option.some.injEq, Prod.mk.injEq] at H
    obtain ⟨rfl, rfl⟩ := H
    go_enter Try.func32, Try.ntmps32
    go_wp2_with (first | ((with_reducible refine gate_callee (f := 20) rfl ?_); refine goesL_ (some 14) rfl rfl Try.func20 (by kernel_rfl) rfl #[.slice A0 l0.length c0, .int .i64 a1] rfl (by (try simp only [List.map_toArray, List.map_cons, List.map_nil]); first | done | rfl | (simp only [List.length_drop, List.length_take]; rfl)) ?_; (with_reducible refine (staff_Check.calls _ _ l0 a1 t155 _ ?side1 ?side2 A5.out).mono ?_); (case side1 => repeat (first | exact HR0.out | (with_reducible refine Kd.C_alloc ?_ _) | (with_reducible refine Kd.C_drewN ?_ _) | (with_reducible refine Kd.C_drew ?_))); (case side2 => exact HC0.out); rintro e w10 ⟨rfl, hb⟩; refine ⟨_, rfl, ?_⟩; have n0_ := Aside0.mk (below_step (hU HB.out) hb); clear HB; have HB := n0_; clear n0_; (try clear hb); (try clear hb2); (try clear hk); (try clear hi)) | ((with_reducible refine gate_callee (f := 20) rfl ?_); refine goesL_ (some 20) rfl rfl Try.func20 (by kernel_rfl) rfl #[.slice A2 l2.length c2, .int .i64 a3] rfl (by (try simp only [List.map_toArray, List.map_cons, List.map_nil]); first | done | rfl | (simp only [List.length_drop, List.length_take]; rfl)) ?_; (with_reducible refine (staff_Check.calls _ _ l2 a3 t156 _ ?side1 ?side2 A7.out).mono ?_); (case side1 => repeat (first | exact (Kd.C_below HR2.out HB.out) | (with_reducible refine Kd.C_alloc ?_ _) | (with_reducible refine Kd.C_drewN ?_ _) | (with_reducible refine Kd.C_drew ?_))); (case side2 => exact HC2.out); rintro e w11 ⟨rfl, hb⟩; refine ⟨_, rfl, ?_⟩; have n0_ := Aside0.mk (below_step (hU HB.out) hb); clear HB; have HB := n0_; clear n0_; (try clear hb); (try clear hb2); (try clear hk); (try clear hi)))
    go_ret2
    exact ⟨_, by first | rfl | (simp [errW_none, errW_some] <;> rfl) | (simp [*, errW_none, errW_some] <;> rfl), by first | exact Kd.R_nil _ _ _ _ _ | exact Kd.N_nil _ _ _ _ _ | exact Kd.V_nil _ _ _ _ _ | exact Kd.Q_nil _ _ _ _ _ | exact Kd.S_nil _ _ _ _ _, hU HB.out⟩
   ·rw [if_neg c9] at H
    have c9b0 : decide (8192 < (wrap64 (a1 + a3))) = false := decide_eq_false c9
    clear c9
    by_cases c12 : (wrap64 ((l0.length : Int) + (l2.length : Int))) > 256
    ·rw [if_pos c12] at H
     have c12b0 : decide (256 < (wrap64 ((l0.length : Int) + (l2.length : Int)))) = true := decide_eq_true c12
     clear c12
     simp only [Option.some.injEq, Prod.mk.injEq] at H
     obtain ⟨rfl, rfl⟩ := H
     go_enter Try.func32, Try.ntmps32
     go_wp2_with (first | ((with_reducible refine gate_callee (f := 20) rfl ?_); refine goesL_ (some 14) rfl rfl Try.func20 (by kernel_rfl) rfl #[.slice A0 l0.length c0, .int .i64 a1] rfl (by (try simp only [List.map_toArray, List.map_cons, List.map_nil]); first | done | rfl | (simp only [List.length_drop, List.length_take]; rfl)) ?_; (with_reducible refine (staff_Check.calls _ _ l0 a1 t155 _ ?side1 ?side2 A5.out).mono ?_); (case side1 => repeat (first | exact HR0.out | (with_reducible refine Kd.C_alloc ?_ _) | (with_reducible refine Kd.C_drewN ?_ _) | (with_reducible refine Kd.C_drew ?_))); (case side2 => exact HC0.out); rintro e w13 ⟨rfl, hb⟩; refine ⟨_, rfl, ?_⟩; have n0_ := Aside0.mk (below_step (hU HB.out) hb); clear HB; have HB := n0_; clear n0_; (try clear hb); (try clear hb2); (try clear hk); (try clear hi)) | ((with_reducible refine gate_callee (f := 20) rfl ?_); refine goesL_ (some 20) rfl rfl Try.func20 (by kernel_rfl) rfl #[.slice A2 l2.length c2, .int .i64 a3] rfl (by (try simp only [List.map_toArray, List.map_cons, List.map_nil]); first | done | rfl | (simp only [List.length_drop, List.length_take]; rfl)) ?_; (with_reducible refine (staff_Check.calls _ _ l2 a3 t156 _ ?side1 ?side2 A7.out).mono ?_); (case side1 => repeat (first | exact (Kd.C_below HR2.out HB.out) | (with_reducible refine Kd.C_alloc ?_ _) | (with_reducible refine Kd.C_drewN ?_ _) | (with_reducible refine Kd.C_drew ?_))); (case side2 => exact HC2.out); rintro e w14 ⟨rfl, hb⟩; refine ⟨_, rfl, ?_⟩; have n0_ := Aside0.mk (below_step (hU HB.out) hb); clear HB; have HB := n0_; clear n0_; (try clear hb); (try clear hb2); (try clear hk); (try clear hi)))
     go_ret2
     exact ⟨_, by first | rfl | (simp [errW_none, errW_some] <;> rfl) | (simp [*, errW_none, errW_some] <;> rfl), by first | exact Kd.R_nil _ _ _ _ _ | exact Kd.N_nil _ _ _ _ _ | exact Kd.V_nil _ _ _ _ _ | exact Kd.Q_nil _ _ _ _ _ | exact Kd.S_nil _ _ _ _ _, hU HB.out⟩
    ·rw [if_neg c12] at H
     have c12b0 : decide (256 < (wrap64 ((l0.length : Int) + (l2.length : Int)))) = false := decide_eq_false c12
     clear c12
     replace H := Option.bind_eq_some_iff.mp H
     obtain ⟨t157, A150, H⟩ := H
     replace H : ((staff_moved.f l2 a1).bind fun t160 => (if t157.length + t160.length < 2513169434916 then (some ((t157 ++ t160), 0)) else (none))) = some (r1, r2) := H
     have A15 := Aside0.mk A150
     clear A150
     replace H := Option.bind_eq_some_iff.mp H
     obtain ⟨t160, A160, H⟩ := H
     replace H : (if t157.length + t160.length < 2513169434916 then (some ((t157 ++ t160), 0)) else (none)) = some (r1, r2) := H
     have A16 := Aside0.mk A160
     clear A160
     by_cases c17 : t157.length + t160.length < 2513169434916
     ·rw [if_pos c17] at H
      have LMc17 := Aside0.mk c17
      clear c17
      obtain ⟨y163, hy163⟩ : ∃ y_ : List (S29), y_ = (t157 ++ t160) := ⟨_, rfl⟩
      replace H : (some (y163, 0)) = some (r1, r2) := by first | (rw [hy163]; with_reducible exact H) | (have H2_ := (Option.bind_some _ _).symm.trans H; rw [hy163]; with_reducible exact H2_) | (have H2_ := (Option.bind_some _ _).symm.trans H; with_reducible exact H2_) | with_reducible exact H | (rw [hy163]; exact H) | exact H
      have Ny163 := Aside0.mk hy163
      clear hy163
      simp only [Option.some.injEq, Prod.mk.injEq] at H
      obtain ⟨rfl, rfl⟩ := H
      go_enter Try.func32, Try.ntmps32
      go_wp2_with (first | ((with_reducible refine gate_callee (f := 20) rfl ?_); refine goesL_ (some 14) rfl rfl Try.func20 (by kernel_rfl) rfl #[.slice A0 l0.length c0, .int .i64 a1] rfl (by (try simp only [List.map_toArray, List.map_cons, List.map_nil]); first | done | rfl | (simp only [List.length_drop, List.length_take]; rfl)) ?_; (with_reducible refine (staff_Check.calls _ _ l0 a1 t155 _ ?side1 ?side2 A5.out).mono ?_); (case side1 => repeat (first | exact HR0.out | (with_reducible refine Kd.C_alloc ?_ _) | (with_reducible refine Kd.C_drewN ?_ _) | (with_reducible refine Kd.C_drew ?_))); (case side2 => exact HC0.out); rintro e w18 ⟨rfl, hb⟩; refine ⟨_, rfl, ?_⟩; have n0_ := Aside0.mk (below_step (hU HB.out) hb); clear HB; have HB := n0_; clear n0_; (try clear hb); (try clear hb2); (try clear hk); (try clear hi)) | ((with_reducible refine gate_callee (f := 20) rfl ?_); refine goesL_ (some 20) rfl rfl Try.func20 (by kernel_rfl) rfl #[.slice A2 l2.length c2, .int .i64 a3] rfl (by (try simp only [List.map_toArray, List.map_cons, List.map_nil]); first | done | rfl | (simp only [List.length_drop, List.length_take]; rfl)) ?_; (with_reducible refine (staff_Check.calls _ _ l2 a3 t156 _ ?side1 ?side2 A7.out).mono ?_); (case side1 => repeat (first | exact (Kd.C_below HR2.out HB.out) | (with_reducible refine Kd.C_alloc ?_ _) | (with_reducible refine Kd.C_drewN ?_ _) | (with_reducible refine Kd.C_drew ?_))); (case side2 => exact HC2.out); rintro e w19 ⟨rfl, hb⟩; refine ⟨_, rfl, ?_⟩; have n0_ := Aside0.mk (below_step (hU HB.out) hb); clear HB; have HB := n0_; clear n0_; (try clear hb); (try clear hb2); (try clear hk); (try clear hi)) | ((with_reducible refine gate_callee (f := 64) rfl ?_); refine goesL_ (some 35) rfl rfl Try.func64 (by kernel_rfl) rfl #[.slice A0 l0.length c0, .int .i64 0] rfl (by (try simp only [List.map_toArray, List.map_cons, List.map_nil]); first | done | rfl | (simp only [List.length_drop, List.length_take]; rfl)) ?_; (with_reducible refine (staff_moved.calls _ _ l0 0 t157 _ ?side1 ?side2 A15.out).mono ?_); (case side1 => repeat (first | exact (Kd.C_below HR0.out HB.out) | (with_reducible refine Kd.C_alloc ?_ _) | (with_reducible refine Kd.C_drewN ?_ _) | (with_reducible refine Kd.C_drew ?_))); (case side2 => exact HC0.out); rintro e w20 ⟨v158, rfl, ho0, hb⟩; refine ⟨_, rfl, ?_⟩; have n0_ := Aside0.mk (Kd.R_lower ho0 (below_size (hU HB.out))); have n1_ := Aside0.mk (below_step (hU HB.out) hb); clear HB; have HO159 := n0_; have HB := n1_; clear n0_ n1_; (try clear hb); (try clear hb2); (try clear hk); (try clear hi); (try clear ho0)) | ((with_reducible refine gate_callee (f := 64) rfl ?_); refine goesL_ (some 38) rfl rfl Try.func64 (by kernel_rfl) rfl #[.slice A2 l2.length c2, .int .i64 a1] rfl (by (try simp only [List.map_toArray, List.map_cons, List.map_nil]); first | done | rfl | (simp only [List.length_drop, List.length_take]; rfl)) ?_; (with_reducible refine (staff_moved.calls _ _ l2 a1 t160 _ ?side1 ?side2 A16.out).mono ?_); (case side1 => repeat (first | exact (Kd.C_below HR2.out HB.out) | (with_reducible refine Kd.C_alloc ?_ _) | (with_reducible refine Kd.C_drewN ?_ _) | (with_reducible refine Kd.C_drew ?_))); (case side2 => exact HC2.out); rintro e w21 ⟨v161, rfl, ho0, hb⟩; refine ⟨_, rfl, ?_⟩; have n0_ := Aside0.mk (Kd.R_elder' (Kd.rU HO159.out) (Kd.R_base ho0) hb); have n1_ := Aside0.mk (Kd.R_lower (Kd.R_new' ho0 (Kd.R_lt (Kd.rU HO159.out))) (below_size (hU HB.out))); have n2_ := Aside0.mk (below_step (hU HB.out) hb); clear HO159; clear HB; have HO159 := n0_; have HO162 := n1_; have HB := n2_; clear n0_ n1_ n2_; (try clear hb); (try clear hb2); (try clear hk); (try clear hi); (try clear ho0); obtain ⟨Ao23, co23, eo23⟩ := Kd.R_slice HO162.out; subst eo23) | ((with_reducible refine gate_builtin (b := .append) (xs := #[.tmp 35, .tmp 38]) rfl ?_); at_builtin; refine Kd.R_append_rows k29 (w0 := w) w.heap.size rfl (.tmp 35) (.tmp 38) 22 29 (.agg #[(.int .i64 0), (.int .i64 0), (.int .i64 0), (.int .i64 0), (.int .i64 0), (.int .i64 0), (.int .i64 0)]) 56 rfl Try.underlying22 info29 rfl (by decide) (by omega) v158 t157 t160 _ _ _ (fun k_ => some k_ ≠ (.slice Ao23 t160.length co23 : Value).ownBlock) (fun _ => False) rfl rfl ?aO ?aR (fun _ _ h => h) (fun _ h => h.elim) ?aF ?aB ?aS ?aL ?_; (case aR => repeat (first | exact (Kd.R_reads' HO162.out).2.2 | (with_reducible refine Kd.C_alloc ?_ _) | (with_reducible refine Kd.C_drewN ?_ _) | (with_reducible refine Kd.C_drew ?_))); (case aB => exact (hU HB.out)); (case aF => exact (fun k_ hk => Kd.fresh' (Kd.R_lt (Kd.rU HO162.out)) k_ hk)); (case aO => exact (by (with_reducible repeat (first | apply Kd.R_alloc | apply Kd.R_drewN | apply Kd.R_drew)); exact Kd.R_mono HO159.out (fun _ hk => hk.2))); (case aS => exact (below_size (hU HB.out))); (case aL => have := LMc17.out; omega); intro v164 w22 ho hb hg hat; rw [← Ny163.out] at ho; have n0_ := Aside0.mk (Kd.R_after (ok := (fun _ => True)) (Kd.rU HO162.out) hg hat); have n1_ := Aside0.mk (hb); have n2_ := Aside0.mk (ho); clear HO162; clear HB; clear HO159; have HO162 := n0_; have HB := n1_; have HO165 := n2_; clear n0_ n1_ n2_; clear ho hb hg hat))
      go_ret2
      exact ⟨_, by first | rfl | (simp [errW_none, errW_some] <;> rfl) | (simp [*, errW_none, errW_some] <;> rfl), by (with_reducible repeat (first | apply Kd.R_alloc | apply Kd.R_drewN | apply Kd.R_drew)); exact Kd.R_mono HO165.out (fun _ hk => trivial), hU HB.out⟩
     ·rw [if_neg c17] at H
      exact absurd H (by simp)
  ·rw [if_neg c8] at H
   have c8b0 : (t156 == 0) = false := beq_eq_false_iff_ne.mpr c8
   have c8b1 : (t156 != 0) = true := bne_iff_ne.mpr c8
   simp only [Option.some.injEq, Prod.mk.injEq] at H
   obtain ⟨rfl, rfl⟩ := H
   go_enter Try.func32, Try.ntmps32
   go_wp2_with (first | ((with_reducible refine gate_callee (f := 20) rfl ?_); refine goesL_ (some 14) rfl rfl Try.func20 (by kernel_rfl) rfl #[.slice A0 l0.length c0, .int .i64 a1] rfl (by (try simp only [List.map_toArray, List.map_cons, List.map_nil]); first | done | rfl | (simp only [List.length_drop, List.length_take]; rfl)) ?_; (with_reducible refine (staff_Check.calls _ _ l0 a1 t155 _ ?side1 ?side2 A5.out).mono ?_); (case side1 => repeat (first | exact HR0.out | (with_reducible refine Kd.C_alloc ?_ _) | (with_reducible refine Kd.C_drewN ?_ _) | (with_reducible refine Kd.C_drew ?_))); (case side2 => exact HC0.out); rintro e w24 ⟨rfl, hb⟩; refine ⟨_, rfl, ?_⟩; have n0_ := Aside0.mk (below_step (hU HB.out) hb); clear HB; have HB := n0_; clear n0_; (try clear hb); (try clear hb2); (try clear hk); (try clear hi)) | ((with_reducible refine gate_callee (f := 20) rfl ?_); refine goesL_ (some 20) rfl rfl Try.func20 (by kernel_rfl) rfl #[.slice A2 l2.length c2, .int .i64 a3] rfl (by (try simp only [List.map_toArray, List.map_cons, List.map_nil]); first | done | rfl | (simp only [List.length_drop, List.length_take]; rfl)) ?_; (with_reducible refine (staff_Check.calls _ _ l2 a3 t156 _ ?side1 ?side2 A7.out).mono ?_); (case side1 => repeat (first | exact (Kd.C_below HR2.out HB.out) | (with_reducible refine Kd.C_alloc ?_ _) | (with_reducible refine Kd.C_drewN ?_ _) | (with_reducible refine Kd.C_drew ?_))); (case side2 => exact HC2.out); rintro e w25 ⟨rfl, hb⟩; refine ⟨_, rfl, ?_⟩; have n0_ := Aside0.mk (below_step (hU HB.out) hb); clear HB; have HB := n0_; clear n0_; (try clear hb); (try clear hb2); (try clear hk); (try clear hi)))
   go_ret2
   exact ⟨_, by first | rfl | (simp [errW_none, errW_some] <;> rfl) | (simp [*, errW_none, errW_some] <;> rfl), by first | exact Kd.R_nil _ _ _ _ _ | exact Kd.N_nil _ _ _ _ _ | exact Kd.V_nil _ _ _ _ _ | exact Kd.Q_nil _ _ _ _ _ | exact Kd.S_nil _ _ _ _ _, hU HB.out⟩
 ·rw [if_neg c6] at H
  have c6b0 : (t155 == 0) = false := beq_eq_false_iff_ne.mpr c6
  have c6b1 : (t155 != 0) = true := bne_iff_ne.mpr c6
  simp only [Option.some.injEq, Prod.mk.injEq] at H
  obtain ⟨rfl, rfl⟩ := H
  go_enter Try.func32, Try.ntmps32
  go_wp2_with (first | ((with_reducible refine gate_callee (f := 20) rfl ?_); refine goesL_ (some 14) rfl rfl Try.func20 (by kernel_rfl) rfl #[.slice A0 l0.length c0, .int .i64 a1] rfl (by (try simp only [List.map_toArray, List.map_cons, List.map_nil]); first | done | rfl | (simp only [List.length_drop, List.length_take]; rfl)) ?_; (with_reducible refine (staff_Check.calls _ _ l0 a1 t155 _ ?side1 ?side2 A5.out).mono ?_); (case side1 => repeat (first | exact HR0.out | (with_reducible refine Kd.C_alloc ?_ _) | (with_reducible refine Kd.C_drewN ?_ _) | (with_reducible refine Kd.C_drew ?_))); (case side2 => exact HC0.out); rintro e w26 ⟨rfl, hb⟩; refine ⟨_, rfl, ?_⟩; have n0_ := Aside0.mk (below_step (hU HB.out) hb); clear HB; have HB := n0_; clear n0_; (try clear hb); (try clear hb2); (try clear hk); (try clear hi)))
  go_ret2
  exact ⟨_, by first | rfl | (simp [errW_none, errW_some] <;> rfl) | (simp [*, errW_none, errW_some] <;> rfl), by first | exact Kd.R_nil _ _ _ _ _ | exact Kd.N_nil _ _ _ _ _ | exact Kd.V_nil _ _ _ _ _ | exact Kd.Q_nil _ _ _ _ _ | exact Kd.S_nil _ _ _ _ _, hU HB.out⟩

end Go.Proofs.Ytdilndbanhianaa.P
end
