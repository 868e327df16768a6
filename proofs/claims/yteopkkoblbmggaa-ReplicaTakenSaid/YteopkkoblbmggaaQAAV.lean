/- Texts of this claim in one: VP52, VSCheck; no condition. -/
import Derived.Test.YteopkkoblbmggaaQAAC
import Derived.Test.YteopkkoblbmggaaQAAE
import Derived.Test.YteopkkoblbmggaaQAAK
import Derived.Test.YteopkkoblbmggaaQAAG
import Derived.Test.YteopkkoblbmggaaQAAL
import Derived.Test.YteopkkoblbmggaaQAAH
import Derived.Deep.Light
import Derived.WalkMore
section
namespace Go.Proofs.Yteopkkoblbmggaa.P
open Go.RowKit Go.Proofs.YteopkkoblbmggaaW.PrintWords Go.Proofs.YteopkkoblbmggaaW.PrintLast Go.Proofs.YteopkkoblbmggaaW.PrintMore
attribute [local go_sem] YR YT Y11 Y12 YI YJ YS YU
set_option linter.unusedVariables false
set_option linter.unusedSimpArgs false
def Y1O.f (a0_0 : Int) (a0_1 : Int) (a0_2 : Int) (a0_3 : Int) (a0_4 : Int) (a0_5 : Int) (a0_6 : Int) : Option (Int) := some (wrap64 (a0_2 + a0_3))
set_option maxHeartbeats 8000000 in
set_option maxRecDepth 100000 in
theorem Y1O.calls (a0_0 : Int) (a0_1 : Int) (a0_2 : Int) (a0_3 : Int) (a0_4 : Int) (a0_5 : Int) (a0_6 : Int) (r : Int) (w : World) (h : Y1O.f a0_0 a0_1 a0_2 a0_3 a0_4 a0_5 a0_6 = some r) :
  Calls Try.prog 78 #[.agg #[.int .i64 a0_0, .int .i64 a0_1, .int .i64 a0_2, .int .i64 a0_3, .int .i64 a0_4, .int .i64 a0_5, .int .i64 a0_6]] w fun e w' => e = .returned (.int .i64 r) ∧ Below w.heap.size w w' := by
 have hu28 := Try.underlying28
 have HB := Y0.mk (Below.refl w.heap.size w)
 have H : (some (wrap64 (a0_2 + a0_3))) = some r := h
 clear h
 obtain rfl := Option.some.inj H
 go_enter Try.func78, Try.ntmps78
 go_wp2_with (first | ((with_reducible refine Ye (N := 1) rfl ?_); refine Yh ?hg (N := 1) ?hd (cs := #[.int .i64 a0_0, .int .i64 a0_1, .int .i64 a0_2, .int .i64 a0_3, .int .i64 a0_4, .int .i64 a0_5, .int .i64 a0_6]) (t := 28) ?hr ?_; (case hd => rfl); (case hg => rfl); (case hr => first | (go_simp; done) | (go_simp; rfl)); intro g_0 hg w2 hbox hb; have n0_ := Y0.mk (Y3 (hU HB.out) hb); have n1_ := Y0.mk (hbox); have n2_ := gE hg HB; have n3_ := gE hg HB; clear HB; have HB := n0_; have B_0 := n1_; have W_0 := n2_; have G_0 := n3_; clear n0_ n1_ n2_ n3_; clear hb hbox hg; have z_0 := Y2 B_0.out; have f_0 := Y7 B_0.out))
 go_ret
 exact ⟨reT, hU HB.out⟩
end Go.Proofs.Yteopkkoblbmggaa.P
end
section
set_option linter.unusedVariables false
set_option linter.unusedSimpArgs false
namespace Go.Proofs.Yteopkkoblbmggaa.P
open Go.RowKit Go.Proofs.YteopkkoblbmggaaW.PrintWords Go.Proofs.YteopkkoblbmggaaW.PrintLast Go.Proofs.YteopkkoblbmggaaW.PrintMore
def Y1w.f (l0 : List S28) (a1 : Int) : Option Int := some (chkS l0 a1)
set_option maxHeartbeats 4000000 in
set_option maxRecDepth 100000 in
theorem Y1w.calls (A0 : Option Addr) (c0 : Nat) (l0 : List S28) (a1 : Int) (r : Int) (w : World) (hr0 : Kd.C k28 w A0 l0.length l0) (hc0 : l0.length ≤ c0) (h : Y1w.f l0 a1 = some r) :
    Calls Try.prog 33 #[.slice A0 l0.length c0, .int .i64 a1] w fun e w' => e = .returned (.int .i64 r) ∧ Below w.heap.size w w' := by
  have hu28 := Try.underlying28
  have hu51 := Try.underlying104
  have HR0 := Y0.mk hr0
  have HC0 := Y0.mk hc0
  have H := Y0.mk (Option.some.inj h)
  have HB := Y0.mk (Below.refl w.heap.size w)
  clear hr0 hc0 h
  go_enter Try.func33, Try.ntmps33
  go_wp2
  go_step3
  by_cases h1 : a1 < 1
  · have d1 : decide (a1 < 1) = true := decide_eq_true h1
    have e : r = 1 := by rw [← H.out]; unfold chkS; rw [if_pos (Or.inl h1)]
    subst e
    clear h1
    go_wp2
    (try rw [Exit.noGoto_ret])
    go_ret
    exact ⟨rfl, HB.out⟩
  have d1 : decide (a1 < 1) = false := decide_eq_false h1
  by_cases h2 : 8192 < a1
  · have d2 : decide (8192 < a1) = true := decide_eq_true h2
    have e : r = 1 := by rw [← H.out]; unfold chkS; rw [if_pos (Or.inr h2)]
    subst e
    clear h1 h2
    go_wp2
    (try rw [Exit.noGoto_ret])
    go_ret
    exact ⟨rfl, HB.out⟩
  have d2 : decide (8192 < a1) = false := decide_eq_false h2
  by_cases h3 : 256 < l0.length
  · have d3 : decide ((256 : Int) < (l0.length : Int)) = true := decide_eq_true (by omega)
    have e : r = 3 := by rw [← H.out]; unfold chkS; rw [if_neg (show ¬ (a1 < 1 ∨ 8192 < a1) by omega), if_pos h3]
    subst e
    clear h1 h2 h3
    go_wp2
    (try rw [Exit.noGoto_ret])
    go_ret
    exact ⟨rfl, HB.out⟩
  have d3 : decide ((256 : Int) < (l0.length : Int)) = false := decide_eq_false (by omega)
  have H2 : Y0 ((if ¬ chk1 l0 = 0 then chk1 l0 else if ordS l0 = false then 5 else chk3 a1 [0, 0, 0, 0, 0, 0, 0, 0, 0] l0) = r) := ⟨by rw [← H.out]; unfold chkS; rw [if_neg (show ¬ (a1 < 1 ∨ 8192 < a1) by omega), if_neg h3]⟩
  have HN : Y0 (l0.length ≤ 256) := ⟨by omega⟩
  have HA : Y0 (¬ a1 < 1 ∧ ¬ 8192 < a1) := ⟨h1, h2⟩
  clear H h1 h2 h3
  go_wp2
  go_loopg [24] l0.length (fun kq v24 W => ∃ i : Nat, v24 = .int .i64 (i : Int) ∧ Y0 (i + kq = l0.length) ∧ Y0 (chk1 (l0.drop i) = chk1 l0) ∧ Y0 (Below w.heap.size w W))
  case atStart => exact ⟨0, rfl, ⟨by omega⟩, ⟨rfl⟩, HB⟩
  case round =>
    clear HB
    obtain ⟨i, rfl, HK, HS, HB⟩ := hrel
    cases gk with
    | succ k1 =>
      have hi : i < l0.length := by have := HK.out; omega
      have hlt : decide ((i : Int) < (l0.length : Int)) = true := by simp; exact hi
      obtain ⟨ad, e0, hx0, hx1, hx2, hx3, hx4, hx5, hx6⟩ := Y2d HR0.out (i : Int) (by omega) (by omega)
      cases e0
      rw [Int.toNat_natCast] at hx0 hx1 hx2 hx3 hx4 hx5 hx6
      replace hx0 := (HB.out.cell (World.block_lt_of_cell? w _ hx0)).trans hx0
      replace hx1 := (HB.out.cell (World.block_lt_of_cell? w _ hx1)).trans hx1
      replace hx2 := (HB.out.cell (World.block_lt_of_cell? w _ hx2)).trans hx2
      replace hx3 := (HB.out.cell (World.block_lt_of_cell? w _ hx3)).trans hx3
      replace hx4 := (HB.out.cell (World.block_lt_of_cell? w _ hx4)).trans hx4
      replace hx5 := (HB.out.cell (World.block_lt_of_cell? w _ hx5)).trans hx5
      replace hx6 := (HB.out.cell (World.block_lt_of_cell? w _ hx6)).trans hx6
      have q0 : (0 ≤ ((i : Nat) : Int)) = True := by simp
      have q1 : (((i : Nat) : Int) < (l0.length : Int)) = True := by simp; exact hi
      have hs := HS.out
      rw [Y1M hi, chk1] at hs
      have hcq := Y35 0 (Yo l0 i).f0 (Yo l0 i).f1 (Yo l0 i).f2 (Yo l0 i).f3 (Yo l0 i).f4 (Yo l0 i).f5 (Yo l0 i).f6
      have hco : chkP (Yo l0 i).f0 (Yo l0 i).f1 (Yo l0 i).f2 (Yo l0 i).f3 (Yo l0 i).f4 (Yo l0 i).f5 (Yo l0 i).f6 = chkO l0[i] := by rw [Y30 hi]; rfl
      rw [hco] at hcq
      generalize Yo l0 (i : Int) = x at hx0 hx1 hx2 hx3 hx4 hx5 hx6 hcq
      by_cases hc : chkO l0[i] = 0
      · rw [if_pos hc] at hs
        rw [hc] at hcq
        have HQ := Y0.mk hcq
        have HS' := Y0.mk hs
        clear hcq hco hs HS hc
        go_wp2_with (first | (go_at_call 77; refine (Yv.calls _ _ _ _ _ _ _ _ _ _ HQ.out).mono ?_; rintro e w5 ⟨rfl, hb⟩; have HB5 := Y0.mk (Y3 (hU HB.out) hb); clear hb))
        go_roundg k1
        case measure => have := HK.out; omega
        case rel => exact ⟨i + 1, by simp; rw [Y2j _ (by have := HN.out; omega) (by have := HN.out; omega)], ⟨by have := HK.out; omega⟩, HS', HB5⟩
      · have hr : r = chkO l0[i] := by
          have := H2.out
          rw [if_neg hc] at hs
          rw [if_pos (by rw [← hs]; exact hc), ← hs] at this
          exact this.symm
        rw [← hr] at hcq hc
        have HQ := Y0.mk hcq
        have dr : (r != 0) = true := bne_iff_ne.mpr hc
        clear hcq hco hs HS hc hr H2
        go_wp2_with (first | (go_at_call 77; refine (Yv.calls _ _ _ _ _ _ _ _ _ _ HQ.out).mono ?_; rintro e w5 ⟨rfl, hb⟩; have HB5 := Y0.mk (Y3 (hU HB.out) hb); clear hb))
        (try rw [Exit.noGoto_ret])
        go_ret
        exact ⟨rfl, HB5.out⟩
    | zero =>
      have hi : i = l0.length := by have := HK.out; omega
      have hlt : decide (i < l0.length) = false := by simp; omega
      have h1 : chk1 l0 = 0 := by
        have := HS.out
        rw [hi, List.drop_length] at this
        exact this.symm
      have H3 : Y0 ((if ordS l0 = false then 5 else chk3 a1 [0, 0, 0, 0, 0, 0, 0, 0, 0] l0) = r) := ⟨by rw [← H2.out, if_neg (not_not_intro h1)]⟩
      have HO : Y0 (∀ s ∈ l0, chkO s = 0) := ⟨Y4p l0 h1⟩
      clear H2 HS HK h1 hi
      go_wp2
      clear hlt
      go_loopg [8] l0.length (fun kq v8 W => ∃ (i : Nat) (X : Int), v8 = .int .i64 X ∧ Y0 (X = (i : Int) + 1) ∧ Y0 (i + kq = l0.length) ∧ Y0 (ordS l0 = ordS (l0.drop i)) ∧ Y0 (Below w.heap.size w W))
      case atStart => exact ⟨0, 1, rfl, ⟨rfl⟩, ⟨by omega⟩, ⟨rfl⟩, HB⟩
      case round =>
        clear HB
        obtain ⟨i, X, rfl, HX, HK, HS, HB⟩ := hrel
        by_cases hi : i + 1 < l0.length
        · have hlt : decide (X < (l0.length : Int)) = true := by have := HX.out; simp; omega
          obtain ⟨J, hJ⟩ : ∃ J : Int, wrap64 (X - 1) = J := ⟨_, rfl⟩
          have hJi : J = (i : Int) := by rw [← hJ, HX.out, Y2j _ (by have := HN.out; omega) (by have := HN.out; omega)]; omega
          have HJI := Y0.mk hJi
          have hX := HX.out
          obtain ⟨ad, e0, hx0, hx1, hx2, hx3, hx4, hx5, hx6⟩ := Y2d HR0.out J (by omega) (by omega)
          obtain ⟨ad', e1, hy0, hy1, hy2, hy3, hy4, hy5, hy6⟩ := Y2d HR0.out X (by omega) (by omega)
          obtain rfl : ad = ad' := by rw [e0] at e1; injection e1
          cases e0
          clear e1
          have hwx0 := hx0
          replace hx0 := (HB.out.cell (World.block_lt_of_cell? w _ hx0)).trans hx0
          have hwx1 := hx1
          replace hx1 := (HB.out.cell (World.block_lt_of_cell? w _ hx1)).trans hx1
          have hwx2 := hx2
          replace hx2 := (HB.out.cell (World.block_lt_of_cell? w _ hx2)).trans hx2
          have hwx3 := hx3
          replace hx3 := (HB.out.cell (World.block_lt_of_cell? w _ hx3)).trans hx3
          have hwx4 := hx4
          replace hx4 := (HB.out.cell (World.block_lt_of_cell? w _ hx4)).trans hx4
          have hwx5 := hx5
          replace hx5 := (HB.out.cell (World.block_lt_of_cell? w _ hx5)).trans hx5
          have hwx6 := hx6
          replace hx6 := (HB.out.cell (World.block_lt_of_cell? w _ hx6)).trans hx6
          have hwy0 := hy0
          replace hy0 := (HB.out.cell (World.block_lt_of_cell? w _ hy0)).trans hy0
          have hwy1 := hy1
          replace hy1 := (HB.out.cell (World.block_lt_of_cell? w _ hy1)).trans hy1
          have hwy2 := hy2
          replace hy2 := (HB.out.cell (World.block_lt_of_cell? w _ hy2)).trans hy2
          have hwy3 := hy3
          replace hy3 := (HB.out.cell (World.block_lt_of_cell? w _ hy3)).trans hy3
          have hwy4 := hy4
          replace hy4 := (HB.out.cell (World.block_lt_of_cell? w _ hy4)).trans hy4
          have hwy5 := hy5
          replace hy5 := (HB.out.cell (World.block_lt_of_cell? w _ hy5)).trans hy5
          have hwy6 := hy6
          replace hy6 := (HB.out.cell (World.block_lt_of_cell? w _ hy6)).trans hy6
          have p0 : (0 ≤ J) = True := eq_true (by omega)
          have p1 : (J < (l0.length : Int)) = True := eq_true (by omega)
          have q0 : (0 ≤ X) = True := eq_true (by omega)
          have q1 : (X < (l0.length : Int)) = True := eq_true (by omega)
          have hs := HS.out
          rw [Y1M (show i < l0.length by omega), Y1M hi] at hs
          have hlq := Y3q 0 (Yo l0 J).f0 (Yo l0 J).f1 (Yo l0 J).f2 (Yo l0 J).f3 (Yo l0 J).f4 (Yo l0 J).f5 (Yo l0 J).f6 (Yo l0 X).f0 (Yo l0 X).f1 (Yo l0 X).f2 (Yo l0 X).f3 (Yo l0 X).f4 (Yo l0 X).f5 (Yo l0 X).f6
          have hi0 : i < l0.length := Nat.lt_of_succ_lt hi
          obtain ⟨sa, hsa⟩ : ∃ s, l0[i]'hi0 = s := ⟨_, rfl⟩
          obtain ⟨sb, hsb⟩ : ∃ s, l0[i + 1]'hi = s := ⟨_, rfl⟩
          have hra : Yo l0 J = sa := by rw [hJi, Y30 hi0, hsa]
          have hrb : Yo l0 X = sb := by rw [hX, show ((i : Int) + 1) = ((i + 1 : Nat) : Int) by omega, Y30 hi, hsb]
          have hlo : lessB (Yo l0 J).f2 (Yo l0 J).f1 (Yo l0 X).f2 (Yo l0 X).f1 = ltS sa sb := by
            rw [hra, hrb]; rfl
          rw [hsa, hsb] at hs
          rw [hlo] at hlq
          have hs2 : ordS l0 = (ltS sa sb && ordS (l0.drop (i + 1))) := by rw [hs, Y1M hi, hsb]; rfl
          have HS2 := Y0.mk hs2
          have HI := Y0.mk hi
          clear hs hs2 hlo HS hJi hX hra hrb hsa hsb hi hi0
          generalize hxe : Yo l0 J = x at hx0 hx1 hx2 hx3 hx4 hx5 hx6 hwx0 hwx1 hwx2 hwx3 hwx4 hwx5 hwx6 hlq
          generalize hye : Yo l0 X = y at hy0 hy1 hy2 hy3 hy4 hy5 hy6 hwy0 hwy1 hwy2 hwy3 hwy4 hwy5 hwy6 hlq
          clear hxe hye
          obtain ⟨b, hb0⟩ : ∃ b, ltS sa sb = b := ⟨_, rfl⟩
          rw [hb0] at hlq HS2
          have HQ := Y0.mk hlq
          clear hlq hb0
          go_upto_region 15 with (fail)
          refine Y1d (n := 11) (S := fun w' => w'.cell? (ad.add (J.toNat * 7)) = some (.int .i64 x.f0) ∧ w'.cell? ⟨(ad.add (J.toNat * 7)).block, (ad.add (J.toNat * 7)).off + 1, none⟩ = some (.int .i64 x.f1) ∧ w'.cell? ⟨(ad.add (J.toNat * 7)).block, (ad.add (J.toNat * 7)).off + 2, none⟩ = some (.int .i64 x.f2) ∧ w'.cell? ⟨(ad.add (J.toNat * 7)).block, (ad.add (J.toNat * 7)).off + 3, none⟩ = some (.int .i64 x.f3) ∧ w'.cell? ⟨(ad.add (J.toNat * 7)).block, (ad.add (J.toNat * 7)).off + 4, none⟩ = some (.int .i64 x.f4) ∧ w'.cell? ⟨(ad.add (J.toNat * 7)).block, (ad.add (J.toNat * 7)).off + 5, none⟩ = some (.int .i64 x.f5) ∧ w'.cell? ⟨(ad.add (J.toNat * 7)).block, (ad.add (J.toNat * 7)).off + 6, none⟩ = some (.int .i64 x.f6) ∧ w'.cell? (ad.add (X.toNat * 7)) = some (.int .i64 y.f0) ∧ w'.cell? ⟨(ad.add (X.toNat * 7)).block, (ad.add (X.toNat * 7)).off + 1, none⟩ = some (.int .i64 y.f1) ∧ w'.cell? ⟨(ad.add (X.toNat * 7)).block, (ad.add (X.toNat * 7)).off + 2, none⟩ = some (.int .i64 y.f2) ∧ w'.cell? ⟨(ad.add (X.toNat * 7)).block, (ad.add (X.toNat * 7)).off + 3, none⟩ = some (.int .i64 y.f3) ∧ w'.cell? ⟨(ad.add (X.toNat * 7)).block, (ad.add (X.toNat * 7)).off + 4, none⟩ = some (.int .i64 y.f4) ∧ w'.cell? ⟨(ad.add (X.toNat * 7)).block, (ad.add (X.toNat * 7)).off + 5, none⟩ = some (.int .i64 y.f5) ∧ w'.cell? ⟨(ad.add (X.toNat * 7)).block, (ad.add (X.toNat * 7)).off + 6, none⟩ = some (.int .i64 y.f6)) (ds := []) #[false, false, false, false, false, false, false, false, false, false, false] rfl rfl rfl ⟨hx0, hx1, hx2, hx3, hx4, hx5, hx6, hy0, hy1, hy2, hy3, hy4, hy5, hy6⟩ (fun hHeld => ?_)
          refine pure_ (i := 0) (N := some 40) (v := ?_) (a' := ?_) #[true, false, false, false, false, false, false, false, false, false, false] rfl rfl (by kernel_rfl) (fun _ _ _ h => h) (Or.inl ⟨by rfl, ?_⟩) ?_ ?_
          rotate_left
          · intro w'
            go_simp
            with_reducible rfl
          rotate_left
          · simp only [Act.put, List.setIfInBounds_toArray, List.set_cons_zero, List.set_cons_succ, i64_w, i32_w]
            rfl
          refine pure_ (i := 1) (N := some 41) (v := ?_) (a' := ?_) #[true, true, false, false, false, false, false, false, false, false, false] rfl rfl (by kernel_rfl) (fun _ _ _ h => h) (Or.inl ⟨by rfl, ?_⟩) ?_ ?_
          rotate_left
          · intro w'
            go_simp
            with_reducible rfl
          rotate_left
          · simp only [Act.put, List.setIfInBounds_toArray, List.set_cons_zero, List.set_cons_succ, i64_w, i32_w]
            rfl
          refine pure_ (i := 2) (N := some 42) (v := ?_) (a' := ?_) #[true, true, true, false, false, false, false, false, false, false, false] rfl rfl (by kernel_rfl) (fun _ _ _ h => h) (Or.inl ⟨by rfl, ?_⟩) ?_ ?_
          rotate_left
          · intro w'
            go_simp
            with_reducible rfl
          rotate_left
          · simp only [Act.put, List.setIfInBounds_toArray, List.set_cons_zero, List.set_cons_succ, i64_w, i32_w]
            rfl
          refine pure_ (i := 3) (N := some 43) (v := ?_) (a' := ?_) #[true, true, true, true, false, false, false, false, false, false, false] rfl rfl (by kernel_rfl) (fun _ _ _ h => h) (Or.inl ⟨by rfl, ?_⟩) ?_ ?_
          rotate_left
          · intro w'
            go_simp
            with_reducible rfl
          rotate_left
          · simp only [Act.put, List.setIfInBounds_toArray, List.set_cons_zero, List.set_cons_succ, i64_w, i32_w]
            rfl
          refine pure_ (i := 5) (N := some 45) (v := ?_) (a' := ?_) #[true, true, true, true, false, true, false, false, false, false, false] rfl rfl (by kernel_rfl) (fun _ _ _ h => h) (Or.inl ⟨by rfl, ?_⟩) ?_ ?_
          rotate_left
          · intro w'
            go_simp
            with_reducible rfl
          rotate_left
          · simp only [Act.put, List.setIfInBounds_toArray, List.set_cons_zero, List.set_cons_succ, i64_w, i32_w]
            rfl
          refine pure_ (i := 6) (N := some 46) (v := ?_) (a' := ?_) #[true, true, true, true, false, true, true, false, false, false, false] rfl rfl (by kernel_rfl) (fun _ _ _ h => h) (Or.inl ⟨by rfl, ?_⟩) ?_ ?_
          rotate_left
          · intro w'
            go_simp
            with_reducible rfl
          rotate_left
          · simp only [Act.put, List.setIfInBounds_toArray, List.set_cons_zero, List.set_cons_succ, i64_w, i32_w]
            rfl
          refine pure_ (i := 7) (N := some 47) (v := ?_) (a' := ?_) #[true, true, true, true, false, true, true, true, false, false, false] rfl rfl (by kernel_rfl) (fun _ _ _ h => h) (Or.inl ⟨by rfl, ?_⟩) ?_ ?_
          rotate_left
          · intro w'
            go_simp
            with_reducible rfl
          rotate_left
          · simp only [Act.put, List.setIfInBounds_toArray, List.set_cons_zero, List.set_cons_succ, i64_w, i32_w]
            rfl
          refine take_ (i := 4) (N := some 44) (v := ?_) (a' := ?_) #[true, true, true, true, true, true, true, true, false, false, false] rfl rfl (by kernel_rfl) (fun _ _ _ h => h) (Or.inl ⟨by rfl, ?_⟩) hHeld ?_ ?_
          rotate_left
          · rintro w' ⟨s0, s1, s2, s3, s4, s5, s6, s7, s8, s9, s10, s11, s12, s13⟩
            go_simp
            with_reducible rfl
          rotate_left
          · simp only [Act.put, List.setIfInBounds_toArray, List.set_cons_zero, List.set_cons_succ, i64_w, i32_w]
            rfl
          refine take_ (i := 8) (N := some 48) (v := ?_) (a' := ?_) #[true, true, true, true, true, true, true, true, true, false, false] rfl rfl (by kernel_rfl) (fun _ _ _ h => h) (Or.inl ⟨by rfl, ?_⟩) hHeld ?_ ?_
          rotate_left
          · rintro w' ⟨s0, s1, s2, s3, s4, s5, s6, s7, s8, s9, s10, s11, s12, s13⟩
            go_simp
            with_reducible rfl
          rotate_left
          · simp only [Act.put, List.setIfInBounds_toArray, List.set_cons_zero, List.set_cons_succ, i64_w, i32_w]
            rfl
          refine one_ (i := 9) (N := some 49) #[true, true, true, true, true, true, true, true, true, true, false] rfl rfl (by kernel_rfl) (by decide) (fun K hK => ?_)
          refine goes_ Try.func70 (by kernel_rfl) rfl #[.agg #[.int .i64 x.f0, .int .i64 x.f1, .int .i64 x.f2, .int .i64 x.f3, .int .i64 x.f4, .int .i64 x.f5, .int .i64 x.f6], .agg #[.int .i64 y.f0, .int .i64 y.f1, .int .i64 y.f2, .int .i64 y.f3, .int .i64 y.f4, .int .i64 y.f5, .int .i64 y.f6]] (by rfl) rfl rfl (by (try simp only [List.map_toArray, List.map_cons, List.map_nil]); first | done | rfl) ?_
          refine (YK.calls _ _ _ _ _ _ _ _ _ _ _ _ _ _ _ b _ HQ.out).mono ?_
          rintro e w21 ⟨rfl, hb⟩
          refine ⟨_, rfl, ?_⟩
          have HB5 := Y0.mk (Y3 (hU HB.out) hb)
          clear hb
          refine hK.out _ _ ⟨(HB5.out.cell (World.block_lt_of_cell? w _ hwx0)).trans hwx0, (HB5.out.cell (World.block_lt_of_cell? w _ hwx1)).trans hwx1, (HB5.out.cell (World.block_lt_of_cell? w _ hwx2)).trans hwx2, (HB5.out.cell (World.block_lt_of_cell? w _ hwx3)).trans hwx3, (HB5.out.cell (World.block_lt_of_cell? w _ hwx4)).trans hwx4, (HB5.out.cell (World.block_lt_of_cell? w _ hwx5)).trans hwx5, (HB5.out.cell (World.block_lt_of_cell? w _ hwx6)).trans hwx6, (HB5.out.cell (World.block_lt_of_cell? w _ hwy0)).trans hwy0, (HB5.out.cell (World.block_lt_of_cell? w _ hwy1)).trans hwy1, (HB5.out.cell (World.block_lt_of_cell? w _ hwy2)).trans hwy2, (HB5.out.cell (World.block_lt_of_cell? w _ hwy3)).trans hwy3, (HB5.out.cell (World.block_lt_of_cell? w _ hwy4)).trans hwy4, (HB5.out.cell (World.block_lt_of_cell? w _ hwy5)).trans hwy5, (HB5.out.cell (World.block_lt_of_cell? w _ hwy6)).trans hwy6⟩ (fun _ => ?_)
          clear hK K
          refine norm_ (a' := ?_) ?_ ?_
          rotate_left
          · show Act.put _ (some 49) _ = _
            simp only [Act.put, List.setIfInBounds_toArray, List.set_cons_zero, List.set_cons_succ, i64_w, i32_w]
            rfl
          refine pure_ (i := 10) (N := some 50) (v := ?_) (a' := ?_) #[true, true, true, true, true, true, true, true, true, true, true] rfl rfl (by kernel_rfl) (fun _ _ _ h => h) (Or.inl ⟨by rfl, ?_⟩) ?_ ?_
          rotate_left
          · intro w'
            go_simp
            with_reducible rfl
          rotate_left
          · simp only [Act.put, List.setIfInBounds_toArray, List.set_cons_zero, List.set_cons_succ, i64_w, i32_w]
            rfl
          refine done_ (by kernel_rfl) ?_
          cases b
          · have hr : r = 5 := by
              have h := H3.out
              rw [HS2.out, Bool.false_and, if_pos rfl] at h
              exact h.symm
            subst hr
            go_wp2
            (try rw [Exit.noGoto_ret])
            go_ret
            exact ⟨rfl, HB5.out⟩
          · go_wp2
            cases gk with
            | zero => have := HK.out; have := HI.out; omega
            | succ k1 =>
              go_roundg k1
              case measure => have := HK.out; omega
              case rel => exact ⟨i + 1, _, rfl, ⟨by have := HX.out; have := HN.out; have := HK.out; rw [Y2j _ (by omega) (by omega)]; omega⟩, ⟨by have := HK.out; omega⟩, ⟨by rw [HS2.out, Bool.true_and]⟩, HB5⟩
        · have hlt : decide (X < (l0.length : Int)) = false := by have := HX.out; simp; omega
          have h1 : ordS l0 = true := by
            rw [HS.out]
            have : (l0.drop i).length ≤ 1 := by rw [List.length_drop]; omega
            match hd : l0.drop i, this with
            | [], _ => rfl
            | [a], _ => rfl
            | a :: b :: l, h => simp at h
          have H4 : Y0 (chk3 a1 [0, 0, 0, 0, 0, 0, 0, 0, 0] l0 = r) := ⟨by rw [← H3.out, h1, if_neg (by decide)]⟩
          clear H3 HS HK HX h1 hi
          go_wp2
          go_step3
          go_wp2
          have hbE : Below w.heap.size w (wr.alloc (.cells #[.int .i64 0, .int .i64 0, .int .i64 0, .int .i64 0, .int .i64 0, .int .i64 0, .int .i64 0, .int .i64 0, .int .i64 0] 104)) := Ys HB.out _
          have BE0 : Y0 ((wr.alloc (.cells #[.int .i64 0, .int .i64 0, .int .i64 0, .int .i64 0, .int .i64 0, .int .i64 0, .int .i64 0, .int .i64 0, .int .i64 0] 104)).heap[wr.heap.size]? = some (.cells (([0, 0, 0, 0, 0, 0, 0, 0, 0] : List Int).map (Value.int .i64)).toArray 104 (0, 0))) := ⟨Y1f _ _⟩
          have GE : Y0 (w.heap.size ≤ wr.heap.size) := ⟨Yf HB.out⟩
          clear HB
          have HB := Y0.mk hbE
          clear hbE
          generalize (wr.alloc (.cells #[.int .i64 0, .int .i64 0, .int .i64 0, .int .i64 0, .int .i64 0, .int .i64 0, .int .i64 0, .int .i64 0, .int .i64 0] 104)) = w3 at BE0 HB ⊢
          generalize wr.heap.size = gE at BE0 GE ⊢
          clear hlt
          go_loopg [10, 53] l0.length (fun kq v10 v53 W => ∃ (i : Nat) (E : List Int), v10 = .int .i64 0 ∧ v53 = .int .i64 (i : Int) ∧ Y0 (i + kq = l0.length) ∧ Y0 (E.length = 9) ∧ Y0 (W.heap[gE]? = some (.cells (E.map (Value.int .i64)).toArray 104 (0, 0))) ∧ Y0 (chk3 a1 E (l0.drop i) = r) ∧ Y0 (Below w.heap.size w W))
          case atStart => exact ⟨0, [0, 0, 0, 0, 0, 0, 0, 0, 0], rfl, rfl, ⟨by omega⟩, ⟨rfl⟩, BE0, H4, HB⟩
          case round =>
            clear HB BE0 H4
            obtain ⟨i, E, rfl, rfl, HK, HL, BE, H5, HB⟩ := hrel
            cases gk with
            | zero =>
              have hi : i = l0.length := by have := HK.out; omega
              have hlt : decide (i < l0.length) = false := by simp; omega
              have hr : r = 0 := by
                have := H5.out
                rw [hi, List.drop_length] at this
                exact this.symm
              subst hr
              clear hi
              go_wp2
              (try rw [Exit.noGoto_ret])
              go_ret
              exact ⟨rfl, HB.out⟩
            | succ k1 =>
              have hi : i < l0.length := by have := HK.out; omega
              have hlt : decide (i < l0.length) = true := by simp; exact hi
              have hlt2 : decide ((i : Int) < (l0.length : Int)) = true := by simp; exact hi
              obtain ⟨ad, e0, hx0, hx1, hx2, hx3, hx4, hx5, hx6⟩ := Y2d HR0.out (i : Int) (by omega) (by omega)
              cases e0
              rw [Int.toNat_natCast] at hx0 hx1 hx2 hx3 hx4 hx5 hx6
              replace hx0 := (HB.out.cell (World.block_lt_of_cell? w _ hx0)).trans hx0
              replace hx1 := (HB.out.cell (World.block_lt_of_cell? w _ hx1)).trans hx1
              replace hx2 := (HB.out.cell (World.block_lt_of_cell? w _ hx2)).trans hx2
              replace hx3 := (HB.out.cell (World.block_lt_of_cell? w _ hx3)).trans hx3
              replace hx4 := (HB.out.cell (World.block_lt_of_cell? w _ hx4)).trans hx4
              replace hx5 := (HB.out.cell (World.block_lt_of_cell? w _ hx5)).trans hx5
              replace hx6 := (HB.out.cell (World.block_lt_of_cell? w _ hx6)).trans hx6
              have q0 : (0 ≤ ((i : Nat) : Int)) = True := by simp
              have q1 : (((i : Nat) : Int) < (l0.length : Int)) = True := by simp; exact hi
              have hd := H5.out
              rw [Y1M hi, chk3] at hd
              have hin := Y3s (l0[i]'hi) (HO.out _ (List.getElem_mem hi))
              have hra := Y30 hi
              generalize l0[i]'hi = s at hd hin hra
              rw [hra] at hx0 hx1 hx2 hx3 hx4 hx5 hx6
              obtain ⟨e2, he2⟩ : ∃ e2, endS s = e2 := ⟨_, rfl⟩
              have hend : Y1O.f s.f0 s.f1 s.f2 s.f3 s.f4 s.f5 s.f6 = some e2 := by
                unfold Y1O.f; rw [Y2j _ (by omega) (by omega), ← he2]; rfl
              have HE := Y0.mk hend
              rw [he2] at hd
              have HIN := Y0.mk hin
              clear hra hend H5 he2
              by_cases hA : a1 < e2
              · rw [if_pos hA] at hd
                have dA : decide (a1 < e2) = true := decide_eq_true hA
                subst hd
                clear hA hin hi
                go_wp2_with (first | (go_at_call 78; refine (Y1O.calls _ _ _ _ _ _ _ e2 _ HE.out).mono ?_; rintro e w5 ⟨rfl, hb⟩; have HB5 := Y0.mk (Y3 (hU HB.out) hb); have BE5 := Y0.mk (Y1 (bU BE.out) hb); have BX5 := Y0.mk (Y1 (Y1f wr (.cells #[.int .i64 s.f0, .int .i64 s.f1, .int .i64 s.f2, .int .i64 s.f3, .int .i64 s.f4, .int .i64 s.f5, .int .i64 s.f6] 28)) hb); have hcx := Y2 BX5.out; have hfx := Y7 BX5.out; clear hb))
                (try rw [Exit.noGoto_ret])
                go_ret
                exact ⟨rfl, HB5.out⟩
              · rw [if_neg hA] at hd
                have dA : decide (a1 < e2) = false := decide_eq_false hA
                clear hA
                have HD := Y0.mk hd
                have HI := Y0.mk hi
                clear hd hi
                have b0 : (0 ≤ s.f1) = True := eq_true hin.1
                have b1 : (s.f1 < 9) = True := eq_true (by omega)
                clear hin
                go_upto_region 24 with (first | (go_at_call 78; refine (Y1O.calls _ _ _ _ _ _ _ e2 _ HE.out).mono ?_; rintro e w5 ⟨rfl, hb⟩; have HB5 := Y0.mk (Y3 (hU HB.out) hb); have BE5 := Y0.mk (Y1 (bU BE.out) hb); have BX5 := Y0.mk (Y1 (Y1f wr (.cells #[.int .i64 s.f0, .int .i64 s.f1, .int .i64 s.f2, .int .i64 s.f3, .int .i64 s.f4, .int .i64 s.f5, .int .i64 s.f6] 28)) hb); have hcx := Y2 BX5.out; have hfx := Y7 BX5.out; clear hb))
                have GX : Y0 (w.heap.size ≤ wr.heap.size) := ⟨Yf HB.out⟩
                have hne : gE ≠ wr.heap.size := Nat.ne_of_lt (YZ BE.out)
                clear hcx hfx hx0 hx1 hx2 hx3 hx4 hx5 hx6 HB BE q0 q1 hlt hlt2
                generalize wr.heap.size = gX at BX5 GX hne ⊢
                obtain ⟨v, hv⟩ : ∃ v, E.getD s.f1.toNat 0 = v := ⟨_, rfl⟩
                have hE : w5.cell? ⟨gE, s.f1.toNat, none⟩ = some (.int .i64 v) := by
                  rw [Y2 BE5.out, ← hv]
                  have := HL.out; have := HIN.out
                  have hlt : s.f1.toNat < E.length := by omega
                  simp [List.getD, hlt]
                have HV := Y0.mk hv
                clear hv
                have BE6 := Y0.mk (Y6 BE5.out)
                have BX6 := Y0.mk (Y6 BX5.out)
                have HB6 := Y0.mk (Yy HB5.out)
                refine Y1d (n := 8) (S := fun w' => w'.cell? ⟨gX, 1, none⟩ = some (.int .i64 s.f1) ∧ w'.cell? ⟨gX, 2, none⟩ = some (.int .i64 s.f2) ∧ w'.cell? ⟨gE, s.f1.toNat, none⟩ = some (.int .i64 v)) (ds := []) #[false, false, false, false, false, false, false, false] rfl rfl rfl ⟨(Y2 BX5.out 1).trans rfl, (Y2 BX5.out 2).trans rfl, hE⟩ (fun hHeld => ?_)
                clear BE5 BX5 HB5 hE
                generalize w5.drew = w6 at BE6 BX6 HB6 hHeld ⊢
                refine pure_ (i := 0) (N := some 63) (v := ?_) (a' := ?_) #[true, false, false, false, false, false, false, false] rfl rfl (by kernel_rfl) (fun _ _ _ h => h) (Or.inl ⟨by rfl, ?_⟩) ?_ ?_
                rotate_left
                · intro w'
                  go_simp
                  with_reducible rfl
                rotate_left
                · simp only [Act.put, List.setIfInBounds_toArray, List.set_cons_zero, List.set_cons_succ, i64_w, i32_w]
                  rfl
                refine pure_ (i := 4) (N := some 67) (v := ?_) (a' := ?_) #[true, false, false, false, true, false, false, false] rfl rfl (by kernel_rfl) (fun _ _ _ h => h) (Or.inl ⟨by rfl, ?_⟩) ?_ ?_
                rotate_left
                · intro w'
                  go_simp
                  with_reducible rfl
                rotate_left
                · simp only [Act.put, List.setIfInBounds_toArray, List.set_cons_zero, List.set_cons_succ, i64_w, i32_w]
                  rfl
                refine take_ (i := 1) (N := some 64) (v := ?_) (a' := ?_) #[true, true, false, false, true, false, false, false] rfl rfl (by kernel_rfl) (fun _ _ _ h => h) (Or.inl ⟨by rfl, ?_⟩) hHeld ?_ ?_
                rotate_left
                · rintro w' ⟨s0, s1, s2⟩
                  go_simp
                  with_reducible rfl
                rotate_left
                · simp only [Act.put, List.setIfInBounds_toArray, List.set_cons_zero, List.set_cons_succ, i64_w, i32_w]
                  rfl
                refine take_ (i := 5) (N := some 68) (v := ?_) (a' := ?_) #[true, true, false, false, true, true, false, false] rfl rfl (by kernel_rfl) (fun _ _ _ h => h) (Or.inl ⟨by rfl, ?_⟩) hHeld ?_ ?_
                rotate_left
                · rintro w' ⟨s0, s1, s2⟩
                  go_simp
                  with_reducible rfl
                rotate_left
                · simp only [Act.put, List.setIfInBounds_toArray, List.set_cons_zero, List.set_cons_succ, i64_w, i32_w]
                  rfl
                refine pure_ (i := 2) (N := some 65) (v := ?_) (a' := ?_) #[true, true, true, false, true, true, false, false] rfl rfl (by kernel_rfl) (fun _ _ _ h => h) (Or.inl ⟨by rfl, ?_⟩) ?_ ?_
                rotate_left
                · intro w'
                  go_simp
                  with_reducible rfl
                rotate_left
                · simp only [Act.put, List.setIfInBounds_toArray, List.set_cons_zero, List.set_cons_succ, i64_w, i32_w]
                  rfl
                refine take_ (i := 3) (N := some 66) (v := ?_) (a' := ?_) #[true, true, true, true, true, true, false, false] rfl rfl (by kernel_rfl) (fun _ _ _ h => h) (Or.inl ⟨by rfl, ?_⟩) hHeld ?_ ?_
                rotate_left
                · rintro w' ⟨s0, s1, s2⟩
                  go_simp
                  with_reducible rfl
                rotate_left
                · simp only [Act.put, List.setIfInBounds_toArray, List.set_cons_zero, List.set_cons_succ, i64_w, i32_w]
                  rfl
                refine pure_ (i := 6) (N := some 69) (v := ?_) (a' := ?_) #[true, true, true, true, true, true, true, false] rfl rfl (by kernel_rfl) (fun _ _ _ h => h) (Or.inl ⟨by rfl, ?_⟩) ?_ ?_
                rotate_left
                · intro w'
                  go_simp
                  with_reducible rfl
                rotate_left
                · simp only [Act.put, List.setIfInBounds_toArray, List.set_cons_zero, List.set_cons_succ, i64_w, i32_w]
                  rfl
                refine pure_ (i := 7) (N := some 62) (v := ?_) (a' := ?_) #[true, true, true, true, true, true, true, true] rfl rfl (by kernel_rfl) (fun _ _ _ h => h) (Or.inl ⟨by rfl, ?_⟩) ?_ ?_
                rotate_left
                · intro w'
                  go_simp
                  with_reducible rfl
                rotate_left
                · simp only [Act.put, List.setIfInBounds_toArray, List.set_cons_zero, List.set_cons_succ, i64_w, i32_w]
                  rfl
                refine done_ (by kernel_rfl) ?_
                clear hHeld
                by_cases hQ : s.f2 < v
                · have dQ : decide (s.f2 < v) = true := decide_eq_true hQ
                  have hd := HD.out
                  rw [HV.out, if_pos hQ] at hd
                  subst hd
                  clear hQ
                  rw [dQ]
                  go_wp2
                  (try rw [Exit.noGoto_ret])
                  go_ret
                  exact ⟨rfl, HB6.out⟩
                · have dQ : decide (s.f2 < v) = false := decide_eq_false hQ
                  have hd := HD.out
                  rw [HV.out, if_neg hQ] at hd
                  have HD2 := Y0.mk hd
                  clear hd HD hQ
                  rw [dQ]
                  go_upto_region 26 with (fail)
                  have BE7 := Y0.mk (Y6 BE6.out)
                  have BX7 := Y0.mk (Y6 BX6.out)
                  have HB7 := Y0.mk (Yy HB6.out)
                  refine Y1d (n := 6) (S := fun w' => w'.cell? ⟨gX, 0, none⟩ = some (.int .i64 s.f0) ∧ w'.cell? ⟨gX, 1, none⟩ = some (.int .i64 s.f1) ∧ w'.cell? ⟨gX, 2, none⟩ = some (.int .i64 s.f2) ∧ w'.cell? ⟨gX, 3, none⟩ = some (.int .i64 s.f3) ∧ w'.cell? ⟨gX, 4, none⟩ = some (.int .i64 s.f4) ∧ w'.cell? ⟨gX, 5, none⟩ = some (.int .i64 s.f5) ∧ w'.cell? ⟨gX, 6, none⟩ = some (.int .i64 s.f6)) (ds := []) #[false, false, false, false, false, false] rfl rfl rfl ⟨(Y2 BX6.out 0).trans rfl, (Y2 BX6.out 1).trans rfl, (Y2 BX6.out 2).trans rfl, (Y2 BX6.out 3).trans rfl, (Y2 BX6.out 4).trans rfl, (Y2 BX6.out 5).trans rfl, (Y2 BX6.out 6).trans rfl⟩ (fun hHeld => ?_)
                  clear BE6 BX6 HB6
                  generalize w6.drew = w7 at BE7 BX7 HB7 hHeld ⊢
                  refine pure_ (i := 0) (N := some 70) (v := ?_) (a' := ?_) #[true, false, false, false, false, false] rfl rfl (by kernel_rfl) (fun _ _ _ h => h) (Or.inl ⟨by rfl, ?_⟩) ?_ ?_
                  rotate_left
                  · intro w'
                    go_simp
                    with_reducible rfl
                  rotate_left
                  · simp only [Act.put, List.setIfInBounds_toArray, List.set_cons_zero, List.set_cons_succ, i64_w, i32_w]
                    rfl
                  refine take_ (i := 1) (N := some 71) (v := ?_) (a' := ?_) #[true, true, false, false, false, false] rfl rfl (by kernel_rfl) (fun _ _ _ h => h) (Or.inl ⟨by rfl, ?_⟩) hHeld ?_ ?_
                  rotate_left
                  · rintro w' ⟨s0, s1, s2, s3, s4, s5, s6⟩
                    go_simp
                    with_reducible rfl
                  rotate_left
                  · simp only [Act.put, List.setIfInBounds_toArray, List.set_cons_zero, List.set_cons_succ, i64_w, i32_w]
                    rfl
                  refine take_ (i := 2) (N := some 72) (v := ?_) (a' := ?_) #[true, true, true, false, false, false] rfl rfl (by kernel_rfl) (fun _ _ _ h => h) (Or.inl ⟨by rfl, ?_⟩) hHeld ?_ ?_
                  rotate_left
                  · rintro w' ⟨s0, s1, s2, s3, s4, s5, s6⟩
                    go_simp
                    with_reducible rfl
                  rotate_left
                  · simp only [Act.put, List.setIfInBounds_toArray, List.set_cons_zero, List.set_cons_succ, i64_w, i32_w]
                    rfl
                  refine one_ (i := 3) (N := some 73) #[true, true, true, true, false, false] rfl rfl (by kernel_rfl) (by decide) (fun K hK => ?_)
                  refine goes_ Try.func78 (by kernel_rfl) rfl #[.agg #[.int .i64 s.f0, .int .i64 s.f1, .int .i64 s.f2, .int .i64 s.f3, .int .i64 s.f4, .int .i64 s.f5, .int .i64 s.f6]] (by rfl) rfl rfl (by (try simp only [List.map_toArray, List.map_cons, List.map_nil]); first | done | rfl) ?_
                  refine (Y1O.calls _ _ _ _ _ _ _ e2 _ HE.out).mono ?_
                  rintro e w8 ⟨rfl, hb⟩
                  refine ⟨_, rfl, ?_⟩
                  have BE8 := Y0.mk (Y1 BE7.out hb)
                  have BX8 := Y0.mk (Y1 BX7.out hb)
                  have HB8 := Y0.mk (Y3 HB7.out hb)
                  clear hb BE7 BX7 HB7 hHeld
                  refine hK.out _ _ ⟨(Y2 BX8.out 0).trans rfl, (Y2 BX8.out 1).trans rfl, (Y2 BX8.out 2).trans rfl, (Y2 BX8.out 3).trans rfl, (Y2 BX8.out 4).trans rfl, (Y2 BX8.out 5).trans rfl, (Y2 BX8.out 6).trans rfl⟩ (fun hHeld => ?_)
                  clear hK K
                  refine norm_ (a' := ?_) ?_ ?_
                  rotate_left
                  · show Act.put _ (some 73) _ = _
                    simp only [Act.put, List.setIfInBounds_toArray, List.set_cons_zero, List.set_cons_succ, i64_w, i32_w]
                    rfl
                  refine pure_ (i := 4) (N := some 74) (v := ?_) (a' := ?_) #[true, true, true, true, true, false] rfl rfl (by kernel_rfl) (fun _ _ _ h => h) (Or.inl ⟨by rfl, ?_⟩) ?_ ?_
                  rotate_left
                  · intro w'
                    go_simp
                    with_reducible rfl
                  rotate_left
                  · simp only [Act.put, List.setIfInBounds_toArray, List.set_cons_zero, List.set_cons_succ, i64_w, i32_w]
                    rfl
                  have hcE : w8.cell? ⟨gE, s.f1.toNat, none⟩ = some (.int .i64 v) := by
                    rw [Y2 BE8.out, ← HV.out]
                    have := HL.out; have := HIN.out
                    have hlt : s.f1.toNat < E.length := by omega
                    simp [List.getD, hlt]
                  have hfE := Y7 BE8.out
                  refine one_ (i := 5) (N := none) #[true, true, true, true, true, true] rfl rfl (by kernel_rfl) (by decide) (fun K hK => ?_)
                  rw [if_pos (by rfl)]
                  go_wp2
                  have hne' : gX ≠ gE := Ne.symm hne
                  have HB9 : Y0 (Below w.heap.size w (w8.setCell ⟨gE, s.f1.toNat, none⟩ (.int .i64 e2))) := ⟨Y2k HB8.out GE.out⟩
                  have BE9 : Y0 ((w8.setCell ⟨gE, s.f1.toNat, none⟩ (.int .i64 e2)).heap[gE]? = some (.cells ((E.set s.f1.toNat e2).map (Value.int .i64)).toArray 104 (0, 0))) := ⟨Ym BE8.out _ _ (by simp [List.map_set])⟩
                  refine hK.out _ _ ⟨(YX hne' _).trans ((Y2 BX8.out 0).trans rfl), (YX hne' _).trans ((Y2 BX8.out 1).trans rfl), (YX hne' _).trans ((Y2 BX8.out 2).trans rfl), (YX hne' _).trans ((Y2 BX8.out 3).trans rfl), (YX hne' _).trans ((Y2 BX8.out 4).trans rfl), (YX hne' _).trans ((Y2 BX8.out 5).trans rfl), (YX hne' _).trans ((Y2 BX8.out 6).trans rfl)⟩ (fun _ => ?_)
                  refine done_ (by kernel_rfl) ?_
                  generalize (w8.setCell ⟨gE, s.f1.toNat, none⟩ (.int .i64 e2)) = w9 at HB9 BE9 ⊢
                  clear hK K hHeld hcE hfE
                  go_wp2
                  go_roundg k1
                  case measure => have := HK.out; omega
                  case rel => exact ⟨i + 1, E.set s.f1.toNat e2, rfl, by simp; rw [Y2j _ (by have := HN.out; have := HK.out; omega) (by have := HN.out; have := HK.out; omega)], ⟨by have := HK.out; omega⟩, ⟨by rw [List.length_set]; exact HL.out⟩, BE9, HD2, HB9⟩
end Go.Proofs.Yteopkkoblbmggaa.P
end
