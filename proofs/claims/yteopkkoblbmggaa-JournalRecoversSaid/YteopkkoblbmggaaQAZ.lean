/- Texts of this claim in one: VRTake; no condition. -/
import Derived.Test.YteopkkoblbmggaaQAE
import Derived.Test.YteopkkoblbmggaaQAS
import Derived.Test.YteopkkoblbmggaaQAY
import Derived.Test.YteopkkoblbmggaaQAC
import Derived.Deep.Light
section
set_option linter.unusedVariables false
set_option linter.unusedSimpArgs false
namespace Go.Proofs.Yteopkkoblbmggaa.P
open Go.RowKit Go.Proofs.YteopkkoblbmggaaW.PrintWords Go.Proofs.YteopkkoblbmggaaW.PrintLast Go.Proofs.YteopkkoblbmggaaW.PrintMore
theorem Y4K (w : World) (p : Addr) : w.drew.cell? p = w.cell? p := rfl
def Y1L (k : Nat) (a b c d e : Int) (f : Bool) (g h i j l m n : Int) (rest : List Int) : Option (Int × Int × Int × Int × Int × Bool × Int × Int × Int × Int × Int × Int × Int × Int) :=
  if rest.length = 0 then (Y9.f k a b c d e f g h i j l m n).bind fun x => some (if x = 0 then (a, b, c, d, e, f, g, h, i, j, l, m, n, 0) else (0, 0, 0, 0, 0, false, 0, 0, 0, 0, 0, 0, 0, x)) else some (0, 0, 0, 0, 0, false, 0, 0, 0, 0, 0, 0, 0, 2)
def YJ.f (k : Nat) (l0 : List Int) : Option (Int × Int × Int × Int × Int × Bool × Int × Int × Int × Int × Int × Int × Int × Int) :=
  (Yn.f k l0 6).bind fun t => if t.2.2 = 0 then (if t.1.length = 6 then
    (if t.1.getD 5 0 = 1 then Y1L k (t.1.getD 0 0) (t.1.getD 1 0) (t.1.getD 2 0) (t.1.getD 3 0) (t.1.getD 4 0) true 0 0 0 0 0 0 0 t.2.1
    else if t.1.getD 5 0 = 0 then ((Yn.f k t.2.1 7).bind fun u => if u.2.2 = 0 then (if u.1.length = 7 then Y1L k (t.1.getD 0 0) (t.1.getD 1 0) (t.1.getD 2 0) (t.1.getD 3 0) (t.1.getD 4 0) false (u.1.getD 0 0) (u.1.getD 1 0) (u.1.getD 2 0) (u.1.getD 3 0) (u.1.getD 4 0) (u.1.getD 5 0) (u.1.getD 6 0) u.2.1 else none) else some (0, 0, 0, 0, 0, false, 0, 0, 0, 0, 0, 0, 0, u.2.2))
    else some (0, 0, 0, 0, 0, false, 0, 0, 0, 0, 0, 0, 0, 2)) else none)
  else some (0, 0, 0, 0, 0, false, 0, 0, 0, 0, 0, 0, 0, t.2.2)
theorem Y2u (k : Nat) (a b c d e : Int) (f : Bool) (g h i j l m n : Int) (rest : List Int) : LeO (Y1L k a b c d e f g h i j l m n rest) (Y1L (k + 1) a b c d e f g h i j l m n rest) := by
  unfold Y1L
  exact LeO.ite (LeO.bind (Y9.mono _ _ _ _ _ _ _ _ _ _ _ _ _ _) fun _ => LeO.refl _) (LeO.refl _)
theorem YJ.mono (k : Nat) (l0 : List Int) : LeO (YJ.f k l0) (YJ.f (k + 1) l0) := by
  unfold YJ.f
  exact LeO.bind (Yn.mono _ _ _) fun _ => LeO.ite (LeO.ite (LeO.ite (Y2u _ _ _ _ _ _ _ _ _ _ _ _ _ _ _) (LeO.ite (LeO.bind (Yn.mono _ _ _) fun _ => LeO.ite (LeO.ite (Y2u _ _ _ _ _ _ _ _ _ _ _ _ _ _ _) (LeO.refl _)) (LeO.refl _)) (LeO.refl _))) (LeO.refl _)) (LeO.refl _)
set_option maxHeartbeats 4000000 in
set_option maxRecDepth 100000 in
theorem YJ.calls (k : Nat) (A0 : Option Addr) (c0 : Nat) (l0 : List Int) (r1 r2 r3 r4 r5 : Int) (r6 : Bool) (r7 r8 r9 r10 r11 r12 r13 r14 : Int) (w : World) (hr0 : Kd.C (Kd.int .u8) w A0 l0.length l0) (hc0 : l0.length ≤ c0) (h : YJ.f k l0 = some (r1, r2, r3, r4, r5, r6, r7, r8, r9, r10, r11, r12, r13, r14)) :
    Calls Try.prog 89 #[.slice A0 l0.length c0] w fun e w' => e = .returned (.tuple #[.agg #[.int .i64 r1, .int .i64 r2, .int .i64 r3, .int .i64 r4, .int .i64 r5, .bool r6, .int .i64 r7, .int .i64 r8, .int .i64 r9, .int .i64 r10, .int .i64 r11, .int .i64 r12, .int .i64 r13], .int .i64 r14]) ∧ Below w.heap.size w w' := by
  have HV0 := Y0.mk (Kd.V_mk (e := 5) (base := 0) hc0 (Kd.C_F (Kd.heap_int .u8) hr0))
  clear hr0 hc0
  have hu27 := Try.underlying30
  have hu25 := Try.underlying28
  have hu23 := Try.underlying26
  obtain ⟨⟨xs, rest, err⟩, h1, h⟩ := Option.bind_eq_some_iff.mp h
  have H := Y0.mk h
  have H1 := Y0.mk h1
  clear h h1
  go_enter Try.func89, Try.ntmps89
  by_cases he : err = 0
  · subst he
    by_cases hlen : xs.length = 6
    · match xs, hlen with
      | [x0, x1, x2, x3, x4, x5], _ =>
        go_upto_region 2 with (first | (go_at_call 123; refine (Yn.calls k (fun k_ => k_ < w.heap.size) A0 c0 l0 6 _ rest 0 _ (Kd.V_alloc HV0.out _) H1.out).mono ?_; rintro e w5 ⟨v1, v2, rfl, ho1, ho2, hb⟩; have HB5 := Y0.mk (Y4 (YH (Below.refl _ _) _) hb); have B0 := Y0.mk (Y6 (Y1x w _) hb); have HO1 := Y0.mk ho1; have HO2 := Y0.mk ho2; have hc0 := Y1 B0.out; have hf0 := Y3 B0.out; clear ho1 ho2 hb))
        obtain ⟨A1, c1, rfl⟩ := Kd.R_slice HO1.out
        obtain ⟨A2, c2, rfl⟩ := Kd.V_slice HO2.out
        have hC1 := (Kd.R_reads' HO1.out).2.2
        obtain ⟨ad, rfl, a0⟩ := Kd.at_int hC1 0 (by decide) (by simp)
        obtain ⟨_, e1, a1⟩ := Kd.at_int hC1 1 (by decide) (by simp)
        cases e1
        obtain ⟨_, e1, a2⟩ := Kd.at_int hC1 2 (by decide) (by simp)
        cases e1
        obtain ⟨_, e1, a3⟩ := Kd.at_int hC1 3 (by decide) (by simp)
        cases e1
        obtain ⟨_, e1, a4⟩ := Kd.at_int hC1 4 (by decide) (by simp)
        cases e1
        obtain ⟨_, e1, a5⟩ := Kd.at_int hC1 5 (by decide) (by simp)
        cases e1
        have b0 : w5.cell? ad = some (.int .i64 x0) := a0
        have b1 : w5.cell? ⟨ad.block, ad.off + 1, none⟩ = some (.int .i64 x1) := a1
        have b2 : w5.cell? ⟨ad.block, ad.off + 2, none⟩ = some (.int .i64 x2) := a2
        have b3 : w5.cell? ⟨ad.block, ad.off + 3, none⟩ = some (.int .i64 x3) := a3
        have b4 : w5.cell? ⟨ad.block, ad.off + 4, none⟩ = some (.int .i64 x4) := a4
        have b5 : w5.cell? ⟨ad.block, ad.off + 5, none⟩ = some (.int .i64 x5) := a5
        clear a0 a1 a2 a3 a4 a5 hC1
        have hl6 : [x0, x1, x2, x3, x4, x5].length = 6 := rfl
        simp only [List.length_cons, List.length_nil]
        by_cases h1 : x5 = 1
        · subst h1
          have HE0 : Y0 (Y1L k x0 x1 x2 x3 x4 true 0 0 0 0 0 0 0 rest = some (r1, r2, r3, r4, r5, r6, r7, r8, r9, r10, r11, r12, r13, r14)) := ⟨by simpa using H.out⟩
          go_upto_region 6 with (fail)
          refine Y1w (n := 24) (S := fun w' => w'.cell? ad = some (.int .i64 x0) ∧ w'.cell? ⟨ad.block, ad.off + 1, none⟩ = some (.int .i64 x1) ∧ w'.cell? ⟨ad.block, ad.off + 2, none⟩ = some (.int .i64 x2) ∧ w'.cell? ⟨ad.block, ad.off + 3, none⟩ = some (.int .i64 x3) ∧ w'.cell? ⟨ad.block, ad.off + 4, none⟩ = some (.int .i64 x4) ∧ w'.cell? ⟨ad.block, ad.off + 5, none⟩ = some (.int .i64 1)) (ds := []) #[false, false, false, false, false, false, false, false, false, false, false, false, false, false, false, false, false, false, false, false, false, false, false, false] rfl rfl rfl ⟨b0, b1, b2, b3, b4, b5⟩ (fun hHeld => ?_)
          refine puA 0 33 (bs 24 1) ?_
          refine puA 1 34 (bs 24 3) ?_
          refine tkA 2 35 (bs 24 7) hHeld ?_
          refine puA 3 36 (bs 24 15) ?_
          refine puA 4 37 (bs 24 31) ?_
          refine tkA 5 38 (bs 24 63) hHeld ?_
          refine puA 6 39 (bs 24 127) ?_
          refine puA 7 40 (bs 24 255) ?_
          refine puA 8 41 (bs 24 511) ?_
          refine tkA 9 42 (bs 24 1023) hHeld ?_
          refine puA 10 43 (bs 24 2047) ?_
          refine puA 11 44 (bs 24 4095) ?_
          refine tkA 12 45 (bs 24 8191) hHeld ?_
          refine puA 13 46 (bs 24 16383) ?_
          refine puA 14 47 (bs 24 32767) ?_
          refine tkA 15 48 (bs 24 65535) hHeld ?_
          refine puA 16 49 (bs 24 131071) ?_
          refine puA 17 50 (bs 24 262143) ?_
          refine puA 18 51 (bs 24 524287) ?_
          refine tkA 19 52 (bs 24 1048575) hHeld ?_
          refine puA 20 53 (bs 24 2097151) ?_
          refine puA 21 54 (bs 24 4194303) ?_
          refine one_ (i := 22) (N := some 7) (bs 24 8388607) rfl rfl (by kernel_rfl) (by decide) (fun K hK => ?_)
          rw [if_pos (by rfl)]
          go_wp2
          have hb56 : Below w5.heap.size w5 (w5.alloc (.cells #[.int .i64 0, .int .i64 0, .int .i64 0, .int .i64 0, .int .i64 0, .bool false, .int .i64 0, .int .i64 0, .int .i64 0, .int .i64 0, .int .i64 0, .int .i64 0, .int .i64 0] 30 (0, 0))).drew := YC (YH (Below.refl _ _) _)
          refine hK.out _ _ ⟨(hb56.cell (World.block_lt_of_cell? w5 _ b0)).trans b0, (hb56.cell (World.block_lt_of_cell? w5 _ b1)).trans b1, (hb56.cell (World.block_lt_of_cell? w5 _ b2)).trans b2, (hb56.cell (World.block_lt_of_cell? w5 _ b3)).trans b3, (hb56.cell (World.block_lt_of_cell? w5 _ b4)).trans b4, (hb56.cell (World.block_lt_of_cell? w5 _ b5)).trans b5⟩ (fun _ => ?_)
          refine one_ (i := 23) (N := none) #[true, true, true, true, true, true, true, true, true, true, true, true, true, true, true, true, true, true, true, true, true, true, true, true] rfl rfl (by kernel_rfl) (by decide) (fun K hK => ?_)
          rw [if_pos (by rfl)]
          go_wp2
          have hb57 : Below w5.heap.size w5 (w5.alloc (.cells #[.int .i64 x0, .int .i64 x1, .int .i64 x2, .int .i64 x3, .int .i64 x4, .bool true, .int .i64 0, .int .i64 0, .int .i64 0, .int .i64 0, .int .i64 0, .int .i64 0, .int .i64 0] 30 (0, 0))).drew := YC (YH (Below.refl _ _) _)
          refine hK.out _ _ ⟨(hb57.cell (World.block_lt_of_cell? w5 _ b0)).trans b0, (hb57.cell (World.block_lt_of_cell? w5 _ b1)).trans b1, (hb57.cell (World.block_lt_of_cell? w5 _ b2)).trans b2, (hb57.cell (World.block_lt_of_cell? w5 _ b3)).trans b3, (hb57.cell (World.block_lt_of_cell? w5 _ b4)).trans b4, (hb57.cell (World.block_lt_of_cell? w5 _ b5)).trans b5⟩ (fun _ => ?_)
          refine done_ (by kernel_rfl) ?_
          have BW0 := Y0.mk (Y6 B0.out hb57)
          have BW1 : Y0 ((w5.alloc (.cells #[.int .i64 x0, .int .i64 x1, .int .i64 x2, .int .i64 x3, .int .i64 x4, .bool true, .int .i64 0, .int .i64 0, .int .i64 0, .int .i64 0, .int .i64 0, .int .i64 0, .int .i64 0] 30 (0, 0))).drew.heap[w5.heap.size]? = some (.cells #[.int .i64 x0, .int .i64 x1, .int .i64 x2, .int .i64 x3, .int .i64 x4, .bool true, .int .i64 0, .int .i64 0, .int .i64 0, .int .i64 0, .int .i64 0, .int .i64 0, .int .i64 0] 30 (0, 0))) := ⟨Yd (Y1x _ _)⟩
          have HBW := Y0.mk (Y4 HB5.out hb57)
          have HOW := Y0.mk (Kd.V_below HO2.out hb57)
          have hgx : w.heap.size < w5.heap.size := Y1i B0.out
          clear hb56 hb57 hHeld b0 b1 b2 b3 b4 b5 hc0 hf0 B0 HB5 HO1 HO2
          generalize (w5.alloc (.cells #[.int .i64 x0, .int .i64 x1, .int .i64 x2, .int .i64 x3, .int .i64 x4, .bool true, .int .i64 0, .int .i64 0, .int .i64 0, .int .i64 0, .int .i64 0, .int .i64 0, .int .i64 0] 30 (0, 0))).drew = W at BW0 BW1 HBW HOW ⊢
          generalize w5.heap.size = gx at BW1 hgx ⊢
          have hc1 := Y1 BW1.out
          have hc0 := Y1 BW0.out
          have hf0 := Y3 BW0.out
          have HE := HE0.out
          unfold Y1L at HE
          by_cases hr : rest.length = 0
          · rw [if_pos hr] at HE
            have hr2 : decide (0 < (rest.length : Int)) = false := by simp [hr]
            obtain ⟨ch, HC, HE⟩ := Option.bind_eq_some_iff.mp HE
            have HCH := Y0.mk HC
            clear HC
            by_cases hch : ch = 0
            · subst hch
              rw [if_pos rfl] at HE
              have HE1 := Y0.mk HE
              clear HE
              go_wp2_with (first | (go_at_call 59; refine (Y9.calls k x0 x1 x2 x3 x4 true 0 0 0 0 0 0 0 0 _ HCH.out).mono ?_; rintro e w8 ⟨rfl, hb⟩; have HB8 := Y0.mk (Y4 HBW.out hb); have B80 := Y0.mk (Y6 BW0.out hb); have B81 := Y0.mk (Y6 BW1.out hb); have hc81 := Y1 B81.out; have hc80 := Y1 B80.out; have hf80 := Y3 B80.out; clear hb))
              refine bodyPost_ret (YN rfl _ _ w.heap.size 30 #[.int .i64 x0, .int .i64 x1, .int .i64 x2, .int .i64 x3, .int .i64 x4, .bool true, .int .i64 0, .int .i64 0, .int .i64 0, .int .i64 0, .int .i64 0, .int .i64 0, .int .i64 0] (0, 0) _ rfl (by apply Yw; (iterate 12 apply Y1l); exact B80.out; simp only [List.setIfInBounds_toArray, List.set_cons_zero, List.set_cons_succ]) Try.underlying30 rfl (by kernel_rfl)) rfl ⟨?_, by repeat (first | with_reducible exact HB8.out | ((with_reducible refine Y1b ?_ ?_); rotate_left; focus exact Nat.le_refl _))⟩
              have hq := HE1.out
              simp only [Option.some.injEq, Prod.mk.injEq] at hq
              obtain ⟨rfl, rfl, rfl, rfl, rfl, rfl, rfl, rfl, rfl, rfl, rfl, rfl, rfl, rfl⟩ := hq
              rfl
            · rw [if_neg hch] at HE
              have HE1 := Y0.mk HE
              clear HE
              have hch2 := bnT hch
              go_wp2_with (first | (go_at_call 59; refine (Y9.calls k x0 x1 x2 x3 x4 true 0 0 0 0 0 0 0 ch _ HCH.out).mono ?_; rintro e w8 ⟨rfl, hb⟩; have HB8 := Y0.mk (Y4 HBW.out hb); have B80 := Y0.mk (Y6 BW0.out hb); have hc80 := Y1 B80.out; have hf80 := Y3 B80.out; clear hb))
              refine bodyPost_ret (YN rfl _ _ w.heap.size 30 #[.int .i64 0, .int .i64 0, .int .i64 0, .int .i64 0, .int .i64 0, .bool false, .int .i64 0, .int .i64 0, .int .i64 0, .int .i64 0, .int .i64 0, .int .i64 0, .int .i64 0] (0, 0) _ rfl (by apply Yw; (iterate 12 apply Y1l); exact B80.out; simp only [List.setIfInBounds_toArray, List.set_cons_zero, List.set_cons_succ]) Try.underlying30 rfl (by kernel_rfl)) rfl ⟨?_, by repeat (first | with_reducible exact HB8.out | ((with_reducible refine Y1b ?_ ?_); rotate_left; focus exact Nat.le_refl _))⟩
              have hq := HE1.out
              simp only [Option.some.injEq, Prod.mk.injEq] at hq
              obtain ⟨rfl, rfl, rfl, rfl, rfl, rfl, rfl, rfl, rfl, rfl, rfl, rfl, rfl, rfl⟩ := hq
              rfl
          · rw [if_neg hr] at HE
            have hr2 : decide (0 < (rest.length : Int)) = true := by simp; omega
            have HE1 := Y0.mk HE
            clear HE
            go_wp2
            refine bodyPost_ret (YN rfl _ _ w.heap.size 30 #[.int .i64 0, .int .i64 0, .int .i64 0, .int .i64 0, .int .i64 0, .bool false, .int .i64 0, .int .i64 0, .int .i64 0, .int .i64 0, .int .i64 0, .int .i64 0, .int .i64 0] (0, 0) _ rfl (by apply Yw; (iterate 12 apply Y1l); exact BW0.out; simp only [List.setIfInBounds_toArray, List.set_cons_zero, List.set_cons_succ]) Try.underlying30 rfl (by kernel_rfl)) rfl ⟨?_, by repeat (first | with_reducible exact HBW.out | ((with_reducible refine Y1b ?_ ?_); rotate_left; focus exact Nat.le_refl _))⟩
            have hq := HE1.out
            simp only [Option.some.injEq, Prod.mk.injEq] at hq
            obtain ⟨rfl, rfl, rfl, rfl, rfl, rfl, rfl, rfl, rfl, rfl, rfl, rfl, rfl, rfl⟩ := hq
            rfl
        · by_cases h0 : x5 = 0
          · subst h0
            have HE0 : Y0 ((Yn.f k rest 7).bind (fun u => if u.2.2 = 0 then (if u.1.length = 7 then Y1L k x0 x1 x2 x3 x4 false (u.1.getD 0 0) (u.1.getD 1 0) (u.1.getD 2 0) (u.1.getD 3 0) (u.1.getD 4 0) (u.1.getD 5 0) (u.1.getD 6 0) u.2.1 else none) else some (0, 0, 0, 0, 0, false, 0, 0, 0, 0, 0, 0, 0, u.2.2)) = some (r1, r2, r3, r4, r5, r6, r7, r8, r9, r10, r11, r12, r13, r14)) := ⟨by simpa using H.out⟩
            go_upto_region 6 with (fail)
            refine Y1w (n := 24) (S := fun w' => w'.cell? ad = some (.int .i64 x0) ∧ w'.cell? ⟨ad.block, ad.off + 1, none⟩ = some (.int .i64 x1) ∧ w'.cell? ⟨ad.block, ad.off + 2, none⟩ = some (.int .i64 x2) ∧ w'.cell? ⟨ad.block, ad.off + 3, none⟩ = some (.int .i64 x3) ∧ w'.cell? ⟨ad.block, ad.off + 4, none⟩ = some (.int .i64 x4) ∧ w'.cell? ⟨ad.block, ad.off + 5, none⟩ = some (.int .i64 0)) (ds := []) #[false, false, false, false, false, false, false, false, false, false, false, false, false, false, false, false, false, false, false, false, false, false, false, false] rfl rfl rfl ⟨b0, b1, b2, b3, b4, b5⟩ (fun hHeld => ?_)
            refine puA 0 33 (bs 24 1) ?_
            refine puA 1 34 (bs 24 3) ?_
            refine tkA 2 35 (bs 24 7) hHeld ?_
            refine puA 3 36 (bs 24 15) ?_
            refine puA 4 37 (bs 24 31) ?_
            refine tkA 5 38 (bs 24 63) hHeld ?_
            refine puA 6 39 (bs 24 127) ?_
            refine puA 7 40 (bs 24 255) ?_
            refine puA 8 41 (bs 24 511) ?_
            refine tkA 9 42 (bs 24 1023) hHeld ?_
            refine puA 10 43 (bs 24 2047) ?_
            refine puA 11 44 (bs 24 4095) ?_
            refine tkA 12 45 (bs 24 8191) hHeld ?_
            refine puA 13 46 (bs 24 16383) ?_
            refine puA 14 47 (bs 24 32767) ?_
            refine tkA 15 48 (bs 24 65535) hHeld ?_
            refine puA 16 49 (bs 24 131071) ?_
            refine puA 17 50 (bs 24 262143) ?_
            refine puA 18 51 (bs 24 524287) ?_
            refine tkA 19 52 (bs 24 1048575) hHeld ?_
            refine puA 20 53 (bs 24 2097151) ?_
            refine puA 21 54 (bs 24 4194303) ?_
            refine one_ (i := 22) (N := some 7) (bs 24 8388607) rfl rfl (by kernel_rfl) (by decide) (fun K hK => ?_)
            rw [if_pos (by rfl)]
            go_wp2
            have hb56 : Below w5.heap.size w5 (w5.alloc (.cells #[.int .i64 0, .int .i64 0, .int .i64 0, .int .i64 0, .int .i64 0, .bool false, .int .i64 0, .int .i64 0, .int .i64 0, .int .i64 0, .int .i64 0, .int .i64 0, .int .i64 0] 30 (0, 0))).drew := YC (YH (Below.refl _ _) _)
            refine hK.out _ _ ⟨(hb56.cell (World.block_lt_of_cell? w5 _ b0)).trans b0, (hb56.cell (World.block_lt_of_cell? w5 _ b1)).trans b1, (hb56.cell (World.block_lt_of_cell? w5 _ b2)).trans b2, (hb56.cell (World.block_lt_of_cell? w5 _ b3)).trans b3, (hb56.cell (World.block_lt_of_cell? w5 _ b4)).trans b4, (hb56.cell (World.block_lt_of_cell? w5 _ b5)).trans b5⟩ (fun _ => ?_)
            refine one_ (i := 23) (N := none) #[true, true, true, true, true, true, true, true, true, true, true, true, true, true, true, true, true, true, true, true, true, true, true, true] rfl rfl (by kernel_rfl) (by decide) (fun K hK => ?_)
            rw [if_pos (by rfl)]
            go_wp2
            have hb57 : Below w5.heap.size w5 (w5.alloc (.cells #[.int .i64 x0, .int .i64 x1, .int .i64 x2, .int .i64 x3, .int .i64 x4, .bool false, .int .i64 0, .int .i64 0, .int .i64 0, .int .i64 0, .int .i64 0, .int .i64 0, .int .i64 0] 30 (0, 0))).drew := YC (YH (Below.refl _ _) _)
            refine hK.out _ _ ⟨(hb57.cell (World.block_lt_of_cell? w5 _ b0)).trans b0, (hb57.cell (World.block_lt_of_cell? w5 _ b1)).trans b1, (hb57.cell (World.block_lt_of_cell? w5 _ b2)).trans b2, (hb57.cell (World.block_lt_of_cell? w5 _ b3)).trans b3, (hb57.cell (World.block_lt_of_cell? w5 _ b4)).trans b4, (hb57.cell (World.block_lt_of_cell? w5 _ b5)).trans b5⟩ (fun _ => ?_)
            refine done_ (by kernel_rfl) ?_
            have BW0 := Y0.mk (Y6 B0.out hb57)
            have BW1 : Y0 ((w5.alloc (.cells #[.int .i64 x0, .int .i64 x1, .int .i64 x2, .int .i64 x3, .int .i64 x4, .bool false, .int .i64 0, .int .i64 0, .int .i64 0, .int .i64 0, .int .i64 0, .int .i64 0, .int .i64 0] 30 (0, 0))).drew.heap[w5.heap.size]? = some (.cells #[.int .i64 x0, .int .i64 x1, .int .i64 x2, .int .i64 x3, .int .i64 x4, .bool false, .int .i64 0, .int .i64 0, .int .i64 0, .int .i64 0, .int .i64 0, .int .i64 0, .int .i64 0] 30 (0, 0))) := ⟨Yd (Y1x _ _)⟩
            have HBW := Y0.mk (Y4 HB5.out hb57)
            have HOW := Y0.mk (Kd.V_below HO2.out hb57)
            have hgx : w.heap.size < w5.heap.size := Y1i B0.out
            clear hb56 hb57 hHeld b0 b1 b2 b3 b4 b5 hc0 hf0 B0 HB5 HO1 HO2
            generalize (w5.alloc (.cells #[.int .i64 x0, .int .i64 x1, .int .i64 x2, .int .i64 x3, .int .i64 x4, .bool false, .int .i64 0, .int .i64 0, .int .i64 0, .int .i64 0, .int .i64 0, .int .i64 0, .int .i64 0] 30 (0, 0))).drew = W at BW0 BW1 HBW HOW ⊢
            generalize w5.heap.size = gx at BW1 hgx ⊢
            obtain ⟨⟨us, ur, ue⟩, hu, HE⟩ := Option.bind_eq_some_iff.mp HE0.out
            have HU := Y0.mk hu
            have HE1 := Y0.mk HE
            clear hu HE HE0
            have hcx := Y1 BW1.out
            by_cases hue : ue = 0
            · subst hue
              by_cases hul : us.length = 7
              · match us, hul with
                | [y0, y1, y2, y3, y4, y5, y6], _ =>
                  have HE0 : Y0 (Y1L k x0 x1 x2 x3 x4 false y0 y1 y2 y3 y4 y5 y6 ur = some (r1, r2, r3, r4, r5, r6, r7, r8, r9, r10, r11, r12, r13, r14)) := ⟨by simpa using HE1.out⟩
                  clear HE1
                  go_upto_region 9 with (first | (go_at_call 123; refine (Yn.calls k _ A2 c2 rest 7 _ ur 0 _ (Kd.V_map HOW.out (fun _ hf => hf)) HU.out).mono ?_; rintro e w8 ⟨v3, v4, rfl, ho3, ho4, hb⟩; have HB8 := Y0.mk (Y4 HBW.out hb); have B80 := Y0.mk (Y6 BW0.out hb); have B81 := Y0.mk (Y6 BW1.out hb); have HO3 := Y0.mk ho3; have HO4 := Y0.mk ho4; have hc0 := Y1 B80.out; have hf0 := Y3 B80.out; clear ho3 ho4 hb))
                  obtain ⟨A3, c3, rfl⟩ := Kd.R_slice HO3.out
                  obtain ⟨A4, c4, rfl⟩ := Kd.V_slice HO4.out
                  have hC3 := (Kd.R_reads' HO3.out).2.2
                  obtain ⟨ad2, rfl, a0⟩ := Kd.at_int hC3 0 (by decide) (by simp)
                  obtain ⟨_, e1, a1⟩ := Kd.at_int hC3 1 (by decide) (by simp)
                  cases e1
                  obtain ⟨_, e1, a2⟩ := Kd.at_int hC3 2 (by decide) (by simp)
                  cases e1
                  obtain ⟨_, e1, a3⟩ := Kd.at_int hC3 3 (by decide) (by simp)
                  cases e1
                  obtain ⟨_, e1, a4⟩ := Kd.at_int hC3 4 (by decide) (by simp)
                  cases e1
                  obtain ⟨_, e1, a5⟩ := Kd.at_int hC3 5 (by decide) (by simp)
                  cases e1
                  obtain ⟨_, e1, a6⟩ := Kd.at_int hC3 6 (by decide) (by simp)
                  cases e1
                  have b0 : w8.cell? ad2 = some (.int .i64 y0) := a0
                  have b1 : w8.cell? ⟨ad2.block, ad2.off + 1, none⟩ = some (.int .i64 y1) := a1
                  have b2 : w8.cell? ⟨ad2.block, ad2.off + 2, none⟩ = some (.int .i64 y2) := a2
                  have b3 : w8.cell? ⟨ad2.block, ad2.off + 3, none⟩ = some (.int .i64 y3) := a3
                  have b4 : w8.cell? ⟨ad2.block, ad2.off + 4, none⟩ = some (.int .i64 y4) := a4
                  have b5 : w8.cell? ⟨ad2.block, ad2.off + 5, none⟩ = some (.int .i64 y5) := a5
                  have b6 : w8.cell? ⟨ad2.block, ad2.off + 6, none⟩ = some (.int .i64 y6) := a6
                  clear a0 a1 a2 a3 a4 a5 a6 hC3
                  simp only [List.length_cons, List.length_nil]
                  go_upto_region 11 with (fail)
                  refine Y1w (n := 24) (S := fun w' => w'.cell? ad2 = some (.int .i64 y0) ∧ w'.cell? ⟨ad2.block, ad2.off + 1, none⟩ = some (.int .i64 y1) ∧ w'.cell? ⟨ad2.block, ad2.off + 2, none⟩ = some (.int .i64 y2) ∧ w'.cell? ⟨ad2.block, ad2.off + 3, none⟩ = some (.int .i64 y3) ∧ w'.cell? ⟨ad2.block, ad2.off + 4, none⟩ = some (.int .i64 y4) ∧ w'.cell? ⟨ad2.block, ad2.off + 5, none⟩ = some (.int .i64 y5) ∧ w'.cell? ⟨ad2.block, ad2.off + 6, none⟩ = some (.int .i64 y6)) (ds := []) #[false, false, false, false, false, false, false, false, false, false, false, false, false, false, false, false, false, false, false, false, false, false, false, false] rfl rfl rfl ⟨b0, b1, b2, b3, b4, b5, b6⟩ (fun hHeld => ?_)
                  refine puA 0 68 (bs 24 1) ?_
                  refine puA 1 69 (bs 24 3) ?_
                  refine tkA 2 70 (bs 24 7) hHeld ?_
                  refine puA 3 71 (bs 24 15) ?_
                  refine puA 4 72 (bs 24 31) ?_
                  refine tkA 5 73 (bs 24 63) hHeld ?_
                  refine puA 6 74 (bs 24 127) ?_
                  refine puA 7 75 (bs 24 255) ?_
                  refine tkA 8 76 (bs 24 511) hHeld ?_
                  refine puA 9 77 (bs 24 1023) ?_
                  refine puA 10 78 (bs 24 2047) ?_
                  refine tkA 11 79 (bs 24 4095) hHeld ?_
                  refine puA 12 80 (bs 24 8191) ?_
                  refine puA 13 81 (bs 24 16383) ?_
                  refine tkA 14 82 (bs 24 32767) hHeld ?_
                  refine puA 15 83 (bs 24 65535) ?_
                  refine puA 16 84 (bs 24 131071) ?_
                  refine tkA 17 85 (bs 24 262143) hHeld ?_
                  refine puA 18 86 (bs 24 524287) ?_
                  refine puA 19 87 (bs 24 1048575) ?_
                  refine tkA 20 88 (bs 24 2097151) hHeld ?_
                  refine puA 21 89 (bs 24 4194303) ?_
                  refine puA 22 90 (bs 24 8388607) ?_
                  have hcx8 := Y1 B81.out
                  have hfx8 := Y3 B81.out
                  refine one_ (i := 23) (N := none) #[true, true, true, true, true, true, true, true, true, true, true, true, true, true, true, true, true, true, true, true, true, true, true, true] rfl rfl (by kernel_rfl) (by decide) (fun K hK => ?_)
                  rw [if_pos (by rfl)]
                  go_wp2
                  have hb89 : Below w.heap.size w (((((((w8.setCell ⟨gx, 6, none⟩ (.int .i64 y0)).setCell ⟨gx, 7, none⟩ (.int .i64 y1)).setCell ⟨gx, 8, none⟩ (.int .i64 y2)).setCell ⟨gx, 9, none⟩ (.int .i64 y3)).setCell ⟨gx, 10, none⟩ (.int .i64 y4)).setCell ⟨gx, 11, none⟩ (.int .i64 y5)).setCell ⟨gx, 12, none⟩ (.int .i64 y6)).drew := by refine YC ?_; repeat (first | with_reducible exact HB8.out | ((with_reducible refine Y1b ?_ ?_); rotate_left; focus exact Nat.le_of_lt hgx))
                  have hk89 : ∀ (p : Addr) v, p.block ≠ gx → w8.cell? p = some v → (((((((w8.setCell ⟨gx, 6, none⟩ (.int .i64 y0)).setCell ⟨gx, 7, none⟩ (.int .i64 y1)).setCell ⟨gx, 8, none⟩ (.int .i64 y2)).setCell ⟨gx, 9, none⟩ (.int .i64 y3)).setCell ⟨gx, 10, none⟩ (.int .i64 y4)).setCell ⟨gx, 11, none⟩ (.int .i64 y5)).setCell ⟨gx, 12, none⟩ (.int .i64 y6)).drew.cell? p = some v := by
                    intro p v hp hv
                    have hq : (((((((w8.setCell ⟨gx, 6, none⟩ (.int .i64 y0)).setCell ⟨gx, 7, none⟩ (.int .i64 y1)).setCell ⟨gx, 8, none⟩ (.int .i64 y2)).setCell ⟨gx, 9, none⟩ (.int .i64 y3)).setCell ⟨gx, 10, none⟩ (.int .i64 y4)).setCell ⟨gx, 11, none⟩ (.int .i64 y5)).setCell ⟨gx, 12, none⟩ (.int .i64 y6)).cell? p = w8.cell? p := by
                      iterate 6 refine (Y18 ?_ _).trans ?_; focus exact hp
                      exact Y18 hp _
                    exact (Y4K _ _).trans (hq.trans hv)
                  have hne : ad2.block ≠ gx := by
                    have h1 := HO3.out.1 ad2.block (by simp [Value.ownBlock])
                    have h2 := Y1i BW1.out
                    omega
                  refine hK.out _ _ ⟨hk89 _ _ hne b0, hk89 _ _ hne b1, hk89 _ _ hne b2, hk89 _ _ hne b3, hk89 _ _ hne b4, hk89 _ _ hne b5, hk89 _ _ hne b6⟩ (fun _ => ?_)
                  refine done_ (by kernel_rfl) ?_
                  have BX0 : Y0 ((((((((w8.setCell ⟨gx, 6, none⟩ (.int .i64 y0)).setCell ⟨gx, 7, none⟩ (.int .i64 y1)).setCell ⟨gx, 8, none⟩ (.int .i64 y2)).setCell ⟨gx, 9, none⟩ (.int .i64 y3)).setCell ⟨gx, 10, none⟩ (.int .i64 y4)).setCell ⟨gx, 11, none⟩ (.int .i64 y5)).setCell ⟨gx, 12, none⟩ (.int .i64 y6)).drew.heap[w.heap.size]? = some (.cells #[.int .i64 0, .int .i64 0, .int .i64 0, .int .i64 0, .int .i64 0, .bool false, .int .i64 0, .int .i64 0, .int .i64 0, .int .i64 0, .int .i64 0, .int .i64 0, .int .i64 0] 30 (0, 0))) := ⟨Yd (by (iterate 7 refine YV ?_ (Nat.ne_of_lt hgx) _); exact B80.out)⟩
                  have BX1 : Y0 ((((((((w8.setCell ⟨gx, 6, none⟩ (.int .i64 y0)).setCell ⟨gx, 7, none⟩ (.int .i64 y1)).setCell ⟨gx, 8, none⟩ (.int .i64 y2)).setCell ⟨gx, 9, none⟩ (.int .i64 y3)).setCell ⟨gx, 10, none⟩ (.int .i64 y4)).setCell ⟨gx, 11, none⟩ (.int .i64 y5)).setCell ⟨gx, 12, none⟩ (.int .i64 y6)).drew.heap[gx]? = some (.cells #[.int .i64 x0, .int .i64 x1, .int .i64 x2, .int .i64 x3, .int .i64 x4, .bool false, .int .i64 y0, .int .i64 y1, .int .i64 y2, .int .i64 y3, .int .i64 y4, .int .i64 y5, .int .i64 y6] 30 (0, 0))) := ⟨Yd (by apply Yw; (iterate 6 apply Y1l); exact B81.out; simp only [List.setIfInBounds_toArray, List.set_cons_zero, List.set_cons_succ])⟩
                  have HBX := Y0.mk hb89
                  clear hK hk89 hb89 hHeld b0 b1 b2 b3 b4 b5 b6 hne hcx8 hfx8 hc0 hf0 hcx BW0 BW1 HBW HOW HO3 HO4 HB8 B80 B81
                  generalize (((((((w8.setCell ⟨gx, 6, none⟩ (.int .i64 y0)).setCell ⟨gx, 7, none⟩ (.int .i64 y1)).setCell ⟨gx, 8, none⟩ (.int .i64 y2)).setCell ⟨gx, 9, none⟩ (.int .i64 y3)).setCell ⟨gx, 10, none⟩ (.int .i64 y4)).setCell ⟨gx, 11, none⟩ (.int .i64 y5)).setCell ⟨gx, 12, none⟩ (.int .i64 y6)).drew = W9 at BX0 BX1 HBX ⊢
                  have BW0 := BX0
                  have BW1 := BX1
                  have HBW := HBX
                  have hc1 := Y1 BW1.out
                  have hc0 := Y1 BW0.out
                  have hf0 := Y3 BW0.out
                  have HE := HE0.out
                  unfold Y1L at HE
                  by_cases hr : ur.length = 0
                  · rw [if_pos hr] at HE
                    have hr2 : decide (0 < (ur.length : Int)) = false := by simp [hr]
                    obtain ⟨ch, HC, HE⟩ := Option.bind_eq_some_iff.mp HE
                    have HCH := Y0.mk HC
                    clear HC
                    by_cases hch : ch = 0
                    · subst hch
                      rw [if_pos rfl] at HE
                      have HE1 := Y0.mk HE
                      clear HE
                      go_wp2_with (first | (go_at_call 59; refine (Y9.calls k x0 x1 x2 x3 x4 false y0 y1 y2 y3 y4 y5 y6 0 _ HCH.out).mono ?_; rintro e w8 ⟨rfl, hb⟩; have HB8 := Y0.mk (Y4 HBW.out hb); have B80 := Y0.mk (Y6 BW0.out hb); have B81 := Y0.mk (Y6 BW1.out hb); have hc81 := Y1 B81.out; have hc80 := Y1 B80.out; have hf80 := Y3 B80.out; clear hb))
                      refine bodyPost_ret (YN rfl _ _ w.heap.size 30 #[.int .i64 x0, .int .i64 x1, .int .i64 x2, .int .i64 x3, .int .i64 x4, .bool false, .int .i64 y0, .int .i64 y1, .int .i64 y2, .int .i64 y3, .int .i64 y4, .int .i64 y5, .int .i64 y6] (0, 0) _ rfl (by apply Yw; (iterate 12 apply Y1l); exact B80.out; simp only [List.setIfInBounds_toArray, List.set_cons_zero, List.set_cons_succ]) Try.underlying30 rfl (by kernel_rfl)) rfl ⟨?_, by repeat (first | with_reducible exact HB8.out | ((with_reducible refine Y1b ?_ ?_); rotate_left; focus exact Nat.le_refl _))⟩
                      have hq := HE1.out
                      simp only [Option.some.injEq, Prod.mk.injEq] at hq
                      obtain ⟨rfl, rfl, rfl, rfl, rfl, rfl, rfl, rfl, rfl, rfl, rfl, rfl, rfl, rfl⟩ := hq
                      rfl
                    · rw [if_neg hch] at HE
                      have HE1 := Y0.mk HE
                      clear HE
                      have hch2 := bnT hch
                      go_wp2_with (first | (go_at_call 59; refine (Y9.calls k x0 x1 x2 x3 x4 false y0 y1 y2 y3 y4 y5 y6 ch _ HCH.out).mono ?_; rintro e w8 ⟨rfl, hb⟩; have HB8 := Y0.mk (Y4 HBW.out hb); have B80 := Y0.mk (Y6 BW0.out hb); have hc80 := Y1 B80.out; have hf80 := Y3 B80.out; clear hb))
                      refine bodyPost_ret (YN rfl _ _ w.heap.size 30 #[.int .i64 0, .int .i64 0, .int .i64 0, .int .i64 0, .int .i64 0, .bool false, .int .i64 0, .int .i64 0, .int .i64 0, .int .i64 0, .int .i64 0, .int .i64 0, .int .i64 0] (0, 0) _ rfl (by apply Yw; (iterate 12 apply Y1l); exact B80.out; simp only [List.setIfInBounds_toArray, List.set_cons_zero, List.set_cons_succ]) Try.underlying30 rfl (by kernel_rfl)) rfl ⟨?_, by repeat (first | with_reducible exact HB8.out | ((with_reducible refine Y1b ?_ ?_); rotate_left; focus exact Nat.le_refl _))⟩
                      have hq := HE1.out
                      simp only [Option.some.injEq, Prod.mk.injEq] at hq
                      obtain ⟨rfl, rfl, rfl, rfl, rfl, rfl, rfl, rfl, rfl, rfl, rfl, rfl, rfl, rfl⟩ := hq
                      rfl
                  · rw [if_neg hr] at HE
                    have hr2 : decide (0 < (ur.length : Int)) = true := by simp; omega
                    have HE1 := Y0.mk HE
                    clear HE
                    go_wp2
                    refine bodyPost_ret (YN rfl _ _ w.heap.size 30 #[.int .i64 0, .int .i64 0, .int .i64 0, .int .i64 0, .int .i64 0, .bool false, .int .i64 0, .int .i64 0, .int .i64 0, .int .i64 0, .int .i64 0, .int .i64 0, .int .i64 0] (0, 0) _ rfl (by apply Yw; (iterate 12 apply Y1l); exact BW0.out; simp only [List.setIfInBounds_toArray, List.set_cons_zero, List.set_cons_succ]) Try.underlying30 rfl (by kernel_rfl)) rfl ⟨?_, by repeat (first | with_reducible exact HBW.out | ((with_reducible refine Y1b ?_ ?_); rotate_left; focus exact Nat.le_refl _))⟩
                    have hq := HE1.out
                    simp only [Option.some.injEq, Prod.mk.injEq] at hq
                    obtain ⟨rfl, rfl, rfl, rfl, rfl, rfl, rfl, rfl, rfl, rfl, rfl, rfl, rfl, rfl⟩ := hq
                    rfl
              · have h := HE1.out
                rw [if_pos rfl] at h
                rw [if_neg hul] at h
                cases h
            · have HE2 : Y0 (some ((0 : Int), (0 : Int), (0 : Int), (0 : Int), (0 : Int), false, (0 : Int), (0 : Int), (0 : Int), (0 : Int), (0 : Int), (0 : Int), (0 : Int), ue) = some (r1, r2, r3, r4, r5, r6, r7, r8, r9, r10, r11, r12, r13, r14)) := ⟨by simpa [hue] using HE1.out⟩
              have hue2 := bnT hue
              go_wp2_with (first | (go_at_call 123; refine (Yn.calls k _ A2 c2 rest 7 us ur ue _ (Kd.V_map HOW.out (fun _ hf => hf)) HU.out).mono ?_; rintro e w8 ⟨v3, v4, rfl, ho3, ho4, hb⟩; have HB8 := Y0.mk (Y4 HBW.out hb); have B80 := Y0.mk (Y6 BW0.out hb); have B81 := Y0.mk (Y6 BW1.out hb); have HO3 := Y0.mk ho3; have HO4 := Y0.mk ho4; have hc0 := Y1 B80.out; have hf0 := Y3 B80.out; clear ho3 ho4 hb))
              refine bodyPost_ret (YN rfl _ _ w.heap.size 30 #[.int .i64 0, .int .i64 0, .int .i64 0, .int .i64 0, .int .i64 0, .bool false, .int .i64 0, .int .i64 0, .int .i64 0, .int .i64 0, .int .i64 0, .int .i64 0, .int .i64 0] (0, 0) _ rfl (by apply Yw; (iterate 12 apply Y1l); exact B80.out; simp only [List.setIfInBounds_toArray, List.set_cons_zero, List.set_cons_succ]) Try.underlying30 rfl (by kernel_rfl)) rfl ⟨?_, by repeat (first | with_reducible exact HB8.out | ((with_reducible refine Y1b ?_ ?_); rotate_left; focus exact Nat.le_refl _))⟩
              have hq := HE2.out
              simp only [Option.some.injEq, Prod.mk.injEq] at hq
              obtain ⟨rfl, rfl, rfl, rfl, rfl, rfl, rfl, rfl, rfl, rfl, rfl, rfl, rfl, rfl⟩ := hq
              rfl
          · have hq1 : (x5 != 1) = true := bne_iff_ne.mpr h1
            have hq0 := bnT h0
            have HE1 : Y0 (some ((0 : Int), (0 : Int), (0 : Int), (0 : Int), (0 : Int), false, (0 : Int), (0 : Int), (0 : Int), (0 : Int), (0 : Int), (0 : Int), (0 : Int), (2 : Int)) = some (r1, r2, r3, r4, r5, r6, r7, r8, r9, r10, r11, r12, r13, r14)) := by
              exact ⟨by simpa [h0, h1] using H.out⟩
            go_wp2
            refine bodyPost_ret (YN rfl _ _ w.heap.size 30 #[.int .i64 0, .int .i64 0, .int .i64 0, .int .i64 0, .int .i64 0, .bool false, .int .i64 0, .int .i64 0, .int .i64 0, .int .i64 0, .int .i64 0, .int .i64 0, .int .i64 0] (0, 0) _ rfl (by apply Yw; (iterate 12 apply Y1l); exact B0.out; simp only [List.setIfInBounds_toArray, List.set_cons_zero, List.set_cons_succ]) Try.underlying30 rfl (by kernel_rfl)) rfl ⟨?_, by repeat (first | with_reducible exact HB5.out | ((with_reducible refine Y1b ?_ ?_); rotate_left; focus exact Nat.le_refl _))⟩
            have hq := HE1.out
            simp only [Option.some.injEq, Prod.mk.injEq] at hq
            obtain ⟨rfl, rfl, rfl, rfl, rfl, rfl, rfl, rfl, rfl, rfl, rfl, rfl, rfl, rfl⟩ := hq
            rfl
    · have h := H.out
      rw [if_pos rfl] at h
      rw [if_neg hlen] at h
      cases h
  · have HE1 := Y0.mk (H.out)
    have he2 := bnT he
    go_wp2_with (first | (go_at_call 123; refine (Yn.calls k (fun k_ => k_ < w.heap.size) A0 c0 l0 6 xs rest err _ (Kd.V_alloc HV0.out _) H1.out).mono ?_; rintro e w5 ⟨v1, v2, rfl, ho1, ho2, hb⟩; have HB5 := Y0.mk (Y4 (YH (Below.refl _ _) _) hb); have B0 := Y0.mk (Y6 (Y1x w _) hb); have HO1 := Y0.mk ho1; have HO2 := Y0.mk ho2; have hc0 := Y1 B0.out; have hf0 := Y3 B0.out; clear ho1 ho2 hb))
    refine bodyPost_ret (YN rfl _ _ w.heap.size 30 #[.int .i64 0, .int .i64 0, .int .i64 0, .int .i64 0, .int .i64 0, .bool false, .int .i64 0, .int .i64 0, .int .i64 0, .int .i64 0, .int .i64 0, .int .i64 0, .int .i64 0] (0, 0) _ rfl (by apply Yw; (iterate 12 apply Y1l); exact B0.out; simp only [List.setIfInBounds_toArray, List.set_cons_zero, List.set_cons_succ]) Try.underlying30 rfl (by kernel_rfl)) rfl ⟨?_, by repeat (first | with_reducible exact HB5.out | ((with_reducible refine Y1b ?_ ?_); rotate_left; focus exact Nat.le_refl _))⟩
    have hq := (if_neg he).symm.trans HE1.out
    simp only [Option.some.injEq, Prod.mk.injEq] at hq
    obtain ⟨rfl, rfl, rfl, rfl, rfl, rfl, rfl, rfl, rfl, rfl, rfl, rfl, rfl, rfl⟩ := hq
    rfl
end Go.Proofs.Yteopkkoblbmggaa.P
end
