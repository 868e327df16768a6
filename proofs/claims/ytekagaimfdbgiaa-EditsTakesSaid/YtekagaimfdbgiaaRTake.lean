/- The reference's Take: what its call returns; no condition. -/
import Derived.Deep.Light
import Derived.Test.YtekagaimfdbgiaaP26
import Derived.Test.YtekagaimfdbgiaaP13
set_option linter.unusedVariables false
set_option linter.unusedSimpArgs false
namespace Go.Proofs.Ytekagaimfdbgiaa.P
open Go.RowKit Go.Proofs.YtekagaimfdbgiaaW.PrintWords Go.Proofs.YtekagaimfdbgiaaW.PrintLast Go.Proofs.YtekagaimfdbgiaaW.PrintMore
theorem drew_cell (w : World) (p : Addr) : w.drew.cell? p = w.cell? p := rfl
def rtakeEnd (k : Nat) (a b c d e : Int) (f : Bool) (g h i j l m n : Int) (rest : List Int) : Option (Int × Int × Int × Int × Int × Bool × Int × Int × Int × Int × Int × Int × Int × Int) :=
  if rest.length = 0 then (dancestudioref56_Check.f k a b c d e f g h i j l m n).bind fun x => some (if x = 0 then (a, b, c, d, e, f, g, h, i, j, l, m, n, 0) else (0, 0, 0, 0, 0, false, 0, 0, 0, 0, 0, 0, 0, x)) else some (0, 0, 0, 0, 0, false, 0, 0, 0, 0, 0, 0, 0, 2)
def dancestudioref56_Take.f (k : Nat) (l0 : List Int) : Option (Int × Int × Int × Int × Int × Bool × Int × Int × Int × Int × Int × Int × Int × Int) :=
  (dancestudioref56_take.f k l0 6).bind fun t => if t.2.2 = 0 then (if t.1.length = 6 then
    (if t.1.getD 5 0 = 1 then rtakeEnd k (t.1.getD 0 0) (t.1.getD 1 0) (t.1.getD 2 0) (t.1.getD 3 0) (t.1.getD 4 0) true 0 0 0 0 0 0 0 t.2.1
    else if t.1.getD 5 0 = 0 then ((dancestudioref56_take.f k t.2.1 7).bind fun u => if u.2.2 = 0 then (if u.1.length = 7 then rtakeEnd k (t.1.getD 0 0) (t.1.getD 1 0) (t.1.getD 2 0) (t.1.getD 3 0) (t.1.getD 4 0) false (u.1.getD 0 0) (u.1.getD 1 0) (u.1.getD 2 0) (u.1.getD 3 0) (u.1.getD 4 0) (u.1.getD 5 0) (u.1.getD 6 0) u.2.1 else none) else some (0, 0, 0, 0, 0, false, 0, 0, 0, 0, 0, 0, 0, u.2.2))
    else some (0, 0, 0, 0, 0, false, 0, 0, 0, 0, 0, 0, 0, 2)) else none)
  else some (0, 0, 0, 0, 0, false, 0, 0, 0, 0, 0, 0, 0, t.2.2)
theorem rtakeEnd_mono (k : Nat) (a b c d e : Int) (f : Bool) (g h i j l m n : Int) (rest : List Int) : LeO (rtakeEnd k a b c d e f g h i j l m n rest) (rtakeEnd (k + 1) a b c d e f g h i j l m n rest) := by
  unfold rtakeEnd
  exact LeO.ite (LeO.bind (dancestudioref56_Check.mono _ _ _ _ _ _ _ _ _ _ _ _ _ _) fun _ => LeO.refl _) (LeO.refl _)
theorem dancestudioref56_Take.mono (k : Nat) (l0 : List Int) : LeO (dancestudioref56_Take.f k l0) (dancestudioref56_Take.f (k + 1) l0) := by
  unfold dancestudioref56_Take.f
  exact LeO.bind (dancestudioref56_take.mono _ _ _) fun _ => LeO.ite (LeO.ite (LeO.ite (rtakeEnd_mono _ _ _ _ _ _ _ _ _ _ _ _ _ _ _) (LeO.ite (LeO.bind (dancestudioref56_take.mono _ _ _) fun _ => LeO.ite (LeO.ite (rtakeEnd_mono _ _ _ _ _ _ _ _ _ _ _ _ _ _ _) (LeO.refl _)) (LeO.refl _)) (LeO.refl _))) (LeO.refl _)) (LeO.refl _)
set_option maxHeartbeats 4000000 in
set_option maxRecDepth 100000 in
theorem dancestudioref56_Take.calls (k : Nat) (A0 : Option Addr) (c0 : Nat) (l0 : List Int) (r1 r2 r3 r4 r5 : Int) (r6 : Bool) (r7 r8 r9 r10 r11 r12 r13 r14 : Int) (w : World) (hr0 : Kd.C (Kd.int .u8) w A0 l0.length l0) (hc0 : l0.length ≤ c0) (h : dancestudioref56_Take.f k l0 = some (r1, r2, r3, r4, r5, r6, r7, r8, r9, r10, r11, r12, r13, r14)) :
    Calls Try.prog 18 #[.slice A0 l0.length c0] w fun e w' => e = .returned (.tuple #[.agg #[.int .i64 r1, .int .i64 r2, .int .i64 r3, .int .i64 r4, .int .i64 r5, .bool r6, .int .i64 r7, .int .i64 r8, .int .i64 r9, .int .i64 r10, .int .i64 r11, .int .i64 r12, .int .i64 r13], .int .i64 r14]) ∧ Below w.heap.size w w' := by
  have HV0 := Aside0.mk (Kd.V_mk (e := 5) (base := 0) hc0 (Kd.C_F (Kd.heap_int .u8) hr0))
  clear hr0 hc0
  have hu27 := Try.underlying27
  have hu25 := Try.underlying25
  have hu23 := Try.underlying23
  obtain ⟨⟨xs, rest, err⟩, h1, h⟩ := Option.bind_eq_some_iff.mp h
  have H := Aside0.mk h
  have H1 := Aside0.mk h1
  clear h h1
  go_enter Try.func18, Try.ntmps18
  by_cases he : err = 0
  · subst he
    by_cases hlen : xs.length = 6
    · match xs, hlen with
      | [x0, x1, x2, x3, x4, x5], _ =>
        go_upto_region 2 with (first | (go_at_call 33; refine (dancestudioref56_take.calls k (fun k_ => k_ < w.heap.size) A0 c0 l0 6 _ rest 0 _ (Kd.V_alloc HV0.out _) H1.out).mono ?_; rintro e w5 ⟨v1, v2, rfl, ho1, ho2, hb⟩; have HB5 := Aside0.mk (below_step (below_alloc (Below.refl _ _) _) hb); have B0 := Aside0.mk (blk_below (blk_new w _) hb); have HO1 := Aside0.mk ho1; have HO2 := Aside0.mk ho2; have hc0 := blk_cell B0.out; have hf0 := blk_frozen B0.out; clear ho1 ho2 hb))
        obtain ⟨A1, c1, rfl⟩ := Kd.R_slice HO1.out
        obtain ⟨A2, c2, rfl⟩ := Kd.V_slice HO2.out
        have hC1 := (Kd.R_reads' HO1.out).2.2
        obtain ⟨ad, rfl, a0⟩ := Kd.at_int hC1 0 (by decide) (by simp)
        obtain ⟨_, e1, a1⟩ := Kd.at_int hC1 1 (by decide) (by simp)
        cases e1
        obtain ⟨_, e1, a2⟩ := Kd.at_int hC1 2 (by decide) (by simp)
        cases e1
        obtain ⟨_, e1, a3⟩ := Kd.at_int hC1 3 (by decide) (by simp)
        cases e1
        obtain ⟨_, e1, a4⟩ := Kd.at_int hC1 4 (by decide) (by simp)
        cases e1
        obtain ⟨_, e1, a5⟩ := Kd.at_int hC1 5 (by decide) (by simp)
        cases e1
        have b0 : w5.cell? ad = some (.int .i64 x0) := a0
        have b1 : w5.cell? ⟨ad.block, ad.off + 1, none⟩ = some (.int .i64 x1) := a1
        have b2 : w5.cell? ⟨ad.block, ad.off + 2, none⟩ = some (.int .i64 x2) := a2
        have b3 : w5.cell? ⟨ad.block, ad.off + 3, none⟩ = some (.int .i64 x3) := a3
        have b4 : w5.cell? ⟨ad.block, ad.off + 4, none⟩ = some (.int .i64 x4) := a4
        have b5 : w5.cell? ⟨ad.block, ad.off + 5, none⟩ = some (.int .i64 x5) := a5
        clear a0 a1 a2 a3 a4 a5 hC1
        have hl6 : [x0, x1, x2, x3, x4, x5].length = 6 := rfl
        simp only [List.length_cons, List.length_nil]
        by_cases h1 : x5 = 1
        · subst h1
          have HE0 : Aside0 (rtakeEnd k x0 x1 x2 x3 x4 true 0 0 0 0 0 0 0 rest = some (r1, r2, r3, r4, r5, r6, r7, r8, r9, r10, r11, r12, r13, r14)) := ⟨by simpa using H.out⟩
          go_upto_region 6 with (fail)
          refine start_ (n := 24) (S := fun w' => w'.cell? ad = some (.int .i64 x0) ∧ w'.cell? ⟨ad.block, ad.off + 1, none⟩ = some (.int .i64 x1) ∧ w'.cell? ⟨ad.block, ad.off + 2, none⟩ = some (.int .i64 x2) ∧ w'.cell? ⟨ad.block, ad.off + 3, none⟩ = some (.int .i64 x3) ∧ w'.cell? ⟨ad.block, ad.off + 4, none⟩ = some (.int .i64 x4) ∧ w'.cell? ⟨ad.block, ad.off + 5, none⟩ = some (.int .i64 1)) (ds := []) #[false, false, false, false, false, false, false, false, false, false, false, false, false, false, false, false, false, false, false, false, false, false, false, false] rfl rfl rfl ⟨b0, b1, b2, b3, b4, b5⟩ (fun hHeld => ?_)
          refine pure_ (i := 0) (N := some 33) (v := ?_) (a' := ?_) #[true, false, false, false, false, false, false, false, false, false, false, false, false, false, false, false, false, false, false, false, false, false, false, false] rfl rfl (by kernel_rfl) (fun _ _ _ h => h) (Or.inl ⟨by rfl, ?_⟩) ?_ ?_
          rotate_left
          · intro w'
            go_simp
            with_reducible rfl
          rotate_left
          · simp only [Act.put, List.setIfInBounds_toArray, List.set_cons_zero, List.set_cons_succ, i64_w, i32_w]
            rfl
          refine pure_ (i := 1) (N := some 34) (v := ?_) (a' := ?_) #[true, true, false, false, false, false, false, false, false, false, false, false, false, false, false, false, false, false, false, false, false, false, false, false] rfl rfl (by kernel_rfl) (fun _ _ _ h => h) (Or.inl ⟨by rfl, ?_⟩) ?_ ?_
          rotate_left
          · intro w'
            go_simp
            with_reducible rfl
          rotate_left
          · simp only [Act.put, List.setIfInBounds_toArray, List.set_cons_zero, List.set_cons_succ, i64_w, i32_w]
            rfl
          refine take_ (i := 2) (N := some 35) (v := ?_) (a' := ?_) #[true, true, true, false, false, false, false, false, false, false, false, false, false, false, false, false, false, false, false, false, false, false, false, false] rfl rfl (by kernel_rfl) (fun _ _ _ h => h) (Or.inl ⟨by rfl, ?_⟩) hHeld ?_ ?_
          rotate_left
          · rintro w' ⟨s0, s1, s2, s3, s4, s5⟩
            go_simp
            with_reducible rfl
          rotate_left
          · simp only [Act.put, List.setIfInBounds_toArray, List.set_cons_zero, List.set_cons_succ, i64_w, i32_w]
            rfl
          refine pure_ (i := 3) (N := some 36) (v := ?_) (a' := ?_) #[true, true, true, true, false, false, false, false, false, false, false, false, false, false, false, false, false, false, false, false, false, false, false, false] rfl rfl (by kernel_rfl) (fun _ _ _ h => h) (Or.inl ⟨by rfl, ?_⟩) ?_ ?_
          rotate_left
          · intro w'
            go_simp
            with_reducible rfl
          rotate_left
          · simp only [Act.put, List.setIfInBounds_toArray, List.set_cons_zero, List.set_cons_succ, i64_w, i32_w]
            rfl
          refine pure_ (i := 4) (N := some 37) (v := ?_) (a' := ?_) #[true, true, true, true, true, false, false, false, false, false, false, false, false, false, false, false, false, false, false, false, false, false, false, false] rfl rfl (by kernel_rfl) (fun _ _ _ h => h) (Or.inl ⟨by rfl, ?_⟩) ?_ ?_
          rotate_left
          · intro w'
            go_simp
            with_reducible rfl
          rotate_left
          · simp only [Act.put, List.setIfInBounds_toArray, List.set_cons_zero, List.set_cons_succ, i64_w, i32_w]
            rfl
          refine take_ (i := 5) (N := some 38) (v := ?_) (a' := ?_) #[true, true, true, true, true, true, false, false, false, false, false, false, false, false, false, false, false, false, false, false, false, false, false, false] rfl rfl (by kernel_rfl) (fun _ _ _ h => h) (Or.inl ⟨by rfl, ?_⟩) hHeld ?_ ?_
          rotate_left
          · rintro w' ⟨s0, s1, s2, s3, s4, s5⟩
            go_simp
            with_reducible rfl
          rotate_left
          · simp only [Act.put, List.setIfInBounds_toArray, List.set_cons_zero, List.set_cons_succ, i64_w, i32_w]
            rfl
          refine pure_ (i := 6) (N := some 39) (v := ?_) (a' := ?_) #[true, true, true, true, true, true, true, false, false, false, false, false, false, false, false, false, false, false, false, false, false, false, false, false] rfl rfl (by kernel_rfl) (fun _ _ _ h => h) (Or.inl ⟨by rfl, ?_⟩) ?_ ?_
          rotate_left
          · intro w'
            go_simp
            with_reducible rfl
          rotate_left
          · simp only [Act.put, List.setIfInBounds_toArray, List.set_cons_zero, List.set_cons_succ, i64_w, i32_w]
            rfl
          refine pure_ (i := 7) (N := some 40) (v := ?_) (a' := ?_) #[true, true, true, true, true, true, true, true, false, false, false, false, false, false, false, false, false, false, false, false, false, false, false, false] rfl rfl (by kernel_rfl) (fun _ _ _ h => h) (Or.inl ⟨by rfl, ?_⟩) ?_ ?_
          rotate_left
          · intro w'
            go_simp
            with_reducible rfl
          rotate_left
          · simp only [Act.put, List.setIfInBounds_toArray, List.set_cons_zero, List.set_cons_succ, i64_w, i32_w]
            rfl
          refine pure_ (i := 8) (N := some 41) (v := ?_) (a' := ?_) #[true, true, true, true, true, true, true, true, true, false, false, false, false, false, false, false, false, false, false, false, false, false, false, false] rfl rfl (by kernel_rfl) (fun _ _ _ h => h) (Or.inl ⟨by rfl, ?_⟩) ?_ ?_
          rotate_left
          · intro w'
            go_simp
            with_reducible rfl
          rotate_left
          · simp only [Act.put, List.setIfInBounds_toArray, List.set_cons_zero, List.set_cons_succ, i64_w, i32_w]
            rfl
          refine take_ (i := 9) (N := some 42) (v := ?_) (a' := ?_) #[true, true, true, true, true, true, true, true, true, true, false, false, false, false, false, false, false, false, false, false, false, false, false, false] rfl rfl (by kernel_rfl) (fun _ _ _ h => h) (Or.inl ⟨by rfl, ?_⟩) hHeld ?_ ?_
          rotate_left
          · rintro w' ⟨s0, s1, s2, s3, s4, s5⟩
            go_simp
            with_reducible rfl
          rotate_left
          · simp only [Act.put, List.setIfInBounds_toArray, List.set_cons_zero, List.set_cons_succ, i64_w, i32_w]
            rfl
          refine pure_ (i := 10) (N := some 43) (v := ?_) (a' := ?_) #[true, true, true, true, true, true, true, true, true, true, true, false, false, false, false, false, false, false, false, false, false, false, false, false] rfl rfl (by kernel_rfl) (fun _ _ _ h => h) (Or.inl ⟨by rfl, ?_⟩) ?_ ?_
          rotate_left
          · intro w'
            go_simp
            with_reducible rfl
          rotate_left
          · simp only [Act.put, List.setIfInBounds_toArray, List.set_cons_zero, List.set_cons_succ, i64_w, i32_w]
            rfl
          refine pure_ (i := 11) (N := some 44) (v := ?_) (a' := ?_) #[true, true, true, true, true, true, true, true, true, true, true, true, false, false, false, false, false, false, false, false, false, false, false, false] rfl rfl (by kernel_rfl) (fun _ _ _ h => h) (Or.inl ⟨by rfl, ?_⟩) ?_ ?_
          rotate_left
          · intro w'
            go_simp
            with_reducible rfl
          rotate_left
          · simp only [Act.put, List.setIfInBounds_toArray, List.set_cons_zero, List.set_cons_succ, i64_w, i32_w]
            rfl
          refine take_ (i := 12) (N := some 45) (v := ?_) (a' := ?_) #[true, true, true, true, true, true, true, true, true, true, true, true, true, false, false, false, false, false, false, false, false, false, false, false] rfl rfl (by kernel_rfl) (fun _ _ _ h => h) (Or.inl ⟨by rfl, ?_⟩) hHeld ?_ ?_
          rotate_left
          · rintro w' ⟨s0, s1, s2, s3, s4, s5⟩
            go_simp
            with_reducible rfl
          rotate_left
          · simp only [Act.put, List.setIfInBounds_toArray, List.set_cons_zero, List.set_cons_succ, i64_w, i32_w]
            rfl
          refine pure_ (i := 13) (N := some 46) (v := ?_) (a' := ?_) #[true, true, true, true, true, true, true, true, true, true, true, true, true, true, false, false, false, false, false, false, false, false, false, false] rfl rfl (by kernel_rfl) (fun _ _ _ h => h) (Or.inl ⟨by rfl, ?_⟩) ?_ ?_
          rotate_left
          · intro w'
            go_simp
            with_reducible rfl
          rotate_left
          · simp only [Act.put, List.setIfInBounds_toArray, List.set_cons_zero, List.set_cons_succ, i64_w, i32_w]
            rfl
          refine pure_ (i := 14) (N := some 47) (v := ?_) (a' := ?_) #[true, true, true, true, true, true, true, true, true, true, true, true, true, true, true, false, false, false, false, false, false, false, false, false] rfl rfl (by kernel_rfl) (fun _ _ _ h => h) (Or.inl ⟨by rfl, ?_⟩) ?_ ?_
          rotate_left
          · intro w'
            go_simp
            with_reducible rfl
          rotate_left
          · simp only [Act.put, List.setIfInBounds_toArray, List.set_cons_zero, List.set_cons_succ, i64_w, i32_w]
            rfl
          refine take_ (i := 15) (N := some 48) (v := ?_) (a' := ?_) #[true, true, true, true, true, true, true, true, true, true, true, true, true, true, true, true, false, false, false, false, false, false, false, false] rfl rfl (by kernel_rfl) (fun _ _ _ h => h) (Or.inl ⟨by rfl, ?_⟩) hHeld ?_ ?_
          rotate_left
          · rintro w' ⟨s0, s1, s2, s3, s4, s5⟩
            go_simp
            with_reducible rfl
          rotate_left
          · simp only [Act.put, List.setIfInBounds_toArray, List.set_cons_zero, List.set_cons_succ, i64_w, i32_w]
            rfl
          refine pure_ (i := 16) (N := some 49) (v := ?_) (a' := ?_) #[true, true, true, true, true, true, true, true, true, true, true, true, true, true, true, true, true, false, false, false, false, false, false, false] rfl rfl (by kernel_rfl) (fun _ _ _ h => h) (Or.inl ⟨by rfl, ?_⟩) ?_ ?_
          rotate_left
          · intro w'
            go_simp
            with_reducible rfl
          rotate_left
          · simp only [Act.put, List.setIfInBounds_toArray, List.set_cons_zero, List.set_cons_succ, i64_w, i32_w]
            rfl
          refine pure_ (i := 17) (N := some 50) (v := ?_) (a' := ?_) #[true, true, true, true, true, true, true, true, true, true, true, true, true, true, true, true, true, true, false, false, false, false, false, false] rfl rfl (by kernel_rfl) (fun _ _ _ h => h) (Or.inl ⟨by rfl, ?_⟩) ?_ ?_
          rotate_left
          · intro w'
            go_simp
            with_reducible rfl
          rotate_left
          · simp only [Act.put, List.setIfInBounds_toArray, List.set_cons_zero, List.set_cons_succ, i64_w, i32_w]
            rfl
          refine pure_ (i := 18) (N := some 51) (v := ?_) (a' := ?_) #[true, true, true, true, true, true, true, true, true, true, true, true, true, true, true, true, true, true, true, false, false, false, false, false] rfl rfl (by kernel_rfl) (fun _ _ _ h => h) (Or.inl ⟨by rfl, ?_⟩) ?_ ?_
          rotate_left
          · intro w'
            go_simp
            with_reducible rfl
          rotate_left
          · simp only [Act.put, List.setIfInBounds_toArray, List.set_cons_zero, List.set_cons_succ, i64_w, i32_w]
            rfl
          refine take_ (i := 19) (N := some 52) (v := ?_) (a' := ?_) #[true, true, true, true, true, true, true, true, true, true, true, true, true, true, true, true, true, true, true, true, false, false, false, false] rfl rfl (by kernel_rfl) (fun _ _ _ h => h) (Or.inl ⟨by rfl, ?_⟩) hHeld ?_ ?_
          rotate_left
          · rintro w' ⟨s0, s1, s2, s3, s4, s5⟩
            go_simp
            with_reducible rfl
          rotate_left
          · simp only [Act.put, List.setIfInBounds_toArray, List.set_cons_zero, List.set_cons_succ, i64_w, i32_w]
            rfl
          refine pure_ (i := 20) (N := some 53) (v := ?_) (a' := ?_) #[true, true, true, true, true, true, true, true, true, true, true, true, true, true, true, true, true, true, true, true, true, false, false, false] rfl rfl (by kernel_rfl) (fun _ _ _ h => h) (Or.inl ⟨by rfl, ?_⟩) ?_ ?_
          rotate_left
          · intro w'
            go_simp
            with_reducible rfl
          rotate_left
          · simp only [Act.put, List.setIfInBounds_toArray, List.set_cons_zero, List.set_cons_succ, i64_w, i32_w]
            rfl
          refine pure_ (i := 21) (N := some 54) (v := ?_) (a' := ?_) #[true, true, true, true, true, true, true, true, true, true, true, true, true, true, true, true, true, true, true, true, true, true, false, false] rfl rfl (by kernel_rfl) (fun _ _ _ h => h) (Or.inl ⟨by rfl, ?_⟩) ?_ ?_
          rotate_left
          · intro w'
            go_simp
            with_reducible rfl
          rotate_left
          · simp only [Act.put, List.setIfInBounds_toArray, List.set_cons_zero, List.set_cons_succ, i64_w, i32_w]
            rfl
          refine one_ (i := 22) (N := some 7) #[true, true, true, true, true, true, true, true, true, true, true, true, true, true, true, true, true, true, true, true, true, true, true, false] rfl rfl (by kernel_rfl) (by decide) (fun K hK => ?_)
          rw [if_pos (by rfl)]
          go_wp2
          have hb56 : Below w5.heap.size w5 (w5.alloc (.cells #[.int .i64 0, .int .i64 0, .int .i64 0, .int .i64 0, .int .i64 0, .bool false, .int .i64 0, .int .i64 0, .int .i64 0, .int .i64 0, .int .i64 0, .int .i64 0, .int .i64 0] 27 (0, 0))).drew := below_drew1 (below_alloc (Below.refl _ _) _)
          refine hK.out _ _ ⟨(hb56.cell (World.block_lt_of_cell? w5 _ b0)).trans b0, (hb56.cell (World.block_lt_of_cell? w5 _ b1)).trans b1, (hb56.cell (World.block_lt_of_cell? w5 _ b2)).trans b2, (hb56.cell (World.block_lt_of_cell? w5 _ b3)).trans b3, (hb56.cell (World.block_lt_of_cell? w5 _ b4)).trans b4, (hb56.cell (World.block_lt_of_cell? w5 _ b5)).trans b5⟩ (fun _ => ?_)
          refine one_ (i := 23) (N := none) #[true, true, true, true, true, true, true, true, true, true, true, true, true, true, true, true, true, true, true, true, true, true, true, true] rfl rfl (by kernel_rfl) (by decide) (fun K hK => ?_)
          rw [if_pos (by rfl)]
          go_wp2
          have hb57 : Below w5.heap.size w5 (w5.alloc (.cells #[.int .i64 x0, .int .i64 x1, .int .i64 x2, .int .i64 x3, .int .i64 x4, .bool true, .int .i64 0, .int .i64 0, .int .i64 0, .int .i64 0, .int .i64 0, .int .i64 0, .int .i64 0] 27 (0, 0))).drew := below_drew1 (below_alloc (Below.refl _ _) _)
          refine hK.out _ _ ⟨(hb57.cell (World.block_lt_of_cell? w5 _ b0)).trans b0, (hb57.cell (World.block_lt_of_cell? w5 _ b1)).trans b1, (hb57.cell (World.block_lt_of_cell? w5 _ b2)).trans b2, (hb57.cell (World.block_lt_of_cell? w5 _ b3)).trans b3, (hb57.cell (World.block_lt_of_cell? w5 _ b4)).trans b4, (hb57.cell (World.block_lt_of_cell? w5 _ b5)).trans b5⟩ (fun _ => ?_)
          refine done_ (by kernel_rfl) ?_
          have BW0 := Aside0.mk (blk_below B0.out hb57)
          have BW1 : Aside0 ((w5.alloc (.cells #[.int .i64 x0, .int .i64 x1, .int .i64 x2, .int .i64 x3, .int .i64 x4, .bool true, .int .i64 0, .int .i64 0, .int .i64 0, .int .i64 0, .int .i64 0, .int .i64 0, .int .i64 0] 27 (0, 0))).drew.heap[w5.heap.size]? = some (.cells #[.int .i64 x0, .int .i64 x1, .int .i64 x2, .int .i64 x3, .int .i64 x4, .bool true, .int .i64 0, .int .i64 0, .int .i64 0, .int .i64 0, .int .i64 0, .int .i64 0, .int .i64 0] 27 (0, 0))) := ⟨blk_drew (blk_new _ _)⟩
          have HBW := Aside0.mk (below_step HB5.out hb57)
          have HOW := Aside0.mk (Kd.V_below HO2.out hb57)
          have hgx : w.heap.size < w5.heap.size := blk_lt B0.out
          clear hb56 hb57 hHeld b0 b1 b2 b3 b4 b5 hc0 hf0 B0 HB5 HO1 HO2
          generalize (w5.alloc (.cells #[.int .i64 x0, .int .i64 x1, .int .i64 x2, .int .i64 x3, .int .i64 x4, .bool true, .int .i64 0, .int .i64 0, .int .i64 0, .int .i64 0, .int .i64 0, .int .i64 0, .int .i64 0] 27 (0, 0))).drew = W at BW0 BW1 HBW HOW ⊢
          generalize w5.heap.size = gx at BW1 hgx ⊢
          have hc1 := blk_cell BW1.out
          have hc0 := blk_cell BW0.out
          have hf0 := blk_frozen BW0.out
          have HE := HE0.out
          unfold rtakeEnd at HE
          by_cases hr : rest.length = 0
          · rw [if_pos hr] at HE
            have hr2 : decide (0 < (rest.length : Int)) = false := by simp [hr]
            obtain ⟨ch, HC, HE⟩ := Option.bind_eq_some_iff.mp HE
            have HCH := Aside0.mk HC
            clear HC
            by_cases hch : ch = 0
            · subst hch
              rw [if_pos rfl] at HE
              have HE1 := Aside0.mk HE
              clear HE
              go_wp2_with (first | (go_at_call 14; refine (dancestudioref56_Check.calls k x0 x1 x2 x3 x4 true 0 0 0 0 0 0 0 0 _ HCH.out).mono ?_; rintro e w8 ⟨rfl, hb⟩; have HB8 := Aside0.mk (below_step HBW.out hb); have B80 := Aside0.mk (blk_below BW0.out hb); have B81 := Aside0.mk (blk_below BW1.out hb); have hc81 := blk_cell B81.out; have hc80 := blk_cell B80.out; have hf80 := blk_frozen B80.out; clear hb))
              refine bodyPost_ret (results_ct rfl _ _ w.heap.size 27 #[.int .i64 x0, .int .i64 x1, .int .i64 x2, .int .i64 x3, .int .i64 x4, .bool true, .int .i64 0, .int .i64 0, .int .i64 0, .int .i64 0, .int .i64 0, .int .i64 0, .int .i64 0] (0, 0) _ rfl (by apply blk_put; (iterate 12 apply blk_set); exact B80.out; simp only [List.setIfInBounds_toArray, List.set_cons_zero, List.set_cons_succ]) Try.underlying27 rfl (by kernel_rfl)) rfl ⟨?_, by repeat (first | with_reducible exact HB8.out | ((with_reducible refine below_set ?_ ?_); rotate_left; focus exact Nat.le_refl _))⟩
              have hq := HE1.out
              simp only [Option.some.injEq, Prod.mk.injEq] at hq
              obtain ⟨rfl, rfl, rfl, rfl, rfl, rfl, rfl, rfl, rfl, rfl, rfl, rfl, rfl, rfl⟩ := hq
              rfl
            · rw [if_neg hch] at HE
              have HE1 := Aside0.mk HE
              clear HE
              have hch2 : (ch != 0) = true := bne_iff_ne.mpr hch
              go_wp2_with (first | (go_at_call 14; refine (dancestudioref56_Check.calls k x0 x1 x2 x3 x4 true 0 0 0 0 0 0 0 ch _ HCH.out).mono ?_; rintro e w8 ⟨rfl, hb⟩; have HB8 := Aside0.mk (below_step HBW.out hb); have B80 := Aside0.mk (blk_below BW0.out hb); have hc80 := blk_cell B80.out; have hf80 := blk_frozen B80.out; clear hb))
              refine bodyPost_ret (results_ct rfl _ _ w.heap.size 27 #[.int .i64 0, .int .i64 0, .int .i64 0, .int .i64 0, .int .i64 0, .bool false, .int .i64 0, .int .i64 0, .int .i64 0, .int .i64 0, .int .i64 0, .int .i64 0, .int .i64 0] (0, 0) _ rfl (by apply blk_put; (iterate 12 apply blk_set); exact B80.out; simp only [List.setIfInBounds_toArray, List.set_cons_zero, List.set_cons_succ]) Try.underlying27 rfl (by kernel_rfl)) rfl ⟨?_, by repeat (first | with_reducible exact HB8.out | ((with_reducible refine below_set ?_ ?_); rotate_left; focus exact Nat.le_refl _))⟩
              have hq := HE1.out
              simp only [Option.some.injEq, Prod.mk.injEq] at hq
              obtain ⟨rfl, rfl, rfl, rfl, rfl, rfl, rfl, rfl, rfl, rfl, rfl, rfl, rfl, rfl⟩ := hq
              rfl
          · rw [if_neg hr] at HE
            have hr2 : decide (0 < (rest.length : Int)) = true := by simp; omega
            have HE1 := Aside0.mk HE
            clear HE
            go_wp2
            refine bodyPost_ret (results_ct rfl _ _ w.heap.size 27 #[.int .i64 0, .int .i64 0, .int .i64 0, .int .i64 0, .int .i64 0, .bool false, .int .i64 0, .int .i64 0, .int .i64 0, .int .i64 0, .int .i64 0, .int .i64 0, .int .i64 0] (0, 0) _ rfl (by apply blk_put; (iterate 12 apply blk_set); exact BW0.out; simp only [List.setIfInBounds_toArray, List.set_cons_zero, List.set_cons_succ]) Try.underlying27 rfl (by kernel_rfl)) rfl ⟨?_, by repeat (first | with_reducible exact HBW.out | ((with_reducible refine below_set ?_ ?_); rotate_left; focus exact Nat.le_refl _))⟩
            have hq := HE1.out
            simp only [Option.some.injEq, Prod.mk.injEq] at hq
            obtain ⟨rfl, rfl, rfl, rfl, rfl, rfl, rfl, rfl, rfl, rfl, rfl, rfl, rfl, rfl⟩ := hq
            rfl
        · by_cases h0 : x5 = 0
          · subst h0
            have HE0 : Aside0 ((dancestudioref56_take.f k rest 7).bind (fun u => if u.2.2 = 0 then (if u.1.length = 7 then rtakeEnd k x0 x1 x2 x3 x4 false (u.1.getD 0 0) (u.1.getD 1 0) (u.1.getD 2 0) (u.1.getD 3 0) (u.1.getD 4 0) (u.1.getD 5 0) (u.1.getD 6 0) u.2.1 else none) else some (0, 0, 0, 0, 0, false, 0, 0, 0, 0, 0, 0, 0, u.2.2)) = some (r1, r2, r3, r4, r5, r6, r7, r8, r9, r10, r11, r12, r13, r14)) := ⟨by simpa using H.out⟩
            go_upto_region 6 with (fail)
            refine start_ (n := 24) (S := fun w' => w'.cell? ad = some (.int .i64 x0) ∧ w'.cell? ⟨ad.block, ad.off + 1, none⟩ = some (.int .i64 x1) ∧ w'.cell? ⟨ad.block, ad.off + 2, none⟩ = some (.int .i64 x2) ∧ w'.cell? ⟨ad.block, ad.off + 3, none⟩ = some (.int .i64 x3) ∧ w'.cell? ⟨ad.block, ad.off + 4, none⟩ = some (.int .i64 x4) ∧ w'.cell? ⟨ad.block, ad.off + 5, none⟩ = some (.int .i64 0)) (ds := []) #[false, false, false, false, false, false, false, false, false, false, false, false, false, false, false, false, false, false, false, false, false, false, false, false] rfl rfl rfl ⟨b0, b1, b2, b3, b4, b5⟩ (fun hHeld => ?_)
            refine pure_ (i := 0) (N := some 33) (v := ?_) (a' := ?_) #[true, false, false, false, false, false, false, false, false, false, false, false, false, false, false, false, false, false, false, false, false, false, false, false] rfl rfl (by kernel_rfl) (fun _ _ _ h => h) (Or.inl ⟨by rfl, ?_⟩) ?_ ?_
            rotate_left
            · intro w'
              go_simp
              with_reducible rfl
            rotate_left
            · simp only [Act.put, List.setIfInBounds_toArray, List.set_cons_zero, List.set_cons_succ, i64_w, i32_w]
              rfl
            refine pure_ (i := 1) (N := some 34) (v := ?_) (a' := ?_) #[true, true, false, false, false, false, false, false, false, false, false, false, false, false, false, false, false, false, false, false, false, false, false, false] rfl rfl (by kernel_rfl) (fun _ _ _ h => h) (Or.inl ⟨by rfl, ?_⟩) ?_ ?_
            rotate_left
            · intro w'
              go_simp
              with_reducible rfl
            rotate_left
            · simp only [Act.put, List.setIfInBounds_toArray, List.set_cons_zero, List.set_cons_succ, i64_w, i32_w]
              rfl
            refine take_ (i := 2) (N := some 35) (v := ?_) (a' := ?_) #[true, true, true, false, false, false, false, false, false, false, false, false, false, false, false, false, false, false, false, false, false, false, false, false] rfl rfl (by kernel_rfl) (fun _ _ _ h => h) (Or.inl ⟨by rfl, ?_⟩) hHeld ?_ ?_
            rotate_left
            · rintro w' ⟨s0, s1, s2, s3, s4, s5⟩
              go_simp
              with_reducible rfl
            rotate_left
            · simp only [Act.put, List.setIfInBounds_toArray, List.set_cons_zero, List.set_cons_succ, i64_w, i32_w]
              rfl
            refine pure_ (i := 3) (N := some 36) (v := ?_) (a' := ?_) #[true, true, true, true, false, false, false, false, false, false, false, false, false, false, false, false, false, false, false, false, false, false, false, false] rfl rfl (by kernel_rfl) (fun _ _ _ h => h) (Or.inl ⟨by rfl, ?_⟩) ?_ ?_
            rotate_left
            · intro w'
              go_simp
              with_reducible rfl
            rotate_left
            · simp only [Act.put, List.setIfInBounds_toArray, List.set_cons_zero, List.set_cons_succ, i64_w, i32_w]
              rfl
            refine pure_ (i := 4) (N := some 37) (v := ?_) (a' := ?_) #[true, true, true, true, true, false, false, false, false, false, false, false, false, false, false, false, false, false, false, false, false, false, false, false] rfl rfl (by kernel_rfl) (fun _ _ _ h => h) (Or.inl ⟨by rfl, ?_⟩) ?_ ?_
            rotate_left
            · intro w'
              go_simp
              with_reducible rfl
            rotate_left
            · simp only [Act.put, List.setIfInBounds_toArray, List.set_cons_zero, List.set_cons_succ, i64_w, i32_w]
              rfl
            refine take_ (i := 5) (N := some 38) (v := ?_) (a' := ?_) #[true, true, true, true, true, true, false, false, false, false, false, false, false, false, false, false, false, false, false, false, false, false, false, false] rfl rfl (by kernel_rfl) (fun _ _ _ h => h) (Or.inl ⟨by rfl, ?_⟩) hHeld ?_ ?_
            rotate_left
            · rintro w' ⟨s0, s1, s2, s3, s4, s5⟩
              go_simp
              with_reducible rfl
            rotate_left
            · simp only [Act.put, List.setIfInBounds_toArray, List.set_cons_zero, List.set_cons_succ, i64_w, i32_w]
              rfl
            refine pure_ (i := 6) (N := some 39) (v := ?_) (a' := ?_) #[true, true, true, true, true, true, true, false, false, false, false, false, false, false, false, false, false, false, false, false, false, false, false, false] rfl rfl (by kernel_rfl) (fun _ _ _ h => h) (Or.inl ⟨by rfl, ?_⟩) ?_ ?_
            rotate_left
            · intro w'
              go_simp
              with_reducible rfl
            rotate_left
            · simp only [Act.put, List.setIfInBounds_toArray, List.set_cons_zero, List.set_cons_succ, i64_w, i32_w]
              rfl
            refine pure_ (i := 7) (N := some 40) (v := ?_) (a' := ?_) #[true, true, true, true, true, true, true, true, false, false, false, false, false, false, false, false, false, false, false, false, false, false, false, false] rfl rfl (by kernel_rfl) (fun _ _ _ h => h) (Or.inl ⟨by rfl, ?_⟩) ?_ ?_
            rotate_left
            · intro w'
              go_simp
              with_reducible rfl
            rotate_left
            · simp only [Act.put, List.setIfInBounds_toArray, List.set_cons_zero, List.set_cons_succ, i64_w, i32_w]
              rfl
            refine pure_ (i := 8) (N := some 41) (v := ?_) (a' := ?_) #[true, true, true, true, true, true, true, true, true, false, false, false, false, false, false, false, false, false, false, false, false, false, false, false] rfl rfl (by kernel_rfl) (fun _ _ _ h => h) (Or.inl ⟨by rfl, ?_⟩) ?_ ?_
            rotate_left
            · intro w'
              go_simp
              with_reducible rfl
            rotate_left
            · simp only [Act.put, List.setIfInBounds_toArray, List.set_cons_zero, List.set_cons_succ, i64_w, i32_w]
              rfl
            refine take_ (i := 9) (N := some 42) (v := ?_) (a' := ?_) #[true, true, true, true, true, true, true, true, true, true, false, false, false, false, false, false, false, false, false, false, false, false, false, false] rfl rfl (by kernel_rfl) (fun _ _ _ h => h) (Or.inl ⟨by rfl, ?_⟩) hHeld ?_ ?_
            rotate_left
            · rintro w' ⟨s0, s1, s2, s3, s4, s5⟩
              go_simp
              with_reducible rfl
            rotate_left
            · simp only [Act.put, List.setIfInBounds_toArray, List.set_cons_zero, List.set_cons_succ, i64_w, i32_w]
              rfl
            refine pure_ (i := 10) (N := some 43) (v := ?_) (a' := ?_) #[true, true, true, true, true, true, true, true, true, true, true, false, false, false, false, false, false, false, false, false, false, false, false, false] rfl rfl (by kernel_rfl) (fun _ _ _ h => h) (Or.inl ⟨by rfl, ?_⟩) ?_ ?_
            rotate_left
            · intro w'
              go_simp
              with_reducible rfl
            rotate_left
            · simp only [Act.put, List.setIfInBounds_toArray, List.set_cons_zero, List.set_cons_succ, i64_w, i32_w]
              rfl
            refine pure_ (i := 11) (N := some 44) (v := ?_) (a' := ?_) #[true, true, true, true, true, true, true, true, true, true, true, true, false, false, false, false, false, false, false, false, false, false, false, false] rfl rfl (by kernel_rfl) (fun _ _ _ h => h) (Or.inl ⟨by rfl, ?_⟩) ?_ ?_
            rotate_left
            · intro w'
              go_simp
              with_reducible rfl
            rotate_left
            · simp only [Act.put, List.setIfInBounds_toArray, List.set_cons_zero, List.set_cons_succ, i64_w, i32_w]
              rfl
            refine take_ (i := 12) (N := some 45) (v := ?_) (a' := ?_) #[true, true, true, true, true, true, true, true, true, true, true, true, true, false, false, false, false, false, false, false, false, false, false, false] rfl rfl (by kernel_rfl) (fun _ _ _ h => h) (Or.inl ⟨by rfl, ?_⟩) hHeld ?_ ?_
            rotate_left
            · rintro w' ⟨s0, s1, s2, s3, s4, s5⟩
              go_simp
              with_reducible rfl
            rotate_left
            · simp only [Act.put, List.setIfInBounds_toArray, List.set_cons_zero, List.set_cons_succ, i64_w, i32_w]
              rfl
            refine pure_ (i := 13) (N := some 46) (v := ?_) (a' := ?_) #[true, true, true, true, true, true, true, true, true, true, true, true, true, true, false, false, false, false, false, false, false, false, false, false] rfl rfl (by kernel_rfl) (fun _ _ _ h => h) (Or.inl ⟨by rfl, ?_⟩) ?_ ?_
            rotate_left
            · intro w'
              go_simp
              with_reducible rfl
            rotate_left
            · simp only [Act.put, List.setIfInBounds_toArray, List.set_cons_zero, List.set_cons_succ, i64_w, i32_w]
              rfl
            refine pure_ (i := 14) (N := some 47) (v := ?_) (a' := ?_) #[true, true, true, true, true, true, true, true, true, true, true, true, true, true, true, false, false, false, false, false, false, false, false, false] rfl rfl (by kernel_rfl) (fun _ _ _ h => h) (Or.inl ⟨by rfl, ?_⟩) ?_ ?_
            rotate_left
            · intro w'
              go_simp
              with_reducible rfl
            rotate_left
            · simp only [Act.put, List.setIfInBounds_toArray, List.set_cons_zero, List.set_cons_succ, i64_w, i32_w]
              rfl
            refine take_ (i := 15) (N := some 48) (v := ?_) (a' := ?_) #[true, true, true, true, true, true, true, true, true, true, true, true, true, true, true, true, false, false, false, false, false, false, false, false] rfl rfl (by kernel_rfl) (fun _ _ _ h => h) (Or.inl ⟨by rfl, ?_⟩) hHeld ?_ ?_
            rotate_left
            · rintro w' ⟨s0, s1, s2, s3, s4, s5⟩
              go_simp
              with_reducible rfl
            rotate_left
            · simp only [Act.put, List.setIfInBounds_toArray, List.set_cons_zero, List.set_cons_succ, i64_w, i32_w]
              rfl
            refine pure_ (i := 16) (N := some 49) (v := ?_) (a' := ?_) #[true, true, true, true, true, true, true, true, true, true, true, true, true, true, true, true, true, false, false, false, false, false, false, false] rfl rfl (by kernel_rfl) (fun _ _ _ h => h) (Or.inl ⟨by rfl, ?_⟩) ?_ ?_
            rotate_left
            · intro w'
              go_simp
              with_reducible rfl
            rotate_left
            · simp only [Act.put, List.setIfInBounds_toArray, List.set_cons_zero, List.set_cons_succ, i64_w, i32_w]
              rfl
            refine pure_ (i := 17) (N := some 50) (v := ?_) (a' := ?_) #[true, true, true, true, true, true, true, true, true, true, true, true, true, true, true, true, true, true, false, false, false, false, false, false] rfl rfl (by kernel_rfl) (fun _ _ _ h => h) (Or.inl ⟨by rfl, ?_⟩) ?_ ?_
            rotate_left
            · intro w'
              go_simp
              with_reducible rfl
            rotate_left
            · simp only [Act.put, List.setIfInBounds_toArray, List.set_cons_zero, List.set_cons_succ, i64_w, i32_w]
              rfl
            refine pure_ (i := 18) (N := some 51) (v := ?_) (a' := ?_) #[true, true, true, true, true, true, true, true, true, true, true, true, true, true, true, true, true, true, true, false, false, false, false, false] rfl rfl (by kernel_rfl) (fun _ _ _ h => h) (Or.inl ⟨by rfl, ?_⟩) ?_ ?_
            rotate_left
            · intro w'
              go_simp
              with_reducible rfl
            rotate_left
            · simp only [Act.put, List.setIfInBounds_toArray, List.set_cons_zero, List.set_cons_succ, i64_w, i32_w]
              rfl
            refine take_ (i := 19) (N := some 52) (v := ?_) (a' := ?_) #[true, true, true, true, true, true, true, true, true, true, true, true, true, true, true, true, true, true, true, true, false, false, false, false] rfl rfl (by kernel_rfl) (fun _ _ _ h => h) (Or.inl ⟨by rfl, ?_⟩) hHeld ?_ ?_
            rotate_left
            · rintro w' ⟨s0, s1, s2, s3, s4, s5⟩
              go_simp
              with_reducible rfl
            rotate_left
            · simp only [Act.put, List.setIfInBounds_toArray, List.set_cons_zero, List.set_cons_succ, i64_w, i32_w]
              rfl
            refine pure_ (i := 20) (N := some 53) (v := ?_) (a' := ?_) #[true, true, true, true, true, true, true, true, true, true, true, true, true, true, true, true, true, true, true, true, true, false, false, false] rfl rfl (by kernel_rfl) (fun _ _ _ h => h) (Or.inl ⟨by rfl, ?_⟩) ?_ ?_
            rotate_left
            · intro w'
              go_simp
              with_reducible rfl
            rotate_left
            · simp only [Act.put, List.setIfInBounds_toArray, List.set_cons_zero, List.set_cons_succ, i64_w, i32_w]
              rfl
            refine pure_ (i := 21) (N := some 54) (v := ?_) (a' := ?_) #[true, true, true, true, true, true, true, true, true, true, true, true, true, true, true, true, true, true, true, true, true, true, false, false] rfl rfl (by kernel_rfl) (fun _ _ _ h => h) (Or.inl ⟨by rfl, ?_⟩) ?_ ?_
            rotate_left
            · intro w'
              go_simp
              with_reducible rfl
            rotate_left
            · simp only [Act.put, List.setIfInBounds_toArray, List.set_cons_zero, List.set_cons_succ, i64_w, i32_w]
              rfl
            refine one_ (i := 22) (N := some 7) #[true, true, true, true, true, true, true, true, true, true, true, true, true, true, true, true, true, true, true, true, true, true, true, false] rfl rfl (by kernel_rfl) (by decide) (fun K hK => ?_)
            rw [if_pos (by rfl)]
            go_wp2
            have hb56 : Below w5.heap.size w5 (w5.alloc (.cells #[.int .i64 0, .int .i64 0, .int .i64 0, .int .i64 0, .int .i64 0, .bool false, .int .i64 0, .int .i64 0, .int .i64 0, .int .i64 0, .int .i64 0, .int .i64 0, .int .i64 0] 27 (0, 0))).drew := below_drew1 (below_alloc (Below.refl _ _) _)
            refine hK.out _ _ ⟨(hb56.cell (World.block_lt_of_cell? w5 _ b0)).trans b0, (hb56.cell (World.block_lt_of_cell? w5 _ b1)).trans b1, (hb56.cell (World.block_lt_of_cell? w5 _ b2)).trans b2, (hb56.cell (World.block_lt_of_cell? w5 _ b3)).trans b3, (hb56.cell (World.block_lt_of_cell? w5 _ b4)).trans b4, (hb56.cell (World.block_lt_of_cell? w5 _ b5)).trans b5⟩ (fun _ => ?_)
            refine one_ (i := 23) (N := none) #[true, true, true, true, true, true, true, true, true, true, true, true, true, true, true, true, true, true, true, true, true, true, true, true] rfl rfl (by kernel_rfl) (by decide) (fun K hK => ?_)
            rw [if_pos (by rfl)]
            go_wp2
            have hb57 : Below w5.heap.size w5 (w5.alloc (.cells #[.int .i64 x0, .int .i64 x1, .int .i64 x2, .int .i64 x3, .int .i64 x4, .bool false, .int .i64 0, .int .i64 0, .int .i64 0, .int .i64 0, .int .i64 0, .int .i64 0, .int .i64 0] 27 (0, 0))).drew := below_drew1 (below_alloc (Below.refl _ _) _)
            refine hK.out _ _ ⟨(hb57.cell (World.block_lt_of_cell? w5 _ b0)).trans b0, (hb57.cell (World.block_lt_of_cell? w5 _ b1)).trans b1, (hb57.cell (World.block_lt_of_cell? w5 _ b2)).trans b2, (hb57.cell (World.block_lt_of_cell? w5 _ b3)).trans b3, (hb57.cell (World.block_lt_of_cell? w5 _ b4)).trans b4, (hb57.cell (World.block_lt_of_cell? w5 _ b5)).trans b5⟩ (fun _ => ?_)
            refine done_ (by kernel_rfl) ?_
            have BW0 := Aside0.mk (blk_below B0.out hb57)
            have BW1 : Aside0 ((w5.alloc (.cells #[.int .i64 x0, .int .i64 x1, .int .i64 x2, .int .i64 x3, .int .i64 x4, .bool false, .int .i64 0, .int .i64 0, .int .i64 0, .int .i64 0, .int .i64 0, .int .i64 0, .int .i64 0] 27 (0, 0))).drew.heap[w5.heap.size]? = some (.cells #[.int .i64 x0, .int .i64 x1, .int .i64 x2, .int .i64 x3, .int .i64 x4, .bool false, .int .i64 0, .int .i64 0, .int .i64 0, .int .i64 0, .int .i64 0, .int .i64 0, .int .i64 0] 27 (0, 0))) := ⟨blk_drew (blk_new _ _)⟩
            have HBW := Aside0.mk (below_step HB5.out hb57)
            have HOW := Aside0.mk (Kd.V_below HO2.out hb57)
            have hgx : w.heap.size < w5.heap.size := blk_lt B0.out
            clear hb56 hb57 hHeld b0 b1 b2 b3 b4 b5 hc0 hf0 B0 HB5 HO1 HO2
            generalize (w5.alloc (.cells #[.int .i64 x0, .int .i64 x1, .int .i64 x2, .int .i64 x3, .int .i64 x4, .bool false, .int .i64 0, .int .i64 0, .int .i64 0, .int .i64 0, .int .i64 0, .int .i64 0, .int .i64 0] 27 (0, 0))).drew = W at BW0 BW1 HBW HOW ⊢
            generalize w5.heap.size = gx at BW1 hgx ⊢
            obtain ⟨⟨us, ur, ue⟩, hu, HE⟩ := Option.bind_eq_some_iff.mp HE0.out
            have HU := Aside0.mk hu
            have HE1 := Aside0.mk HE
            clear hu HE HE0
            have hcx := blk_cell BW1.out
            by_cases hue : ue = 0
            · subst hue
              by_cases hul : us.length = 7
              · match us, hul with
                | [y0, y1, y2, y3, y4, y5, y6], _ =>
                  have HE0 : Aside0 (rtakeEnd k x0 x1 x2 x3 x4 false y0 y1 y2 y3 y4 y5 y6 ur = some (r1, r2, r3, r4, r5, r6, r7, r8, r9, r10, r11, r12, r13, r14)) := ⟨by simpa using HE1.out⟩
                  clear HE1
                  go_upto_region 9 with (first | (go_at_call 33; refine (dancestudioref56_take.calls k _ A2 c2 rest 7 _ ur 0 _ (Kd.V_map HOW.out (fun _ hf => hf)) HU.out).mono ?_; rintro e w8 ⟨v3, v4, rfl, ho3, ho4, hb⟩; have HB8 := Aside0.mk (below_step HBW.out hb); have B80 := Aside0.mk (blk_below BW0.out hb); have B81 := Aside0.mk (blk_below BW1.out hb); have HO3 := Aside0.mk ho3; have HO4 := Aside0.mk ho4; have hc0 := blk_cell B80.out; have hf0 := blk_frozen B80.out; clear ho3 ho4 hb))
                  obtain ⟨A3, c3, rfl⟩ := Kd.R_slice HO3.out
                  obtain ⟨A4, c4, rfl⟩ := Kd.V_slice HO4.out
                  have hC3 := (Kd.R_reads' HO3.out).2.2
                  obtain ⟨ad2, rfl, a0⟩ := Kd.at_int hC3 0 (by decide) (by simp)
                  obtain ⟨_, e1, a1⟩ := Kd.at_int hC3 1 (by decide) (by simp)
                  cases e1
                  obtain ⟨_, e1, a2⟩ := Kd.at_int hC3 2 (by decide) (by simp)
                  cases e1
                  obtain ⟨_, e1, a3⟩ := Kd.at_int hC3 3 (by decide) (by simp)
                  cases e1
                  obtain ⟨_, e1, a4⟩ := Kd.at_int hC3 4 (by decide) (by simp)
                  cases e1
                  obtain ⟨_, e1, a5⟩ := Kd.at_int hC3 5 (by decide) (by simp)
                  cases e1
                  obtain ⟨_, e1, a6⟩ := Kd.at_int hC3 6 (by decide) (by simp)
                  cases e1
                  have b0 : w8.cell? ad2 = some (.int .i64 y0) := a0
                  have b1 : w8.cell? ⟨ad2.block, ad2.off + 1, none⟩ = some (.int .i64 y1) := a1
                  have b2 : w8.cell? ⟨ad2.block, ad2.off + 2, none⟩ = some (.int .i64 y2) := a2
                  have b3 : w8.cell? ⟨ad2.block, ad2.off + 3, none⟩ = some (.int .i64 y3) := a3
                  have b4 : w8.cell? ⟨ad2.block, ad2.off + 4, none⟩ = some (.int .i64 y4) := a4
                  have b5 : w8.cell? ⟨ad2.block, ad2.off + 5, none⟩ = some (.int .i64 y5) := a5
                  have b6 : w8.cell? ⟨ad2.block, ad2.off + 6, none⟩ = some (.int .i64 y6) := a6
                  clear a0 a1 a2 a3 a4 a5 a6 hC3
                  simp only [List.length_cons, List.length_nil]
                  go_upto_region 11 with (fail)
                  refine start_ (n := 24) (S := fun w' => w'.cell? ad2 = some (.int .i64 y0) ∧ w'.cell? ⟨ad2.block, ad2.off + 1, none⟩ = some (.int .i64 y1) ∧ w'.cell? ⟨ad2.block, ad2.off + 2, none⟩ = some (.int .i64 y2) ∧ w'.cell? ⟨ad2.block, ad2.off + 3, none⟩ = some (.int .i64 y3) ∧ w'.cell? ⟨ad2.block, ad2.off + 4, none⟩ = some (.int .i64 y4) ∧ w'.cell? ⟨ad2.block, ad2.off + 5, none⟩ = some (.int .i64 y5) ∧ w'.cell? ⟨ad2.block, ad2.off + 6, none⟩ = some (.int .i64 y6)) (ds := []) #[false, false, false, false, false, false, false, false, false, false, false, false, false, false, false, false, false, false, false, false, false, false, false, false] rfl rfl rfl ⟨b0, b1, b2, b3, b4, b5, b6⟩ (fun hHeld => ?_)
                  refine pure_ (i := 0) (N := some 68) (v := ?_) (a' := ?_) #[true, false, false, false, false, false, false, false, false, false, false, false, false, false, false, false, false, false, false, false, false, false, false, false] rfl rfl (by kernel_rfl) (fun _ _ _ h => h) (Or.inl ⟨by rfl, ?_⟩) ?_ ?_
                  rotate_left
                  · intro w'
                    go_simp
                    with_reducible rfl
                  rotate_left
                  · simp only [Act.put, List.setIfInBounds_toArray, List.set_cons_zero, List.set_cons_succ, i64_w, i32_w]
                    rfl
                  refine pure_ (i := 1) (N := some 69) (v := ?_) (a' := ?_) #[true, true, false, false, false, false, false, false, false, false, false, false, false, false, false, false, false, false, false, false, false, false, false, false] rfl rfl (by kernel_rfl) (fun _ _ _ h => h) (Or.inl ⟨by rfl, ?_⟩) ?_ ?_
                  rotate_left
                  · intro w'
                    go_simp
                    with_reducible rfl
                  rotate_left
                  · simp only [Act.put, List.setIfInBounds_toArray, List.set_cons_zero, List.set_cons_succ, i64_w, i32_w]
                    rfl
                  refine take_ (i := 2) (N := some 70) (v := ?_) (a' := ?_) #[true, true, true, false, false, false, false, false, false, false, false, false, false, false, false, false, false, false, false, false, false, false, false, false] rfl rfl (by kernel_rfl) (fun _ _ _ h => h) (Or.inl ⟨by rfl, ?_⟩) hHeld ?_ ?_
                  rotate_left
                  · rintro w' ⟨s0, s1, s2, s3, s4, s5, s6⟩
                    go_simp
                    with_reducible rfl
                  rotate_left
                  · simp only [Act.put, List.setIfInBounds_toArray, List.set_cons_zero, List.set_cons_succ, i64_w, i32_w]
                    rfl
                  refine pure_ (i := 3) (N := some 71) (v := ?_) (a' := ?_) #[true, true, true, true, false, false, false, false, false, false, false, false, false, false, false, false, false, false, false, false, false, false, false, false] rfl rfl (by kernel_rfl) (fun _ _ _ h => h) (Or.inl ⟨by rfl, ?_⟩) ?_ ?_
                  rotate_left
                  · intro w'
                    go_simp
                    with_reducible rfl
                  rotate_left
                  · simp only [Act.put, List.setIfInBounds_toArray, List.set_cons_zero, List.set_cons_succ, i64_w, i32_w]
                    rfl
                  refine pure_ (i := 4) (N := some 72) (v := ?_) (a' := ?_) #[true, true, true, true, true, false, false, false, false, false, false, false, false, false, false, false, false, false, false, false, false, false, false, false] rfl rfl (by kernel_rfl) (fun _ _ _ h => h) (Or.inl ⟨by rfl, ?_⟩) ?_ ?_
                  rotate_left
                  · intro w'
                    go_simp
                    with_reducible rfl
                  rotate_left
                  · simp only [Act.put, List.setIfInBounds_toArray, List.set_cons_zero, List.set_cons_succ, i64_w, i32_w]
                    rfl
                  refine take_ (i := 5) (N := some 73) (v := ?_) (a' := ?_) #[true, true, true, true, true, true, false, false, false, false, false, false, false, false, false, false, false, false, false, false, false, false, false, false] rfl rfl (by kernel_rfl) (fun _ _ _ h => h) (Or.inl ⟨by rfl, ?_⟩) hHeld ?_ ?_
                  rotate_left
                  · rintro w' ⟨s0, s1, s2, s3, s4, s5, s6⟩
                    go_simp
                    with_reducible rfl
                  rotate_left
                  · simp only [Act.put, List.setIfInBounds_toArray, List.set_cons_zero, List.set_cons_succ, i64_w, i32_w]
                    rfl
                  refine pure_ (i := 6) (N := some 74) (v := ?_) (a' := ?_) #[true, true, true, true, true, true, true, false, false, false, false, false, false, false, false, false, false, false, false, false, false, false, false, false] rfl rfl (by kernel_rfl) (fun _ _ _ h => h) (Or.inl ⟨by rfl, ?_⟩) ?_ ?_
                  rotate_left
                  · intro w'
                    go_simp
                    with_reducible rfl
                  rotate_left
                  · simp only [Act.put, List.setIfInBounds_toArray, List.set_cons_zero, List.set_cons_succ, i64_w, i32_w]
                    rfl
                  refine pure_ (i := 7) (N := some 75) (v := ?_) (a' := ?_) #[true, true, true, true, true, true, true, true, false, false, false, false, false, false, false, false, false, false, false, false, false, false, false, false] rfl rfl (by kernel_rfl) (fun _ _ _ h => h) (Or.inl ⟨by rfl, ?_⟩) ?_ ?_
                  rotate_left
                  · intro w'
                    go_simp
                    with_reducible rfl
                  rotate_left
                  · simp only [Act.put, List.setIfInBounds_toArray, List.set_cons_zero, List.set_cons_succ, i64_w, i32_w]
                    rfl
                  refine take_ (i := 8) (N := some 76) (v := ?_) (a' := ?_) #[true, true, true, true, true, true, true, true, true, false, false, false, false, false, false, false, false, false, false, false, false, false, false, false] rfl rfl (by kernel_rfl) (fun _ _ _ h => h) (Or.inl ⟨by rfl, ?_⟩) hHeld ?_ ?_
                  rotate_left
                  · rintro w' ⟨s0, s1, s2, s3, s4, s5, s6⟩
                    go_simp
                    with_reducible rfl
                  rotate_left
                  · simp only [Act.put, List.setIfInBounds_toArray, List.set_cons_zero, List.set_cons_succ, i64_w, i32_w]
                    rfl
                  refine pure_ (i := 9) (N := some 77) (v := ?_) (a' := ?_) #[true, true, true, true, true, true, true, true, true, true, false, false, false, false, false, false, false, false, false, false, false, false, false, false] rfl rfl (by kernel_rfl) (fun _ _ _ h => h) (Or.inl ⟨by rfl, ?_⟩) ?_ ?_
                  rotate_left
                  · intro w'
                    go_simp
                    with_reducible rfl
                  rotate_left
                  · simp only [Act.put, List.setIfInBounds_toArray, List.set_cons_zero, List.set_cons_succ, i64_w, i32_w]
                    rfl
                  refine pure_ (i := 10) (N := some 78) (v := ?_) (a' := ?_) #[true, true, true, true, true, true, true, true, true, true, true, false, false, false, false, false, false, false, false, false, false, false, false, false] rfl rfl (by kernel_rfl) (fun _ _ _ h => h) (Or.inl ⟨by rfl, ?_⟩) ?_ ?_
                  rotate_left
                  · intro w'
                    go_simp
                    with_reducible rfl
                  rotate_left
                  · simp only [Act.put, List.setIfInBounds_toArray, List.set_cons_zero, List.set_cons_succ, i64_w, i32_w]
                    rfl
                  refine take_ (i := 11) (N := some 79) (v := ?_) (a' := ?_) #[true, true, true, true, true, true, true, true, true, true, true, true, false, false, false, false, false, false, false, false, false, false, false, false] rfl rfl (by kernel_rfl) (fun _ _ _ h => h) (Or.inl ⟨by rfl, ?_⟩) hHeld ?_ ?_
                  rotate_left
                  · rintro w' ⟨s0, s1, s2, s3, s4, s5, s6⟩
                    go_simp
                    with_reducible rfl
                  rotate_left
                  · simp only [Act.put, List.setIfInBounds_toArray, List.set_cons_zero, List.set_cons_succ, i64_w, i32_w]
                    rfl
                  refine pure_ (i := 12) (N := some 80) (v := ?_) (a' := ?_) #[true, true, true, true, true, true, true, true, true, true, true, true, true, false, false, false, false, false, false, false, false, false, false, false] rfl rfl (by kernel_rfl) (fun _ _ _ h => h) (Or.inl ⟨by rfl, ?_⟩) ?_ ?_
                  rotate_left
                  · intro w'
                    go_simp
                    with_reducible rfl
                  rotate_left
                  · simp only [Act.put, List.setIfInBounds_toArray, List.set_cons_zero, List.set_cons_succ, i64_w, i32_w]
                    rfl
                  refine pure_ (i := 13) (N := some 81) (v := ?_) (a' := ?_) #[true, true, true, true, true, true, true, true, true, true, true, true, true, true, false, false, false, false, false, false, false, false, false, false] rfl rfl (by kernel_rfl) (fun _ _ _ h => h) (Or.inl ⟨by rfl, ?_⟩) ?_ ?_
                  rotate_left
                  · intro w'
                    go_simp
                    with_reducible rfl
                  rotate_left
                  · simp only [Act.put, List.setIfInBounds_toArray, List.set_cons_zero, List.set_cons_succ, i64_w, i32_w]
                    rfl
                  refine take_ (i := 14) (N := some 82) (v := ?_) (a' := ?_) #[true, true, true, true, true, true, true, true, true, true, true, true, true, true, true, false, false, false, false, false, false, false, false, false] rfl rfl (by kernel_rfl) (fun _ _ _ h => h) (Or.inl ⟨by rfl, ?_⟩) hHeld ?_ ?_
                  rotate_left
                  · rintro w' ⟨s0, s1, s2, s3, s4, s5, s6⟩
                    go_simp
                    with_reducible rfl
                  rotate_left
                  · simp only [Act.put, List.setIfInBounds_toArray, List.set_cons_zero, List.set_cons_succ, i64_w, i32_w]
                    rfl
                  refine pure_ (i := 15) (N := some 83) (v := ?_) (a' := ?_) #[true, true, true, true, true, true, true, true, true, true, true, true, true, true, true, true, false, false, false, false, false, false, false, false] rfl rfl (by kernel_rfl) (fun _ _ _ h => h) (Or.inl ⟨by rfl, ?_⟩) ?_ ?_
                  rotate_left
                  · intro w'
                    go_simp
                    with_reducible rfl
                  rotate_left
                  · simp only [Act.put, List.setIfInBounds_toArray, List.set_cons_zero, List.set_cons_succ, i64_w, i32_w]
                    rfl
                  refine pure_ (i := 16) (N := some 84) (v := ?_) (a' := ?_) #[true, true, true, true, true, true, true, true, true, true, true, true, true, true, true, true, true, false, false, false, false, false, false, false] rfl rfl (by kernel_rfl) (fun _ _ _ h => h) (Or.inl ⟨by rfl, ?_⟩) ?_ ?_
                  rotate_left
                  · intro w'
                    go_simp
                    with_reducible rfl
                  rotate_left
                  · simp only [Act.put, List.setIfInBounds_toArray, List.set_cons_zero, List.set_cons_succ, i64_w, i32_w]
                    rfl
                  refine take_ (i := 17) (N := some 85) (v := ?_) (a' := ?_) #[true, true, true, true, true, true, true, true, true, true, true, true, true, true, true, true, true, true, false, false, false, false, false, false] rfl rfl (by kernel_rfl) (fun _ _ _ h => h) (Or.inl ⟨by rfl, ?_⟩) hHeld ?_ ?_
                  rotate_left
                  · rintro w' ⟨s0, s1, s2, s3, s4, s5, s6⟩
                    go_simp
                    with_reducible rfl
                  rotate_left
                  · simp only [Act.put, List.setIfInBounds_toArray, List.set_cons_zero, List.set_cons_succ, i64_w, i32_w]
                    rfl
                  refine pure_ (i := 18) (N := some 86) (v := ?_) (a' := ?_) #[true, true, true, true, true, true, true, true, true, true, true, true, true, true, true, true, true, true, true, false, false, false, false, false] rfl rfl (by kernel_rfl) (fun _ _ _ h => h) (Or.inl ⟨by rfl, ?_⟩) ?_ ?_
                  rotate_left
                  · intro w'
                    go_simp
                    with_reducible rfl
                  rotate_left
                  · simp only [Act.put, List.setIfInBounds_toArray, List.set_cons_zero, List.set_cons_succ, i64_w, i32_w]
                    rfl
                  refine pure_ (i := 19) (N := some 87) (v := ?_) (a' := ?_) #[true, true, true, true, true, true, true, true, true, true, true, true, true, true, true, true, true, true, true, true, false, false, false, false] rfl rfl (by kernel_rfl) (fun _ _ _ h => h) (Or.inl ⟨by rfl, ?_⟩) ?_ ?_
                  rotate_left
                  · intro w'
                    go_simp
                    with_reducible rfl
                  rotate_left
                  · simp only [Act.put, List.setIfInBounds_toArray, List.set_cons_zero, List.set_cons_succ, i64_w, i32_w]
                    rfl
                  refine take_ (i := 20) (N := some 88) (v := ?_) (a' := ?_) #[true, true, true, true, true, true, true, true, true, true, true, true, true, true, true, true, true, true, true, true, true, false, false, false] rfl rfl (by kernel_rfl) (fun _ _ _ h => h) (Or.inl ⟨by rfl, ?_⟩) hHeld ?_ ?_
                  rotate_left
                  · rintro w' ⟨s0, s1, s2, s3, s4, s5, s6⟩
                    go_simp
                    with_reducible rfl
                  rotate_left
                  · simp only [Act.put, List.setIfInBounds_toArray, List.set_cons_zero, List.set_cons_succ, i64_w, i32_w]
                    rfl
                  refine pure_ (i := 21) (N := some 89) (v := ?_) (a' := ?_) #[true, true, true, true, true, true, true, true, true, true, true, true, true, true, true, true, true, true, true, true, true, true, false, false] rfl rfl (by kernel_rfl) (fun _ _ _ h => h) (Or.inl ⟨by rfl, ?_⟩) ?_ ?_
                  rotate_left
                  · intro w'
                    go_simp
                    with_reducible rfl
                  rotate_left
                  · simp only [Act.put, List.setIfInBounds_toArray, List.set_cons_zero, List.set_cons_succ, i64_w, i32_w]
                    rfl
                  refine pure_ (i := 22) (N := some 90) (v := ?_) (a' := ?_) #[true, true, true, true, true, true, true, true, true, true, true, true, true, true, true, true, true, true, true, true, true, true, true, false] rfl rfl (by kernel_rfl) (fun _ _ _ h => h) (Or.inl ⟨by rfl, ?_⟩) ?_ ?_
                  rotate_left
                  · intro w'
                    go_simp
                    with_reducible rfl
                  rotate_left
                  · simp only [Act.put, List.setIfInBounds_toArray, List.set_cons_zero, List.set_cons_succ, i64_w, i32_w]
                    rfl
                  have hcx8 := blk_cell B81.out
                  have hfx8 := blk_frozen B81.out
                  refine one_ (i := 23) (N := none) #[true, true, true, true, true, true, true, true, true, true, true, true, true, true, true, true, true, true, true, true, true, true, true, true] rfl rfl (by kernel_rfl) (by decide) (fun K hK => ?_)
                  rw [if_pos (by rfl)]
                  go_wp2
                  have hb89 : Below w.heap.size w (((((((w8.setCell ⟨gx, 6, none⟩ (.int .i64 y0)).setCell ⟨gx, 7, none⟩ (.int .i64 y1)).setCell ⟨gx, 8, none⟩ (.int .i64 y2)).setCell ⟨gx, 9, none⟩ (.int .i64 y3)).setCell ⟨gx, 10, none⟩ (.int .i64 y4)).setCell ⟨gx, 11, none⟩ (.int .i64 y5)).setCell ⟨gx, 12, none⟩ (.int .i64 y6)).drew := by refine below_drew1 ?_; repeat (first | with_reducible exact HB8.out | ((with_reducible refine below_set ?_ ?_); rotate_left; focus exact Nat.le_of_lt hgx))
                  have hk89 : ∀ (p : Addr) v, p.block ≠ gx → w8.cell? p = some v → (((((((w8.setCell ⟨gx, 6, none⟩ (.int .i64 y0)).setCell ⟨gx, 7, none⟩ (.int .i64 y1)).setCell ⟨gx, 8, none⟩ (.int .i64 y2)).setCell ⟨gx, 9, none⟩ (.int .i64 y3)).setCell ⟨gx, 10, none⟩ (.int .i64 y4)).setCell ⟨gx, 11, none⟩ (.int .i64 y5)).setCell ⟨gx, 12, none⟩ (.int .i64 y6)).drew.cell? p = some v := by
                    intro p v hp hv
                    have hq : (((((((w8.setCell ⟨gx, 6, none⟩ (.int .i64 y0)).setCell ⟨gx, 7, none⟩ (.int .i64 y1)).setCell ⟨gx, 8, none⟩ (.int .i64 y2)).setCell ⟨gx, 9, none⟩ (.int .i64 y3)).setCell ⟨gx, 10, none⟩ (.int .i64 y4)).setCell ⟨gx, 11, none⟩ (.int .i64 y5)).setCell ⟨gx, 12, none⟩ (.int .i64 y6)).cell? p = w8.cell? p := by
                      iterate 6 refine (cell_far ?_ _).trans ?_; focus exact hp
                      exact cell_far hp _
                    exact (drew_cell _ _).trans (hq.trans hv)
                  have hne : ad2.block ≠ gx := by
                    have h1 := HO3.out.1 ad2.block (by simp [Value.ownBlock])
                    have h2 := blk_lt BW1.out
                    omega
                  refine hK.out _ _ ⟨hk89 _ _ hne b0, hk89 _ _ hne b1, hk89 _ _ hne b2, hk89 _ _ hne b3, hk89 _ _ hne b4, hk89 _ _ hne b5, hk89 _ _ hne b6⟩ (fun _ => ?_)
                  refine done_ (by kernel_rfl) ?_
                  have BX0 : Aside0 ((((((((w8.setCell ⟨gx, 6, none⟩ (.int .i64 y0)).setCell ⟨gx, 7, none⟩ (.int .i64 y1)).setCell ⟨gx, 8, none⟩ (.int .i64 y2)).setCell ⟨gx, 9, none⟩ (.int .i64 y3)).setCell ⟨gx, 10, none⟩ (.int .i64 y4)).setCell ⟨gx, 11, none⟩ (.int .i64 y5)).setCell ⟨gx, 12, none⟩ (.int .i64 y6)).drew.heap[w.heap.size]? = some (.cells #[.int .i64 0, .int .i64 0, .int .i64 0, .int .i64 0, .int .i64 0, .bool false, .int .i64 0, .int .i64 0, .int .i64 0, .int .i64 0, .int .i64 0, .int .i64 0, .int .i64 0] 27 (0, 0))) := ⟨blk_drew (by (iterate 7 refine blk_far ?_ (Nat.ne_of_lt hgx) _); exact B80.out)⟩
                  have BX1 : Aside0 ((((((((w8.setCell ⟨gx, 6, none⟩ (.int .i64 y0)).setCell ⟨gx, 7, none⟩ (.int .i64 y1)).setCell ⟨gx, 8, none⟩ (.int .i64 y2)).setCell ⟨gx, 9, none⟩ (.int .i64 y3)).setCell ⟨gx, 10, none⟩ (.int .i64 y4)).setCell ⟨gx, 11, none⟩ (.int .i64 y5)).setCell ⟨gx, 12, none⟩ (.int .i64 y6)).drew.heap[gx]? = some (.cells #[.int .i64 x0, .int .i64 x1, .int .i64 x2, .int .i64 x3, .int .i64 x4, .bool false, .int .i64 y0, .int .i64 y1, .int .i64 y2, .int .i64 y3, .int .i64 y4, .int .i64 y5, .int .i64 y6] 27 (0, 0))) := ⟨blk_drew (by apply blk_put; (iterate 6 apply blk_set); exact B81.out; simp only [List.setIfInBounds_toArray, List.set_cons_zero, List.set_cons_succ])⟩
                  have HBX := Aside0.mk hb89
                  clear hK hk89 hb89 hHeld b0 b1 b2 b3 b4 b5 b6 hne hcx8 hfx8 hc0 hf0 hcx BW0 BW1 HBW HOW HO3 HO4 HB8 B80 B81
                  generalize (((((((w8.setCell ⟨gx, 6, none⟩ (.int .i64 y0)).setCell ⟨gx, 7, none⟩ (.int .i64 y1)).setCell ⟨gx, 8, none⟩ (.int .i64 y2)).setCell ⟨gx, 9, none⟩ (.int .i64 y3)).setCell ⟨gx, 10, none⟩ (.int .i64 y4)).setCell ⟨gx, 11, none⟩ (.int .i64 y5)).setCell ⟨gx, 12, none⟩ (.int .i64 y6)).drew = W9 at BX0 BX1 HBX ⊢
                  have BW0 := BX0
                  have BW1 := BX1
                  have HBW := HBX
                  have hc1 := blk_cell BW1.out
                  have hc0 := blk_cell BW0.out
                  have hf0 := blk_frozen BW0.out
                  have HE := HE0.out
                  unfold rtakeEnd at HE
                  by_cases hr : ur.length = 0
                  · rw [if_pos hr] at HE
                    have hr2 : decide (0 < (ur.length : Int)) = false := by simp [hr]
                    obtain ⟨ch, HC, HE⟩ := Option.bind_eq_some_iff.mp HE
                    have HCH := Aside0.mk HC
                    clear HC
                    by_cases hch : ch = 0
                    · subst hch
                      rw [if_pos rfl] at HE
                      have HE1 := Aside0.mk HE
                      clear HE
                      go_wp2_with (first | (go_at_call 14; refine (dancestudioref56_Check.calls k x0 x1 x2 x3 x4 false y0 y1 y2 y3 y4 y5 y6 0 _ HCH.out).mono ?_; rintro e w8 ⟨rfl, hb⟩; have HB8 := Aside0.mk (below_step HBW.out hb); have B80 := Aside0.mk (blk_below BW0.out hb); have B81 := Aside0.mk (blk_below BW1.out hb); have hc81 := blk_cell B81.out; have hc80 := blk_cell B80.out; have hf80 := blk_frozen B80.out; clear hb))
                      refine bodyPost_ret (results_ct rfl _ _ w.heap.size 27 #[.int .i64 x0, .int .i64 x1, .int .i64 x2, .int .i64 x3, .int .i64 x4, .bool false, .int .i64 y0, .int .i64 y1, .int .i64 y2, .int .i64 y3, .int .i64 y4, .int .i64 y5, .int .i64 y6] (0, 0) _ rfl (by apply blk_put; (iterate 12 apply blk_set); exact B80.out; simp only [List.setIfInBounds_toArray, List.set_cons_zero, List.set_cons_succ]) Try.underlying27 rfl (by kernel_rfl)) rfl ⟨?_, by repeat (first | with_reducible exact HB8.out | ((with_reducible refine below_set ?_ ?_); rotate_left; focus exact Nat.le_refl _))⟩
                      have hq := HE1.out
                      simp only [Option.some.injEq, Prod.mk.injEq] at hq
                      obtain ⟨rfl, rfl, rfl, rfl, rfl, rfl, rfl, rfl, rfl, rfl, rfl, rfl, rfl, rfl⟩ := hq
                      rfl
                    · rw [if_neg hch] at HE
                      have HE1 := Aside0.mk HE
                      clear HE
                      have hch2 : (ch != 0) = true := bne_iff_ne.mpr hch
                      go_wp2_with (first | (go_at_call 14; refine (dancestudioref56_Check.calls k x0 x1 x2 x3 x4 false y0 y1 y2 y3 y4 y5 y6 ch _ HCH.out).mono ?_; rintro e w8 ⟨rfl, hb⟩; have HB8 := Aside0.mk (below_step HBW.out hb); have B80 := Aside0.mk (blk_below BW0.out hb); have hc80 := blk_cell B80.out; have hf80 := blk_frozen B80.out; clear hb))
                      refine bodyPost_ret (results_ct rfl _ _ w.heap.size 27 #[.int .i64 0, .int .i64 0, .int .i64 0, .int .i64 0, .int .i64 0, .bool false, .int .i64 0, .int .i64 0, .int .i64 0, .int .i64 0, .int .i64 0, .int .i64 0, .int .i64 0] (0, 0) _ rfl (by apply blk_put; (iterate 12 apply blk_set); exact B80.out; simp only [List.setIfInBounds_toArray, List.set_cons_zero, List.set_cons_succ]) Try.underlying27 rfl (by kernel_rfl)) rfl ⟨?_, by repeat (first | with_reducible exact HB8.out | ((with_reducible refine below_set ?_ ?_); rotate_left; focus exact Nat.le_refl _))⟩
                      have hq := HE1.out
                      simp only [Option.some.injEq, Prod.mk.injEq] at hq
                      obtain ⟨rfl, rfl, rfl, rfl, rfl, rfl, rfl, rfl, rfl, rfl, rfl, rfl, rfl, rfl⟩ := hq
                      rfl
                  · rw [if_neg hr] at HE
                    have hr2 : decide (0 < (ur.length : Int)) = true := by simp; omega
                    have HE1 := Aside0.mk HE
                    clear HE
                    go_wp2
                    refine bodyPost_ret (results_ct rfl _ _ w.heap.size 27 #[.int .i64 0, .int .i64 0, .int .i64 0, .int .i64 0, .int .i64 0, .bool false, .int .i64 0, .int .i64 0, .int .i64 0, .int .i64 0, .int .i64 0, .int .i64 0, .int .i64 0] (0, 0) _ rfl (by apply blk_put; (iterate 12 apply blk_set); exact BW0.out; simp only [List.setIfInBounds_toArray, List.set_cons_zero, List.set_cons_succ]) Try.underlying27 rfl (by kernel_rfl)) rfl ⟨?_, by repeat (first | with_reducible exact HBW.out | ((with_reducible refine below_set ?_ ?_); rotate_left; focus exact Nat.le_refl _))⟩
                    have hq := HE1.out
                    simp only [Option.some.injEq, Prod.mk.injEq] at hq
                    obtain ⟨rfl, rfl, rfl, rfl, rfl, rfl, rfl, rfl, rfl, rfl, rfl, rfl, rfl, rfl⟩ := hq
                    rfl
              · have h := HE1.out
                rw [if_pos rfl] at h
                rw [if_neg hul] at h
                cases h
            · have HE2 : Aside0 (some ((0 : Int), (0 : Int), (0 : Int), (0 : Int), (0 : Int), false, (0 : Int), (0 : Int), (0 : Int), (0 : Int), (0 : Int), (0 : Int), (0 : Int), ue) = some (r1, r2, r3, r4, r5, r6, r7, r8, r9, r10, r11, r12, r13, r14)) := ⟨by simpa [hue] using HE1.out⟩
              have hue2 : (ue != 0) = true := bne_iff_ne.mpr hue
              go_wp2_with (first | (go_at_call 33; refine (dancestudioref56_take.calls k _ A2 c2 rest 7 us ur ue _ (Kd.V_map HOW.out (fun _ hf => hf)) HU.out).mono ?_; rintro e w8 ⟨v3, v4, rfl, ho3, ho4, hb⟩; have HB8 := Aside0.mk (below_step HBW.out hb); have B80 := Aside0.mk (blk_below BW0.out hb); have B81 := Aside0.mk (blk_below BW1.out hb); have HO3 := Aside0.mk ho3; have HO4 := Aside0.mk ho4; have hc0 := blk_cell B80.out; have hf0 := blk_frozen B80.out; clear ho3 ho4 hb))
              refine bodyPost_ret (results_ct rfl _ _ w.heap.size 27 #[.int .i64 0, .int .i64 0, .int .i64 0, .int .i64 0, .int .i64 0, .bool false, .int .i64 0, .int .i64 0, .int .i64 0, .int .i64 0, .int .i64 0, .int .i64 0, .int .i64 0] (0, 0) _ rfl (by apply blk_put; (iterate 12 apply blk_set); exact B80.out; simp only [List.setIfInBounds_toArray, List.set_cons_zero, List.set_cons_succ]) Try.underlying27 rfl (by kernel_rfl)) rfl ⟨?_, by repeat (first | with_reducible exact HB8.out | ((with_reducible refine below_set ?_ ?_); rotate_left; focus exact Nat.le_refl _))⟩
              have hq := HE2.out
              simp only [Option.some.injEq, Prod.mk.injEq] at hq
              obtain ⟨rfl, rfl, rfl, rfl, rfl, rfl, rfl, rfl, rfl, rfl, rfl, rfl, rfl, rfl⟩ := hq
              rfl
          · have hq1 : (x5 != 1) = true := bne_iff_ne.mpr h1
            have hq0 : (x5 != 0) = true := bne_iff_ne.mpr h0
            have HE1 : Aside0 (some ((0 : Int), (0 : Int), (0 : Int), (0 : Int), (0 : Int), false, (0 : Int), (0 : Int), (0 : Int), (0 : Int), (0 : Int), (0 : Int), (0 : Int), (2 : Int)) = some (r1, r2, r3, r4, r5, r6, r7, r8, r9, r10, r11, r12, r13, r14)) := by
              exact ⟨by simpa [h0, h1] using H.out⟩
            go_wp2
            refine bodyPost_ret (results_ct rfl _ _ w.heap.size 27 #[.int .i64 0, .int .i64 0, .int .i64 0, .int .i64 0, .int .i64 0, .bool false, .int .i64 0, .int .i64 0, .int .i64 0, .int .i64 0, .int .i64 0, .int .i64 0, .int .i64 0] (0, 0) _ rfl (by apply blk_put; (iterate 12 apply blk_set); exact B0.out; simp only [List.setIfInBounds_toArray, List.set_cons_zero, List.set_cons_succ]) Try.underlying27 rfl (by kernel_rfl)) rfl ⟨?_, by repeat (first | with_reducible exact HB5.out | ((with_reducible refine below_set ?_ ?_); rotate_left; focus exact Nat.le_refl _))⟩
            have hq := HE1.out
            simp only [Option.some.injEq, Prod.mk.injEq] at hq
            obtain ⟨rfl, rfl, rfl, rfl, rfl, rfl, rfl, rfl, rfl, rfl, rfl, rfl, rfl, rfl⟩ := hq
            rfl
    · have h := H.out
      rw [if_pos rfl] at h
      rw [if_neg hlen] at h
      cases h
  · have HE1 := Aside0.mk (H.out)
    have he2 : (err != 0) = true := bne_iff_ne.mpr he
    go_wp2_with (first | (go_at_call 33; refine (dancestudioref56_take.calls k (fun k_ => k_ < w.heap.size) A0 c0 l0 6 xs rest err _ (Kd.V_alloc HV0.out _) H1.out).mono ?_; rintro e w5 ⟨v1, v2, rfl, ho1, ho2, hb⟩; have HB5 := Aside0.mk (below_step (below_alloc (Below.refl _ _) _) hb); have B0 := Aside0.mk (blk_below (blk_new w _) hb); have HO1 := Aside0.mk ho1; have HO2 := Aside0.mk ho2; have hc0 := blk_cell B0.out; have hf0 := blk_frozen B0.out; clear ho1 ho2 hb))
    refine bodyPost_ret (results_ct rfl _ _ w.heap.size 27 #[.int .i64 0, .int .i64 0, .int .i64 0, .int .i64 0, .int .i64 0, .bool false, .int .i64 0, .int .i64 0, .int .i64 0, .int .i64 0, .int .i64 0, .int .i64 0, .int .i64 0] (0, 0) _ rfl (by apply blk_put; (iterate 12 apply blk_set); exact B0.out; simp only [List.setIfInBounds_toArray, List.set_cons_zero, List.set_cons_succ]) Try.underlying27 rfl (by kernel_rfl)) rfl ⟨?_, by repeat (first | with_reducible exact HB5.out | ((with_reducible refine below_set ?_ ?_); rotate_left; focus exact Nat.le_refl _))⟩
    have hq := (if_neg he).symm.trans HE1.out
    simp only [Option.some.injEq, Prod.mk.injEq] at hq
    obtain ⟨rfl, rfl, rfl, rfl, rfl, rfl, rfl, rfl, rfl, rfl, rfl, rfl, rfl, rfl⟩ := hq
    rfl
end Go.Proofs.Ytekagaimfdbgiaa.P
