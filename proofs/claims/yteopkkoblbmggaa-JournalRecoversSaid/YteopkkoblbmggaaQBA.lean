/- Texts of this claim in one: VP76; no condition. -/
import Derived.Test.YteopkkoblbmggaaQAC
import Derived.Test.YteopkkoblbmggaaQAE
import Derived.Test.YteopkkoblbmggaaQAW
import Derived.Test.YteopkkoblbmggaaQAY
import Derived.Test.YteopkkoblbmggaaQAZ
section
namespace Go.Proofs.Yteopkkoblbmggaa.P
open Go.RowKit Go.Proofs.YteopkkoblbmggaaW.PrintWords Go.Proofs.YteopkkoblbmggaaW.PrintLast Go.Proofs.YteopkkoblbmggaaW.PrintMore
attribute [local go_sem] Y11 Y13 Y19 Y1a YR YS Y12 Y14
set_option linter.unusedVariables false
set_option linter.unusedSimpArgs false
mutual
def Ye.j0 : Nat → Int → List Int → Bool → Option (Int × (List (S30)) × Int × Int)
 | 0, _, _, _ => none
 | k + 1, x0, x1, x19 => if x19 = true then (some (0, ([] : List (S30)), 0, 43)) else (Ye.l0 k x1 0 x0 ([] : List (S30)))
def Ye.l0 : Nat → List Int → Int → Int → List (S30) → Option (Int × (List (S30)) × Int × Int)
 | 0, _, _, _, _ => none
 | k + 1, x1, x8, x_1, x_0 => if 0 ≤ x8 then (if x8 ≤ (x1.length : Int) then ((Ym.f k (x1.drop (x8 : Int).toNat)).bind fun b_2 => (if b_2.2.2 = 0 then ((YJ.f k b_2.1).bind fun b_0 => (if b_0.2.2.2.2.2.2.2.2.2.2.2.2.2 = 0 then ((Yj.f k x_1 x_0 b_0.1 b_0.2.1 b_0.2.2.1 b_0.2.2.2.1 b_0.2.2.2.2.1 b_0.2.2.2.2.2.1 b_0.2.2.2.2.2.2.1 b_0.2.2.2.2.2.2.2.1 b_0.2.2.2.2.2.2.2.2.1 b_0.2.2.2.2.2.2.2.2.2.1 b_0.2.2.2.2.2.2.2.2.2.2.1 b_0.2.2.2.2.2.2.2.2.2.2.2.1 b_0.2.2.2.2.2.2.2.2.2.2.2.2.1).bind fun b_1 => (if b_1.2.2 = 0 then (Ye.l0 k x1 (wrap64 (x8 + b_2.2.1)) b_1.1 b_1.2.1) else (some (x_1, x_0, x8, 0)))) else (some (x_1, x_0, x8, 0)))) else (some (x_1, x_0, x8, 0)))) else (none)) else (none)
end
def Ye.f (k : Nat) (a0 : Int) (l1 : List Int) : Option (Int × (List (S30)) × Int × Int) := if a0 < 1 then (Ye.j0 k a0 l1 true) else (Ye.j0 k a0 l1 (decide (a0 > 64)))
theorem Ye.mono_l : ∀ k, (∀ y0 y1 y2, LeO (Ye.j0 k y0 y1 y2) (Ye.j0 (k + 1) y0 y1 y2)) ∧ (∀ y0 y1 y2 y3, LeO (Ye.l0 k y0 y1 y2 y3) (Ye.l0 (k + 1) y0 y1 y2 y3))
 | 0 => ⟨fun _ _ _ r h => by simp [Ye.j0] at h, fun _ _ _ _ r h => by simp [Ye.l0] at h⟩
 | k + 1 => by
  obtain ⟨ih0, ih1⟩ := Ye.mono_l k
  refine ⟨?_, ?_⟩
  ·intro y0 y1 y2
   unfold Ye.j0
   repeat' first
   | (with_reducible exact ih0 _ _ _)
   | (with_reducible exact ih1 _ _ _ _)
   | (with_reducible exact Ym.mono _ _)
   | (with_reducible exact YJ.mono _ _)
   | (with_reducible exact Yj.mono _ _ _ _ _ _ _ _ _ _ _ _ _ _ _ _)
   | (with_reducible exact LeO.refl _)
   | (with_reducible exact LeO.none _)
   | (with_reducible refine LeO.ite ?_ ?_)
   | (with_reducible refine LeO.bind ?_ (fun _ => ?_))
  ·intro y0 y1 y2 y3
   unfold Ye.l0
   repeat' first
   | (with_reducible exact ih0 _ _ _)
   | (with_reducible exact ih1 _ _ _ _)
   | (with_reducible exact Ym.mono _ _)
   | (with_reducible exact YJ.mono _ _)
   | (with_reducible exact Yj.mono _ _ _ _ _ _ _ _ _ _ _ _ _ _ _ _)
   | (with_reducible exact LeO.refl _)
   | (with_reducible exact LeO.none _)
   | (with_reducible refine LeO.ite ?_ ?_)
   | (with_reducible refine LeO.bind ?_ (fun _ => ?_))
theorem Ye.mono : ∀ a0 a1 k, LeO (Ye.f k a0 a1) (Ye.f (k + 1) a0 a1) := by
 intro a0 a1 k
 obtain ⟨ih0, ih1⟩ := Ye.mono_l k
 unfold Ye.f
 repeat' first
   | (with_reducible exact ih0 _ _ _)
   | (with_reducible exact ih1 _ _ _ _)
   | (with_reducible exact Ym.mono _ _)
   | (with_reducible exact YJ.mono _ _)
   | (with_reducible exact Yj.mono _ _ _ _ _ _ _ _ _ _ _ _ _ _ _ _)
   | (with_reducible exact LeO.refl _)
   | (with_reducible exact LeO.none _)
   | (with_reducible refine LeO.ite ?_ ?_)
   | (with_reducible refine LeO.bind ?_ (fun _ => ?_))
set_option maxHeartbeats 8000000 in
set_option maxRecDepth 100000 in
theorem Ye.calls (k : Nat) (a0 : Int) (A1 : Option Addr) (c1 : Nat) (l1 : List Int) (r1 : Int) (r2 : List (S30)) (r3 : Int) (r4 : Int) (w : World) (hr1 : Kd.C (Kd.int .u8) w A1 l1.length l1) (hc1 : l1.length ≤ c1) (h : Ye.f k a0 l1 = some (r1, r2, r3, r4)) :
  Calls Try.prog 42 #[.int .i64 a0, .slice A1 l1.length c1] w fun e w' => ∃ v1_ : Value, e = .returned (.tuple #[.agg #[.int .i64 r1, v1_], .int .i64 r3, .int .i64 r4]) ∧ Kd.R k30 30 w' w.heap.size (fun _ => True) v1_ r2 ∧ Below w.heap.size w w' := by
 have hu24 := Try.underlying24
 have hu30 := Try.underlying30
 have HR1 := Y0.mk hr1
 have HC1 := Y0.mk hc1
 clear hr1 hc1
 have HB := Y0.mk (Below.refl w.heap.size w)
 have H : (if a0 < 1 then (Ye.j0 k a0 l1 true) else (Ye.j0 k a0 l1 (decide (a0 > 64)))) = some (r1, r2, r3, r4) := h
 clear h
 have HC3 := Y0.mk H
 clear H
 go_enter Try.func42, Try.ntmps42
 go_upto_region 1 with (first | ((with_reducible refine Yl (N := 4) rfl ?_); refine Yk ?hg (N := 4) ?hd (cs := #[.int .i64 0, .slice none 0 0]) (t := 24) ?hr ?_; (case hd => rfl); (case hg => rfl); (case hr => first | (go_simp; done) | (go_simp; rfl)); intro g_1 hg w4 hbox hb; have n0_ := Y0.mk (Y4 (hU HB.out) hb); have n1_ := Y0.mk (hbox); have n2_ := gE hg HB; have n3_ := gE hg HB; clear HB; have HB := n0_; have B_0 := n1_; have W_2 := n2_; have G_3 := n3_; clear n0_ n1_ n2_ n3_; clear hb hbox hg))
 (try simp only [Act.put, List.setIfInBounds_toArray, List.set_cons_zero, List.set_cons_succ])
 go_cut [19] (fun v19 wc => ∃ (kq : Nat) (x19_2 : Bool), v19 = .bool x19_2 ∧ Y0 (Ye.j0 kq a0 l1 x19_2 = some (r1, r2, r3, r4)) ∧ Y0 (kq ≤ k) ∧ Y0 (wc.heap[g_1]? = some (.cells #[.int .i64 0, (.slice none 0 0)] 24 (0, 0))) ∧ Y0 (Below w.heap.size w wc))
 case first =>
  have H := HC3.out
  clear HC3
  by_cases c5 : a0 < 1
  ·rw [if_pos c5] at H
   have c5b0 := decide_eq_true c5
   clear c5
   (first | rw [c5b0] | (simp only [i64_w, i32_w]; rw [c5b0]) | skip)
   have H' := Y0.mk H
   clear H
   go_wp2
   go_meet
   case rel => exact ⟨_, (true), reS, H', ⟨by first | omega | exact Nat.le_refl _⟩, ⟨kB B_0⟩, ⟨hU HB.out⟩⟩
  ·rw [if_neg c5] at H
   have c5b0 := decide_eq_false c5
   clear c5
   (first | rw [c5b0] | (simp only [i64_w, i32_w]; rw [c5b0]) | skip)
   have H' := Y0.mk H
   clear H
   go_wp2
   go_meet
   case rel => exact ⟨_, (decide (a0 > 64)), reS, H', ⟨by first | omega | exact Nat.le_refl _⟩, ⟨kB B_0⟩, ⟨hU HB.out⟩⟩
 case rest =>
  clear HC3
  try clear c1
  try clear p2
  try clear c4
  try clear c5
  try clear c5b0
  obtain ⟨kq, x19_2, rfl, HA, HJ2, B_0, HB⟩ := hcut
  cases kq with
  | zero => exact absurd HA.out (by simp [Ye.j0])
  | succ kj2 =>
   have H := HA.out
   clear HA
   simp only [Ye.j0] at H
   by_cases c6 : x19_2 = true
   ·subst c6
    have H1 : (some (0, ([] : List (S30)), 0, 43)) = some (r1, r2, r3, r4) := by rw [if_pos rfl] at H; exact H
    clear H
    have H := H1
    clear H1
    simp only [Option.some.injEq, Prod.mk.injEq] at H
    obtain ⟨rfl, rfl, rfl, rfl⟩ := H
    have z_1 := Y1 B_0.out
    have f_0 := Y3 B_0.out
    go_wp2
    refine bodyPost_ret (Y1y rfl _ _ g_1 24 #[.int .i64 0, .slice none 0 0] (0, 0) _ rfl (by (with_reducible repeat (first | refine Yh ?_ _ | refine Yd ?_ | refine Yc ?_ _)); refine Yw (cs := #[.int .i64 0, .slice none 0 0]) ?_ 1 _ rfl; (with_reducible repeat (first | refine Yh ?_ _ | refine Yd ?_ | refine Yc ?_ _)); refine Yw (cs := #[.int .i64 0, .slice none 0 0]) ?_ 0 _ rfl; (with_reducible repeat (first | refine Yh ?_ _ | refine Yd ?_ | refine Yc ?_ _)); exact B_0.out) Try.underlying24 rfl (by kernel_rfl)) rfl ?_
    exact ⟨_, reT, by first | exact Kd.R_nil _ _ _ _ _ | exact Kd.N_nil _ _ _ _ _ | exact Kd.V_nil _ _ _ _ _ | exact Kd.Q_nil _ _ _ _ _ | exact Kd.S_nil _ _ _ _ _, hU HB.out⟩
   ·replace c6 := Bool.eq_false_iff.mpr c6
    subst c6
    have H1 : (Ye.l0 kj2 l1 0 a0 ([] : List (S30))) = some (r1, r2, r3, r4) := by rw [if_neg (show ¬ (false = true) by decide)] at H; exact H
    clear H
    have H := H1
    clear H1
    have H' := Y0.mk H
    clear H
    go_wp2_with (first | ((with_reducible refine Yl (N := 7) rfl ?_); refine Yk ?hg (N := 7) ?hd (cs := #[.int .i64 0, .slice none 0 0]) (t := 24) ?hr ?_; (case hd => rfl); (case hg => rfl); (case hr => first | (go_simp; done) | (go_simp; rfl)); intro g_2 hg w8 hbox hb; have n0_ := Y0.mk (Y6 (bU B_0.out) hb); have n1_ := Y0.mk (Y4 (hU HB.out) hb); have n2_ := Y0.mk (hbox); have n3_ := gE hg HB; have n4_ := gE hg HB; have n5_ := gL hg B_0; have n6_ := gG hg B_0; clear B_0; clear HB; have B_0 := n0_; have HB := n1_; have B_1 := n2_; have W_3 := n3_; have G_2 := n4_; have N_0 := n5_; have N_5 := n6_; clear n0_ n1_ n2_ n3_ n4_ n5_ n6_; clear hb hbox hg; have hnb9 := N_5.out; have hnc9 := N_0.out; have z_0 := Y1 B_1.out; have f_1 := Y3 B_1.out))
    go_loopg [8] kj2 (fun kq v8 w' => ∃ (x8_2 : Int) (x1397000_2 : Int) (x1398000_2 : Int) (x1398001_2 : List (S30)) (u1398001 : Value), v8 = .int .i64 x8_2 ∧ Y0 (Ye.l0 kq l1 x8_2 x1398000_2 x1398001_2 = some (r1, r2, r3, r4)) ∧ Y0 (kq ≤ kj2) ∧ Y0 (Kd.R k30 30 w' w.heap.size (fun _ => True) u1398001 x1398001_2) ∧ Y0 (w'.heap[g_1]? = some (.cells #[.int .i64 x1397000_2, (.slice none 0 0)] 24 (0, 0))) ∧ Y0 (w'.heap[g_2]? = some (.cells #[.int .i64 x1398000_2, u1398001] 24 (0, 0))) ∧ Y0 (Below w.heap.size w w'))
    case atStart => exact ⟨(0), (0), (a0), (([] : List (S30))), (.slice none 0 0), reS, H', ⟨Nat.le_refl _⟩, ⟨by first | exact Kd.R_nil _ _ _ _ _ | exact Kd.N_nil _ _ _ _ _ | exact Kd.V_nil _ _ _ _ _ | exact Kd.Q_nil _ _ _ _ _ | exact Kd.S_nil _ _ _ _ _⟩, ⟨by (with_reducible repeat (first | refine Yh ?_ _ | refine Yd ?_ | refine Yc ?_ _)); refine (Below.heap_setCell _ ⟨_, _, none⟩ _ _ N_0.out).trans ?_; (with_reducible repeat (first | refine Yh ?_ _ | refine Yd ?_ | refine Yc ?_ _)); refine (Below.heap_setCell _ ⟨_, _, none⟩ _ _ N_0.out).trans ?_; (with_reducible repeat (first | refine Yh ?_ _ | refine Yd ?_ | refine Yc ?_ _)); exact B_0.out⟩, ⟨by (with_reducible repeat (first | refine Yh ?_ _ | refine Yd ?_ | refine Yc ?_ _)); refine Yw (cs := #[.int .i64 a0, .slice none 0 0]) ?_ 1 _ rfl; (with_reducible repeat (first | refine Yh ?_ _ | refine Yd ?_ | refine Yc ?_ _)); refine Yw (cs := #[.int .i64 0, .slice none 0 0]) ?_ 0 _ rfl; (with_reducible repeat (first | refine Yh ?_ _ | refine Yd ?_ | refine Yc ?_ _)); exact B_1.out⟩, ⟨hU HB.out⟩⟩
    case round =>
     clear H'
     try clear c1
     try clear p2
     try clear c4
     try clear c5
     try clear c5b0
     try clear c6
     try clear c9
     try clear z_0
     try clear z_g
     try clear z_1
     try clear z_f
     try clear f_1
     try clear f_9
     try clear f_0
     try clear f_4
     try clear p2
     obtain ⟨x8_2, x1397000_2, x1398000_2, x1398001_2, u1398001, rfl, HA, HK2, HO_1398001, B_0, B_1, HB⟩ := hrel
     cases gk with
     | zero => exact absurd HA.out (by simp [Ye.l0])
     | succ k2 =>
      have H := HA.out
      clear HA
      simp only [Ye.l0] at H
      by_cases c11 : 0 ≤ x8_2
      rotate_left
      ·rw [if_neg c11] at H
       exact absurd H (by simp)
      rw [if_pos c11] at H
      have c11b0 := eq_true c11
      have c11b1 := decide_eq_true c11
      clear c11
      obtain ⟨c12, H⟩ := iS H
      have c12b0 := eq_true c12
      have c12b1 := decide_eq_true c12
      clear c12
      obtain ⟨⟨t_d, t_h, t_g⟩, A130, H⟩ := bS H
      try dsimp only at H
      have A13 := Y0.mk A130
      clear A130
      by_cases c14 : t_g = 0
      ·rw [if_pos c14] at H
       have c14b0 := bqT c14
       have c14b1 := bnF c14
       clear c14
       obtain ⟨⟨t_5, t_9, t_6, t_a, t_1, t_8, t_3, t_c, t_b, t_2, t_7, t_4, t_0, t_i⟩, A150, H⟩ := bS H
       try dsimp only at H
       have A15 := Y0.mk A150
       clear A150
       by_cases c16 : t_i = 0
       ·rw [if_pos c16] at H
        have c16b0 := bqT c16
        have c16b1 := bnF c16
        clear c16
        obtain ⟨⟨t_f, t_e, t_j⟩, A170, H⟩ := bS H
        try dsimp only at H
        have A17 := Y0.mk A170
        clear A170
        by_cases c18 : t_j = 0
        ·rw [if_pos c18] at H
         have c18b0 := bqT c18
         have c18b1 := bnF c18
         clear c18
         have H' := Y0.mk H
         clear H
         obtain ⟨i019, hi019, _, hsz19, _⟩ := info_parts info5
         obtain ⟨A19, hcut19, hA19, hC19⟩ := Y1Q (P := Try.prog) (Value.int .u8) 0 60 5 .i64 Try.underlying60 hi019 hsz19 A1 c1 l1 x8_2 (of_decide_eq_true (by first | (with_reducible assumption) | assumption)) (of_decide_eq_true (by first | (with_reducible assumption) | assumption)) HC1.out
         have HR1398 := Y0.mk (Kd.C_of_reads (h1 := fun _ => rfl) (hA19 _ (Kd.reads_of_C HR1.out)))
         have HC1398 := Y0.mk hC19
         clear hA19 hC19 hi019 hsz19
         go_wp2_with (first | ((with_reducible refine Y8 (f := 88) rfl ?_); refine Y1C (some 27) rfl rfl Try.func88 (by kernel_rfl) rfl #[.slice A19 (l1.drop (x8_2 : Int).toNat).length (c1 - x8_2.toNat)] rfl (by (try simp only [List.map_toArray, List.map_cons, List.map_nil]); first | done | (rw [show (l1.drop (x8_2 : Int).toNat).length = (l1.length - x8_2.toNat) from List.length_drop] <;> rfl) | rfl | (simp only [List.length_drop, List.length_take]; rfl)) ?_; (with_reducible refine (Ym.calls k2 _ _ (l1.drop (x8_2 : Int).toNat) t_d t_h t_g _ ?side1 ?side2 A13.out).mono ?_); (case side1 => repeat (first | exact (Kd.C_below HR1398.out HB.out) | (with_reducible refine Kd.C_alloc ?_ _) | (with_reducible refine Kd.C_drewN ?_ _) | (with_reducible refine Kd.C_drew ?_))); (case side2 => exact HC1398.out); rintro e w20 ⟨v_0, rfl, ho0, hb⟩; refine ⟨_, rfl, ?_⟩; replace HO_1398001 := Y0.mk (Kd.R_below (Kd.rU HO_1398001.out) hb); replace O_0 := Y0.mk (Kd.R_lower ho0 (Yi (hU HB.out))); replace B_0 := Y0.mk (Y6 (bU B_0.out) hb); replace B_1 := Y0.mk (Y6 (bU B_1.out) hb); replace HB := Y0.mk (Y4 (hU HB.out) hb); (try clear hb); (try clear hb2); (try clear hk); (try clear hi); (try clear ho0); obtain ⟨Ao21, co21, eo21⟩ := Kd.R_slice O_0.out; subst eo21) | ((with_reducible refine Y8 (f := 89) rfl ?_); refine goesA (some 37) Try.func89 #[.slice Ao21 t_d.length co21] ?_; (with_reducible refine (YJ.calls k2 _ _ t_d t_5 t_9 t_6 t_a t_1 t_8 t_3 t_c t_b t_2 t_7 t_4 t_0 t_i _ ?side1 ?side2 A15.out).mono ?_); (case side1 => repeat (first | exact (Kd.R_reads' O_0.out).2.2 | (with_reducible refine Kd.C_alloc ?_ _) | (with_reducible refine Kd.C_drewN ?_ _) | (with_reducible refine Kd.C_drew ?_))); (case side2 => exact (Kd.R_reads' O_0.out).2.1); rintro e w22 ⟨rfl, hb⟩; refine ⟨_, rfl, ?_⟩; replace HO_1398001 := Y0.mk (Kd.R_below (Kd.rU HO_1398001.out) hb); replace O_0 := Y0.mk (Kd.R_below (Kd.rU O_0.out) hb); replace B_0 := Y0.mk (Y6 (bU B_0.out) hb); replace B_1 := Y0.mk (Y6 (bU B_1.out) hb); replace HB := Y0.mk (Y4 (hU HB.out) hb); (try clear hb); (try clear hb2); (try clear hk); (try clear hi)) | ((with_reducible refine Yl (N := 12) rfl ?_); refine Yk ?hg (N := 12) ?hd (cs := #[.int .i64 0, .int .i64 0, .int .i64 0, .int .i64 0, .int .i64 0, .bool false, .int .i64 0, .int .i64 0, .int .i64 0, .int .i64 0, .int .i64 0, .int .i64 0, .int .i64 0]) (t := 30) ?hr ?_; (case hd => rfl); (case hg => rfl); (case hr => first | (go_simp; done) | (go_simp; rfl)); intro g_0 hg w23 hbox hb; have n0_ := Y0.mk (Kd.R_below (Kd.R_elderB (Kd.rU HO_1398001.out) g_0 (Nat.le_of_eq hg.symm)) hb); have n1_ := Y0.mk (Kd.R_below (Kd.rU O_0.out) hb); have n2_ := Y0.mk (Y6 (bU B_0.out) hb); have n3_ := Y0.mk (Y6 (bU B_1.out) hb); have n4_ := Y0.mk (Y4 (hU HB.out) hb); have n5_ := Y0.mk (hbox); have n6_ := gE hg HB; have n7_ := gE hg HB; have n8_ := gL hg B_0; have n9_ := gG hg B_0; have n10_ := gL hg B_1; have n11_ := gG hg B_1; clear HO_1398001; clear O_0; clear B_0; clear B_1; clear HB; have HO_1398001 := n0_; have O_0 := n1_; have B_0 := n2_; have B_1 := n3_; have HB := n4_; have B_2 := n5_; have W_0 := n6_; have G_0 := n7_; have N_1 := n8_; have N_7 := n9_; have N_2 := n10_; have N_4 := n11_; clear n0_ n1_ n2_ n3_ n4_ n5_ n6_ n7_ n8_ n9_ n10_ n11_; clear hb hbox hg; have hnb24 := N_7.out; have hnc24 := N_1.out; have hnb25 := N_4.out; have hnc25 := N_2.out; have z_b := Y1 B_2.out; have f_7 := Y3 B_2.out; have hnb27 := N_5.out; have hnc27 := N_0.out; have z_e := Y1 B_1.out; have f_2 := Y3 B_1.out; obtain ⟨Ao29, co29, eo29⟩ := Kd.R_slice HO_1398001.out; subst eo29) | ((with_reducible refine Y8 (f := 20) rfl ?_); refine goesA (some 47) Try.func20 #[.agg #[.int .i64 x1398000_2, .slice Ao29 x1398001_2.length co29], .agg #[.int .i64 t_5, .int .i64 t_9, .int .i64 t_6, .int .i64 t_a, .int .i64 t_1, .bool t_8, .int .i64 t_3, .int .i64 t_c, .int .i64 t_b, .int .i64 t_2, .int .i64 t_7, .int .i64 t_4, .int .i64 t_0]] ?_; (with_reducible refine (Yj.calls k2 x1398000_2 _ _ x1398001_2 t_5 t_9 t_6 t_a t_1 t_8 t_3 t_c t_b t_2 t_7 t_4 t_0 t_f t_e t_j _ ?side1 ?side2 A17.out).mono ?_); (case side1 => refine (Kd.R_reads' (e := 30) (base := w.heap.size) (ok := fun k_ => (True ∧ k_ ≠ g_0)) (n := x1398001_2.length) (c := co29) ?_).2.2; exact (by (with_reducible repeat (first | apply Kd.R_alloc | apply Kd.R_drewN | apply Kd.R_drew)); exact (Kd.R_mono (Kd.R_far (p := ⟨g_0, 12, none⟩) (Kd.R_far (p := ⟨g_0, 11, none⟩) (Kd.R_far (p := ⟨g_0, 10, none⟩) (Kd.R_far (p := ⟨g_0, 9, none⟩) (Kd.R_far (p := ⟨g_0, 8, none⟩) (Kd.R_far (p := ⟨g_0, 7, none⟩) (Kd.R_far (p := ⟨g_0, 6, none⟩) (Kd.R_far (p := ⟨g_0, 5, none⟩) (Kd.R_far (p := ⟨g_0, 4, none⟩) (Kd.R_far (p := ⟨g_0, 3, none⟩) (Kd.R_far (p := ⟨g_0, 2, none⟩) (Kd.R_far (p := ⟨g_0, 1, none⟩) (Kd.R_far (p := ⟨g_0, 0, none⟩) (Kd.R_mono HO_1398001.out (fun k_ hk => (⟨hk, hk.2⟩ : _ ∧ k_ ≠ g_0))) (fun _ hk => hk.2) (.int .i64 t_5)) (fun _ hk => hk.2) (.int .i64 t_9)) (fun _ hk => hk.2) (.int .i64 t_6)) (fun _ hk => hk.2) (.int .i64 t_a)) (fun _ hk => hk.2) (.int .i64 t_1)) (fun _ hk => hk.2) (.bool t_8)) (fun _ hk => hk.2) (.int .i64 t_3)) (fun _ hk => hk.2) (.int .i64 t_c)) (fun _ hk => hk.2) (.int .i64 t_b)) (fun _ hk => hk.2) (.int .i64 t_2)) (fun _ hk => hk.2) (.int .i64 t_7)) (fun _ hk => hk.2) (.int .i64 t_4)) (fun _ hk => hk.2) (.int .i64 t_0)) (fun _ h_ => h_.1)))); (case side2 => exact (Kd.R_reads' HO_1398001.out).2.1); rintro e w30 ⟨v_1, rfl, ho0, hb⟩; refine ⟨_, rfl, ?_⟩; replace O_0 := Y0.mk (Kd.R_below (by (with_reducible repeat (first | apply Kd.R_alloc | apply Kd.R_drewN | apply Kd.R_drew)); exact (Kd.R_mono (Kd.R_far (p := ⟨g_0, 12, none⟩) (Kd.R_far (p := ⟨g_0, 11, none⟩) (Kd.R_far (p := ⟨g_0, 10, none⟩) (Kd.R_far (p := ⟨g_0, 9, none⟩) (Kd.R_far (p := ⟨g_0, 8, none⟩) (Kd.R_far (p := ⟨g_0, 7, none⟩) (Kd.R_far (p := ⟨g_0, 6, none⟩) (Kd.R_far (p := ⟨g_0, 5, none⟩) (Kd.R_far (p := ⟨g_0, 4, none⟩) (Kd.R_far (p := ⟨g_0, 3, none⟩) (Kd.R_far (p := ⟨g_0, 2, none⟩) (Kd.R_far (p := ⟨g_0, 1, none⟩) (Kd.R_far (p := ⟨g_0, 0, none⟩) (Kd.R_types O_0.out B_2.out (by decide)) (fun _ hk => hk.2) (.int .i64 t_5)) (fun _ hk => hk.2) (.int .i64 t_9)) (fun _ hk => hk.2) (.int .i64 t_6)) (fun _ hk => hk.2) (.int .i64 t_a)) (fun _ hk => hk.2) (.int .i64 t_1)) (fun _ hk => hk.2) (.bool t_8)) (fun _ hk => hk.2) (.int .i64 t_3)) (fun _ hk => hk.2) (.int .i64 t_c)) (fun _ hk => hk.2) (.int .i64 t_b)) (fun _ hk => hk.2) (.int .i64 t_2)) (fun _ hk => hk.2) (.int .i64 t_7)) (fun _ hk => hk.2) (.int .i64 t_4)) (fun _ hk => hk.2) (.int .i64 t_0)) (fun _ h_ => h_.1))) hb); replace O_1 := Y0.mk (Kd.R_lower (Kd.R_newB (Kd.R_new' ho0 (Kd.R_lt (by (with_reducible repeat (first | apply Kd.R_alloc | apply Kd.R_drewN | apply Kd.R_drew)); exact (Kd.R_mono (Kd.R_far (p := ⟨g_0, 12, none⟩) (Kd.R_far (p := ⟨g_0, 11, none⟩) (Kd.R_far (p := ⟨g_0, 10, none⟩) (Kd.R_far (p := ⟨g_0, 9, none⟩) (Kd.R_far (p := ⟨g_0, 8, none⟩) (Kd.R_far (p := ⟨g_0, 7, none⟩) (Kd.R_far (p := ⟨g_0, 6, none⟩) (Kd.R_far (p := ⟨g_0, 5, none⟩) (Kd.R_far (p := ⟨g_0, 4, none⟩) (Kd.R_far (p := ⟨g_0, 3, none⟩) (Kd.R_far (p := ⟨g_0, 2, none⟩) (Kd.R_far (p := ⟨g_0, 1, none⟩) (Kd.R_far (p := ⟨g_0, 0, none⟩) (Kd.R_mono HO_1398001.out (fun k_ hk => (⟨hk, hk.2⟩ : _ ∧ k_ ≠ g_0))) (fun _ hk => hk.2) (.int .i64 t_5)) (fun _ hk => hk.2) (.int .i64 t_9)) (fun _ hk => hk.2) (.int .i64 t_6)) (fun _ hk => hk.2) (.int .i64 t_a)) (fun _ hk => hk.2) (.int .i64 t_1)) (fun _ hk => hk.2) (.bool t_8)) (fun _ hk => hk.2) (.int .i64 t_3)) (fun _ hk => hk.2) (.int .i64 t_c)) (fun _ hk => hk.2) (.int .i64 t_b)) (fun _ hk => hk.2) (.int .i64 t_2)) (fun _ hk => hk.2) (.int .i64 t_7)) (fun _ hk => hk.2) (.int .i64 t_4)) (fun _ hk => hk.2) (.int .i64 t_0)) (fun _ h_ => h_.1))))) (g := g_0) (o := .cells #[.int .i64 t_5, .int .i64 t_9, .int .i64 t_6, .int .i64 t_a, .int .i64 t_1, .bool t_8, .int .i64 t_3, .int .i64 t_c, .int .i64 t_b, .int .i64 t_2, .int .i64 t_7, .int .i64 t_4, .int .i64 t_0] 30 (0, 0)) (by (with_reducible repeat (first | refine Yh ?_ _ | refine Yd ?_ | refine Yc ?_ _)); apply Yw; (iterate 12 ((with_reducible repeat (first | refine Yh ?_ _ | refine Yd ?_ | refine Yc ?_ _)); apply Y1l)); (with_reducible repeat (first | refine Yh ?_ _ | refine Yd ?_ | refine Yc ?_ _)); exact B_2.out; simp only [List.setIfInBounds_toArray, List.set_cons_zero, List.set_cons_succ])) (Yi (hU HB.out))); replace HO_1398001 := Y0.mk (Kd.R_elder' (by (with_reducible repeat (first | apply Kd.R_alloc | apply Kd.R_drewN | apply Kd.R_drew)); exact (Kd.R_mono (Kd.R_far (p := ⟨g_0, 12, none⟩) (Kd.R_far (p := ⟨g_0, 11, none⟩) (Kd.R_far (p := ⟨g_0, 10, none⟩) (Kd.R_far (p := ⟨g_0, 9, none⟩) (Kd.R_far (p := ⟨g_0, 8, none⟩) (Kd.R_far (p := ⟨g_0, 7, none⟩) (Kd.R_far (p := ⟨g_0, 6, none⟩) (Kd.R_far (p := ⟨g_0, 5, none⟩) (Kd.R_far (p := ⟨g_0, 4, none⟩) (Kd.R_far (p := ⟨g_0, 3, none⟩) (Kd.R_far (p := ⟨g_0, 2, none⟩) (Kd.R_far (p := ⟨g_0, 1, none⟩) (Kd.R_far (p := ⟨g_0, 0, none⟩) (Kd.R_mono HO_1398001.out (fun k_ hk => (⟨hk, hk.2⟩ : _ ∧ k_ ≠ g_0))) (fun _ hk => hk.2) (.int .i64 t_5)) (fun _ hk => hk.2) (.int .i64 t_9)) (fun _ hk => hk.2) (.int .i64 t_6)) (fun _ hk => hk.2) (.int .i64 t_a)) (fun _ hk => hk.2) (.int .i64 t_1)) (fun _ hk => hk.2) (.bool t_8)) (fun _ hk => hk.2) (.int .i64 t_3)) (fun _ hk => hk.2) (.int .i64 t_c)) (fun _ hk => hk.2) (.int .i64 t_b)) (fun _ hk => hk.2) (.int .i64 t_2)) (fun _ hk => hk.2) (.int .i64 t_7)) (fun _ hk => hk.2) (.int .i64 t_4)) (fun _ hk => hk.2) (.int .i64 t_0)) (fun _ h_ => h_.1))) (Kd.R_base ho0) hb); replace B_0 := Y0.mk (Y6 (g := g_1) (o := .cells #[.int .i64 x1397000_2, .slice none 0 0] 24 (0, 0)) (by (iterate 13 ((with_reducible repeat (first | refine Yh ?_ _ | refine Yd ?_ | refine Yc ?_ _)); refine (Below.heap_setCell _ ⟨_, _, none⟩ _ _ N_1.out).trans ?_)); (with_reducible repeat (first | refine Yh ?_ _ | refine Yd ?_ | refine Yc ?_ _)); exact B_0.out) hb); replace B_1 := Y0.mk (Y6 (g := g_2) (o := .cells #[.int .i64 x1398000_2, .slice Ao29 x1398001_2.length co29] 24 (0, 0)) (by (iterate 13 ((with_reducible repeat (first | refine Yh ?_ _ | refine Yd ?_ | refine Yc ?_ _)); refine (Below.heap_setCell _ ⟨_, _, none⟩ _ _ N_2.out).trans ?_)); (with_reducible repeat (first | refine Yh ?_ _ | refine Yd ?_ | refine Yc ?_ _)); exact B_1.out) hb); replace B_2 := Y0.mk (Y6 (g := g_0) (o := .cells #[.int .i64 t_5, .int .i64 t_9, .int .i64 t_6, .int .i64 t_a, .int .i64 t_1, .bool t_8, .int .i64 t_3, .int .i64 t_c, .int .i64 t_b, .int .i64 t_2, .int .i64 t_7, .int .i64 t_4, .int .i64 t_0] 30 (0, 0)) (by (with_reducible repeat (first | refine Yh ?_ _ | refine Yd ?_ | refine Yc ?_ _)); apply Yw; (iterate 12 ((with_reducible repeat (first | refine Yh ?_ _ | refine Yd ?_ | refine Yc ?_ _)); apply Y1l)); (with_reducible repeat (first | refine Yh ?_ _ | refine Yd ?_ | refine Yc ?_ _)); exact B_2.out; simp only [List.setIfInBounds_toArray, List.set_cons_zero, List.set_cons_succ]) hb); replace HB := Y0.mk (Y4 (hU HB.out) hb); (try clear hb); (try clear hb2); (try clear hk); (try clear hi); (try clear ho0)) | ((with_reducible refine Yl (N := 13) rfl ?_); refine Yk ?hg (N := 13) ?hd (cs := #[.int .i64 0, .slice none 0 0]) (t := 24) ?hr ?_; (case hd => rfl); (case hg => rfl); (case hr => first | (go_simp; done) | (go_simp; rfl)); intro g_3 hg w31 hbox hb; have n0_ := Y0.mk (Kd.R_below (Kd.rU HO_1398001.out) hb); have n1_ := Y0.mk (Kd.R_below (Kd.rU O_0.out) hb); have n2_ := Y0.mk (Kd.R_below (Kd.rU O_1.out) hb); have n3_ := Y0.mk (Y6 (bU B_0.out) hb); have n4_ := Y0.mk (Y6 (bU B_1.out) hb); have n5_ := Y0.mk (Y6 (bU B_2.out) hb); have n6_ := Y0.mk (Y4 (hU HB.out) hb); have n7_ := Y0.mk (hbox); have n8_ := gE hg HB; have n9_ := gE hg HB; have n10_ := gL hg B_0; have n11_ := gG hg B_0; have n12_ := gL hg B_1; have n13_ := gG hg B_1; have n14_ := gL hg B_2; have n15_ := gG hg B_2; clear HO_1398001; clear O_0; clear O_1; clear B_0; clear B_1; clear B_2; clear HB; have HO_1398001 := n0_; have O_0 := n1_; have O_1 := n2_; have B_0 := n3_; have B_1 := n4_; have B_2 := n5_; have HB := n6_; have B_3 := n7_; have W_1 := n8_; have G_1 := n9_; have N_3 := n10_; have N_b := n11_; have N_6 := n12_; have N_8 := n13_; have N_a := n14_; have N_9 := n15_; clear n0_ n1_ n2_ n3_ n4_ n5_ n6_ n7_ n8_ n9_ n10_ n11_ n12_ n13_ n14_ n15_; clear hb hbox hg; have hnb32 := N_b.out; have hnc32 := N_3.out; have hnb33 := N_8.out; have hnc33 := N_6.out; have hnb34 := N_9.out; have hnc34 := N_a.out; have z_2 := Y1 B_3.out; have f_8 := Y3 B_3.out; obtain ⟨Ao36, co36, eo36⟩ := Kd.R_slice O_1.out; subst eo36; have z_c := Y1 B_1.out; have f_a := Y3 B_1.out))
         go_roundg k2
         case measure => have := HJ2.out; have := HK2.out; omega
         case rel => exact ⟨(wrap64 (x8_2 + t_h)), (x1397000_2), (t_f), (t_e), (.slice Ao36 t_e.length co36), reS, H', ⟨by have := HJ2.out; have := HK2.out; omega⟩, ⟨by (with_reducible repeat (first | apply Kd.R_alloc | apply Kd.R_drewN | apply Kd.R_drew)); exact Kd.R_mono (Kd.R_far (p := ⟨g_2, 1, none⟩) (Kd.R_far (p := ⟨g_2, 0, none⟩) (Kd.R_far (p := ⟨g_3, 1, none⟩) (Kd.R_far (p := ⟨g_3, 0, none⟩) (Kd.R_types (Kd.R_types O_1.out B_3.out (by decide)) B_1.out (by decide)) (fun _ hk => hk.1.2) (.int .i64 t_f)) (fun _ hk => hk.1.2) (.slice Ao36 t_e.length co36)) (fun _ hk => hk.2) (.int .i64 t_f)) (fun _ hk => hk.2) (.slice Ao36 t_e.length co36)) (fun _ hk => trivial)⟩, ⟨by (with_reducible repeat (first | refine Yh ?_ _ | refine Yd ?_ | refine Yc ?_ _)); refine (Below.heap_setCell _ ⟨_, _, none⟩ _ _ N_0.out).trans ?_; (with_reducible repeat (first | refine Yh ?_ _ | refine Yd ?_ | refine Yc ?_ _)); refine (Below.heap_setCell _ ⟨_, _, none⟩ _ _ N_0.out).trans ?_; (with_reducible repeat (first | refine Yh ?_ _ | refine Yd ?_ | refine Yc ?_ _)); refine (Below.heap_setCell _ ⟨_, _, none⟩ _ _ N_3.out).trans ?_; (with_reducible repeat (first | refine Yh ?_ _ | refine Yd ?_ | refine Yc ?_ _)); refine (Below.heap_setCell _ ⟨_, _, none⟩ _ _ N_3.out).trans ?_; (with_reducible repeat (first | refine Yh ?_ _ | refine Yd ?_ | refine Yc ?_ _)); exact B_0.out⟩, ⟨by (with_reducible repeat (first | refine Yh ?_ _ | refine Yd ?_ | refine Yc ?_ _)); refine Yw (cs := #[.int .i64 t_f, .slice Ao29 x1398001_2.length co29]) ?_ 1 _ rfl; (with_reducible repeat (first | refine Yh ?_ _ | refine Yd ?_ | refine Yc ?_ _)); refine Yw (cs := #[.int .i64 x1398000_2, .slice Ao29 x1398001_2.length co29]) ?_ 0 _ rfl; (with_reducible repeat (first | refine Yh ?_ _ | refine Yd ?_ | refine Yc ?_ _)); refine (Below.heap_setCell _ ⟨_, _, none⟩ _ _ N_6.out).trans ?_; (with_reducible repeat (first | refine Yh ?_ _ | refine Yd ?_ | refine Yc ?_ _)); refine (Below.heap_setCell _ ⟨_, _, none⟩ _ _ N_6.out).trans ?_; (with_reducible repeat (first | refine Yh ?_ _ | refine Yd ?_ | refine Yc ?_ _)); exact B_1.out⟩, ⟨hU HB.out⟩⟩
        ·rw [if_neg c18] at H
         have c18b0 := bqF c18
         have c18b1 := bnT c18
         simp only [Option.some.injEq, Prod.mk.injEq] at H
         obtain ⟨rfl, rfl, rfl, rfl⟩ := H
         obtain ⟨i038, hi038, _, hsz38, _⟩ := info_parts info5
         obtain ⟨A38, hcut38, hA38, hC38⟩ := Y1Q (P := Try.prog) (Value.int .u8) 0 60 5 .i64 Try.underlying60 hi038 hsz38 A1 c1 l1 x8_2 (of_decide_eq_true (by first | (with_reducible assumption) | assumption)) (of_decide_eq_true (by first | (with_reducible assumption) | assumption)) HC1.out
         have HR1398 := Y0.mk (Kd.C_of_reads (h1 := fun _ => rfl) (hA38 _ (Kd.reads_of_C HR1.out)))
         have HC1398 := Y0.mk hC38
         clear hA38 hC38 hi038 hsz38
         go_wp2_with (first | ((with_reducible refine Y8 (f := 88) rfl ?_); refine Y1C (some 27) rfl rfl Try.func88 (by kernel_rfl) rfl #[.slice A38 (l1.drop (x8_2 : Int).toNat).length (c1 - x8_2.toNat)] rfl (by (try simp only [List.map_toArray, List.map_cons, List.map_nil]); first | done | (rw [show (l1.drop (x8_2 : Int).toNat).length = (l1.length - x8_2.toNat) from List.length_drop] <;> rfl) | rfl | (simp only [List.length_drop, List.length_take]; rfl)) ?_; (with_reducible refine (Ym.calls k2 _ _ (l1.drop (x8_2 : Int).toNat) t_d t_h t_g _ ?side1 ?side2 A13.out).mono ?_); (case side1 => repeat (first | exact (Kd.C_below HR1398.out HB.out) | (with_reducible refine Kd.C_alloc ?_ _) | (with_reducible refine Kd.C_drewN ?_ _) | (with_reducible refine Kd.C_drew ?_))); (case side2 => exact HC1398.out); rintro e w39 ⟨v_0, rfl, ho0, hb⟩; refine ⟨_, rfl, ?_⟩; replace HO_1398001 := Y0.mk (Kd.R_below (Kd.rU HO_1398001.out) hb); replace O_0 := Y0.mk (Kd.R_lower ho0 (Yi (hU HB.out))); replace B_0 := Y0.mk (Y6 (bU B_0.out) hb); replace B_1 := Y0.mk (Y6 (bU B_1.out) hb); replace HB := Y0.mk (Y4 (hU HB.out) hb); (try clear hb); (try clear hb2); (try clear hk); (try clear hi); (try clear ho0); obtain ⟨Ao40, co40, eo40⟩ := Kd.R_slice O_0.out; subst eo40) | ((with_reducible refine Y8 (f := 89) rfl ?_); refine goesA (some 37) Try.func89 #[.slice Ao40 t_d.length co40] ?_; (with_reducible refine (YJ.calls k2 _ _ t_d t_5 t_9 t_6 t_a t_1 t_8 t_3 t_c t_b t_2 t_7 t_4 t_0 t_i _ ?side1 ?side2 A15.out).mono ?_); (case side1 => repeat (first | exact (Kd.R_reads' O_0.out).2.2 | (with_reducible refine Kd.C_alloc ?_ _) | (with_reducible refine Kd.C_drewN ?_ _) | (with_reducible refine Kd.C_drew ?_))); (case side2 => exact (Kd.R_reads' O_0.out).2.1); rintro e w41 ⟨rfl, hb⟩; refine ⟨_, rfl, ?_⟩; replace HO_1398001 := Y0.mk (Kd.R_below (Kd.rU HO_1398001.out) hb); replace O_0 := Y0.mk (Kd.R_below (Kd.rU O_0.out) hb); replace B_0 := Y0.mk (Y6 (bU B_0.out) hb); replace B_1 := Y0.mk (Y6 (bU B_1.out) hb); replace HB := Y0.mk (Y4 (hU HB.out) hb); (try clear hb); (try clear hb2); (try clear hk); (try clear hi)) | ((with_reducible refine Yl (N := 12) rfl ?_); refine Yk ?hg (N := 12) ?hd (cs := #[.int .i64 0, .int .i64 0, .int .i64 0, .int .i64 0, .int .i64 0, .bool false, .int .i64 0, .int .i64 0, .int .i64 0, .int .i64 0, .int .i64 0, .int .i64 0, .int .i64 0]) (t := 30) ?hr ?_; (case hd => rfl); (case hg => rfl); (case hr => first | (go_simp; done) | (go_simp; rfl)); intro g_0 hg w42 hbox hb; have n0_ := Y0.mk (Kd.R_below (Kd.R_elderB (Kd.rU HO_1398001.out) g_0 (Nat.le_of_eq hg.symm)) hb); have n1_ := Y0.mk (Kd.R_below (Kd.rU O_0.out) hb); have n2_ := Y0.mk (Y6 (bU B_0.out) hb); have n3_ := Y0.mk (Y6 (bU B_1.out) hb); have n4_ := Y0.mk (Y4 (hU HB.out) hb); have n5_ := Y0.mk (hbox); have n6_ := gE hg HB; have n7_ := gE hg HB; have n8_ := gL hg B_0; have n9_ := gG hg B_0; have n10_ := gL hg B_1; have n11_ := gG hg B_1; clear HO_1398001; clear O_0; clear B_0; clear B_1; clear HB; have HO_1398001 := n0_; have O_0 := n1_; have B_0 := n2_; have B_1 := n3_; have HB := n4_; have B_2 := n5_; have W_0 := n6_; have G_0 := n7_; have N_1 := n8_; have N_7 := n9_; have N_2 := n10_; have N_4 := n11_; clear n0_ n1_ n2_ n3_ n4_ n5_ n6_ n7_ n8_ n9_ n10_ n11_; clear hb hbox hg; have hnb43 := N_7.out; have hnc43 := N_1.out; have hnb44 := N_4.out; have hnc44 := N_2.out; have z_5 := Y1 B_2.out; have f_g := Y3 B_2.out; have hnb46 := N_5.out; have hnc46 := N_0.out; have z_8 := Y1 B_1.out; have f_d := Y3 B_1.out; obtain ⟨Ao48, co48, eo48⟩ := Kd.R_slice HO_1398001.out; subst eo48) | ((with_reducible refine Y8 (f := 20) rfl ?_); refine goesA (some 47) Try.func20 #[.agg #[.int .i64 x1398000_2, .slice Ao48 x1398001_2.length co48], .agg #[.int .i64 t_5, .int .i64 t_9, .int .i64 t_6, .int .i64 t_a, .int .i64 t_1, .bool t_8, .int .i64 t_3, .int .i64 t_c, .int .i64 t_b, .int .i64 t_2, .int .i64 t_7, .int .i64 t_4, .int .i64 t_0]] ?_; (with_reducible refine (Yj.calls k2 x1398000_2 _ _ x1398001_2 t_5 t_9 t_6 t_a t_1 t_8 t_3 t_c t_b t_2 t_7 t_4 t_0 t_f t_e t_j _ ?side1 ?side2 A17.out).mono ?_); (case side1 => refine (Kd.R_reads' (e := 30) (base := w.heap.size) (ok := fun k_ => (True ∧ k_ ≠ g_0)) (n := x1398001_2.length) (c := co48) ?_).2.2; exact (by (with_reducible repeat (first | apply Kd.R_alloc | apply Kd.R_drewN | apply Kd.R_drew)); exact (Kd.R_mono (Kd.R_far (p := ⟨g_0, 12, none⟩) (Kd.R_far (p := ⟨g_0, 11, none⟩) (Kd.R_far (p := ⟨g_0, 10, none⟩) (Kd.R_far (p := ⟨g_0, 9, none⟩) (Kd.R_far (p := ⟨g_0, 8, none⟩) (Kd.R_far (p := ⟨g_0, 7, none⟩) (Kd.R_far (p := ⟨g_0, 6, none⟩) (Kd.R_far (p := ⟨g_0, 5, none⟩) (Kd.R_far (p := ⟨g_0, 4, none⟩) (Kd.R_far (p := ⟨g_0, 3, none⟩) (Kd.R_far (p := ⟨g_0, 2, none⟩) (Kd.R_far (p := ⟨g_0, 1, none⟩) (Kd.R_far (p := ⟨g_0, 0, none⟩) (Kd.R_mono HO_1398001.out (fun k_ hk => (⟨hk, hk.2⟩ : _ ∧ k_ ≠ g_0))) (fun _ hk => hk.2) (.int .i64 t_5)) (fun _ hk => hk.2) (.int .i64 t_9)) (fun _ hk => hk.2) (.int .i64 t_6)) (fun _ hk => hk.2) (.int .i64 t_a)) (fun _ hk => hk.2) (.int .i64 t_1)) (fun _ hk => hk.2) (.bool t_8)) (fun _ hk => hk.2) (.int .i64 t_3)) (fun _ hk => hk.2) (.int .i64 t_c)) (fun _ hk => hk.2) (.int .i64 t_b)) (fun _ hk => hk.2) (.int .i64 t_2)) (fun _ hk => hk.2) (.int .i64 t_7)) (fun _ hk => hk.2) (.int .i64 t_4)) (fun _ hk => hk.2) (.int .i64 t_0)) (fun _ h_ => h_.1)))); (case side2 => exact (Kd.R_reads' HO_1398001.out).2.1); rintro e w49 ⟨v_1, rfl, ho0, hb⟩; refine ⟨_, rfl, ?_⟩; replace O_0 := Y0.mk (Kd.R_below (by (with_reducible repeat (first | apply Kd.R_alloc | apply Kd.R_drewN | apply Kd.R_drew)); exact (Kd.R_mono (Kd.R_far (p := ⟨g_0, 12, none⟩) (Kd.R_far (p := ⟨g_0, 11, none⟩) (Kd.R_far (p := ⟨g_0, 10, none⟩) (Kd.R_far (p := ⟨g_0, 9, none⟩) (Kd.R_far (p := ⟨g_0, 8, none⟩) (Kd.R_far (p := ⟨g_0, 7, none⟩) (Kd.R_far (p := ⟨g_0, 6, none⟩) (Kd.R_far (p := ⟨g_0, 5, none⟩) (Kd.R_far (p := ⟨g_0, 4, none⟩) (Kd.R_far (p := ⟨g_0, 3, none⟩) (Kd.R_far (p := ⟨g_0, 2, none⟩) (Kd.R_far (p := ⟨g_0, 1, none⟩) (Kd.R_far (p := ⟨g_0, 0, none⟩) (Kd.R_types O_0.out B_2.out (by decide)) (fun _ hk => hk.2) (.int .i64 t_5)) (fun _ hk => hk.2) (.int .i64 t_9)) (fun _ hk => hk.2) (.int .i64 t_6)) (fun _ hk => hk.2) (.int .i64 t_a)) (fun _ hk => hk.2) (.int .i64 t_1)) (fun _ hk => hk.2) (.bool t_8)) (fun _ hk => hk.2) (.int .i64 t_3)) (fun _ hk => hk.2) (.int .i64 t_c)) (fun _ hk => hk.2) (.int .i64 t_b)) (fun _ hk => hk.2) (.int .i64 t_2)) (fun _ hk => hk.2) (.int .i64 t_7)) (fun _ hk => hk.2) (.int .i64 t_4)) (fun _ hk => hk.2) (.int .i64 t_0)) (fun _ h_ => h_.1))) hb); replace O_1 := Y0.mk (Kd.R_lower (Kd.R_newB (Kd.R_new' ho0 (Kd.R_lt (by (with_reducible repeat (first | apply Kd.R_alloc | apply Kd.R_drewN | apply Kd.R_drew)); exact (Kd.R_mono (Kd.R_far (p := ⟨g_0, 12, none⟩) (Kd.R_far (p := ⟨g_0, 11, none⟩) (Kd.R_far (p := ⟨g_0, 10, none⟩) (Kd.R_far (p := ⟨g_0, 9, none⟩) (Kd.R_far (p := ⟨g_0, 8, none⟩) (Kd.R_far (p := ⟨g_0, 7, none⟩) (Kd.R_far (p := ⟨g_0, 6, none⟩) (Kd.R_far (p := ⟨g_0, 5, none⟩) (Kd.R_far (p := ⟨g_0, 4, none⟩) (Kd.R_far (p := ⟨g_0, 3, none⟩) (Kd.R_far (p := ⟨g_0, 2, none⟩) (Kd.R_far (p := ⟨g_0, 1, none⟩) (Kd.R_far (p := ⟨g_0, 0, none⟩) (Kd.R_mono HO_1398001.out (fun k_ hk => (⟨hk, hk.2⟩ : _ ∧ k_ ≠ g_0))) (fun _ hk => hk.2) (.int .i64 t_5)) (fun _ hk => hk.2) (.int .i64 t_9)) (fun _ hk => hk.2) (.int .i64 t_6)) (fun _ hk => hk.2) (.int .i64 t_a)) (fun _ hk => hk.2) (.int .i64 t_1)) (fun _ hk => hk.2) (.bool t_8)) (fun _ hk => hk.2) (.int .i64 t_3)) (fun _ hk => hk.2) (.int .i64 t_c)) (fun _ hk => hk.2) (.int .i64 t_b)) (fun _ hk => hk.2) (.int .i64 t_2)) (fun _ hk => hk.2) (.int .i64 t_7)) (fun _ hk => hk.2) (.int .i64 t_4)) (fun _ hk => hk.2) (.int .i64 t_0)) (fun _ h_ => h_.1))))) (g := g_0) (o := .cells #[.int .i64 t_5, .int .i64 t_9, .int .i64 t_6, .int .i64 t_a, .int .i64 t_1, .bool t_8, .int .i64 t_3, .int .i64 t_c, .int .i64 t_b, .int .i64 t_2, .int .i64 t_7, .int .i64 t_4, .int .i64 t_0] 30 (0, 0)) (by (with_reducible repeat (first | refine Yh ?_ _ | refine Yd ?_ | refine Yc ?_ _)); apply Yw; (iterate 12 ((with_reducible repeat (first | refine Yh ?_ _ | refine Yd ?_ | refine Yc ?_ _)); apply Y1l)); (with_reducible repeat (first | refine Yh ?_ _ | refine Yd ?_ | refine Yc ?_ _)); exact B_2.out; simp only [List.setIfInBounds_toArray, List.set_cons_zero, List.set_cons_succ])) (Yi (hU HB.out))); replace HO_1398001 := Y0.mk (Kd.R_elder' (by (with_reducible repeat (first | apply Kd.R_alloc | apply Kd.R_drewN | apply Kd.R_drew)); exact (Kd.R_mono (Kd.R_far (p := ⟨g_0, 12, none⟩) (Kd.R_far (p := ⟨g_0, 11, none⟩) (Kd.R_far (p := ⟨g_0, 10, none⟩) (Kd.R_far (p := ⟨g_0, 9, none⟩) (Kd.R_far (p := ⟨g_0, 8, none⟩) (Kd.R_far (p := ⟨g_0, 7, none⟩) (Kd.R_far (p := ⟨g_0, 6, none⟩) (Kd.R_far (p := ⟨g_0, 5, none⟩) (Kd.R_far (p := ⟨g_0, 4, none⟩) (Kd.R_far (p := ⟨g_0, 3, none⟩) (Kd.R_far (p := ⟨g_0, 2, none⟩) (Kd.R_far (p := ⟨g_0, 1, none⟩) (Kd.R_far (p := ⟨g_0, 0, none⟩) (Kd.R_mono HO_1398001.out (fun k_ hk => (⟨hk, hk.2⟩ : _ ∧ k_ ≠ g_0))) (fun _ hk => hk.2) (.int .i64 t_5)) (fun _ hk => hk.2) (.int .i64 t_9)) (fun _ hk => hk.2) (.int .i64 t_6)) (fun _ hk => hk.2) (.int .i64 t_a)) (fun _ hk => hk.2) (.int .i64 t_1)) (fun _ hk => hk.2) (.bool t_8)) (fun _ hk => hk.2) (.int .i64 t_3)) (fun _ hk => hk.2) (.int .i64 t_c)) (fun _ hk => hk.2) (.int .i64 t_b)) (fun _ hk => hk.2) (.int .i64 t_2)) (fun _ hk => hk.2) (.int .i64 t_7)) (fun _ hk => hk.2) (.int .i64 t_4)) (fun _ hk => hk.2) (.int .i64 t_0)) (fun _ h_ => h_.1))) (Kd.R_base ho0) hb); replace B_0 := Y0.mk (Y6 (g := g_1) (o := .cells #[.int .i64 x1397000_2, .slice none 0 0] 24 (0, 0)) (by (iterate 13 ((with_reducible repeat (first | refine Yh ?_ _ | refine Yd ?_ | refine Yc ?_ _)); refine (Below.heap_setCell _ ⟨_, _, none⟩ _ _ N_1.out).trans ?_)); (with_reducible repeat (first | refine Yh ?_ _ | refine Yd ?_ | refine Yc ?_ _)); exact B_0.out) hb); replace B_1 := Y0.mk (Y6 (g := g_2) (o := .cells #[.int .i64 x1398000_2, .slice Ao48 x1398001_2.length co48] 24 (0, 0)) (by (iterate 13 ((with_reducible repeat (first | refine Yh ?_ _ | refine Yd ?_ | refine Yc ?_ _)); refine (Below.heap_setCell _ ⟨_, _, none⟩ _ _ N_2.out).trans ?_)); (with_reducible repeat (first | refine Yh ?_ _ | refine Yd ?_ | refine Yc ?_ _)); exact B_1.out) hb); replace B_2 := Y0.mk (Y6 (g := g_0) (o := .cells #[.int .i64 t_5, .int .i64 t_9, .int .i64 t_6, .int .i64 t_a, .int .i64 t_1, .bool t_8, .int .i64 t_3, .int .i64 t_c, .int .i64 t_b, .int .i64 t_2, .int .i64 t_7, .int .i64 t_4, .int .i64 t_0] 30 (0, 0)) (by (with_reducible repeat (first | refine Yh ?_ _ | refine Yd ?_ | refine Yc ?_ _)); apply Yw; (iterate 12 ((with_reducible repeat (first | refine Yh ?_ _ | refine Yd ?_ | refine Yc ?_ _)); apply Y1l)); (with_reducible repeat (first | refine Yh ?_ _ | refine Yd ?_ | refine Yc ?_ _)); exact B_2.out; simp only [List.setIfInBounds_toArray, List.set_cons_zero, List.set_cons_succ]) hb); replace HB := Y0.mk (Y4 (hU HB.out) hb); (try clear hb); (try clear hb2); (try clear hk); (try clear hi); (try clear ho0)) | ((with_reducible refine Yl (N := 13) rfl ?_); refine Yk ?hg (N := 13) ?hd (cs := #[.int .i64 0, .slice none 0 0]) (t := 24) ?hr ?_; (case hd => rfl); (case hg => rfl); (case hr => first | (go_simp; done) | (go_simp; rfl)); intro g_3 hg w50 hbox hb; have n0_ := Y0.mk (Kd.R_below (Kd.rU HO_1398001.out) hb); have n1_ := Y0.mk (Kd.R_below (Kd.rU O_0.out) hb); have n2_ := Y0.mk (Kd.R_below (Kd.rU O_1.out) hb); have n3_ := Y0.mk (Y6 (bU B_0.out) hb); have n4_ := Y0.mk (Y6 (bU B_1.out) hb); have n5_ := Y0.mk (Y6 (bU B_2.out) hb); have n6_ := Y0.mk (Y4 (hU HB.out) hb); have n7_ := Y0.mk (hbox); have n8_ := gE hg HB; have n9_ := gE hg HB; have n10_ := gL hg B_0; have n11_ := gG hg B_0; have n12_ := gL hg B_1; have n13_ := gG hg B_1; have n14_ := gL hg B_2; have n15_ := gG hg B_2; clear HO_1398001; clear O_0; clear O_1; clear B_0; clear B_1; clear B_2; clear HB; have HO_1398001 := n0_; have O_0 := n1_; have O_1 := n2_; have B_0 := n3_; have B_1 := n4_; have B_2 := n5_; have HB := n6_; have B_3 := n7_; have W_1 := n8_; have G_1 := n9_; have N_3 := n10_; have N_b := n11_; have N_6 := n12_; have N_8 := n13_; have N_a := n14_; have N_9 := n15_; clear n0_ n1_ n2_ n3_ n4_ n5_ n6_ n7_ n8_ n9_ n10_ n11_ n12_ n13_ n14_ n15_; clear hb hbox hg; have hnb51 := N_b.out; have hnc51 := N_3.out; have hnb52 := N_8.out; have hnc52 := N_6.out; have hnb53 := N_9.out; have hnc53 := N_a.out; have z_a := Y1 B_3.out; have f_6 := Y3 B_3.out; obtain ⟨Ao55, co55, eo55⟩ := Kd.R_slice O_1.out; subst eo55; have z_6 := Y1 B_1.out; have f_e := Y3 B_1.out; have z_h := Y1 B_0.out; have f_b := Y3 B_0.out))
         refine bodyPost_ret (Y1y rfl _ _ g_1 24 #[.int .i64 x1398000_2, .slice Ao48 x1398001_2.length co48] (0, 0) _ rfl (by (with_reducible repeat (first | refine Yh ?_ _ | refine Yd ?_ | refine Yc ?_ _)); apply Yw; (iterate 1 ((with_reducible repeat (first | refine Yh ?_ _ | refine Yd ?_ | refine Yc ?_ _)); apply Y1l)); (iterate 2 ((with_reducible repeat (first | refine Yh ?_ _ | refine Yd ?_ | refine Yc ?_ _)); refine (Below.heap_setCell _ ⟨_, _, none⟩ _ _ N_3.out).trans ?_)); (with_reducible repeat (first | refine Yh ?_ _ | refine Yd ?_ | refine Yc ?_ _)); exact B_0.out; simp only [List.setIfInBounds_toArray, List.set_cons_zero, List.set_cons_succ]) Try.underlying24 rfl (by kernel_rfl)) rfl ?_
         exact ⟨_, reT, by (with_reducible repeat (first | apply Kd.R_alloc | apply Kd.R_drewN | apply Kd.R_drew)); exact Kd.R_mono (Kd.R_far (p := ⟨g_1, 1, none⟩) (Kd.R_far (p := ⟨g_1, 0, none⟩) (Kd.R_far (p := ⟨g_3, 1, none⟩) (Kd.R_far (p := ⟨g_3, 0, none⟩) (Kd.R_types (Kd.R_types HO_1398001.out B_3.out (by decide)) B_0.out (by decide)) (fun _ hk => hk.1.2) (.int .i64 t_f)) (fun _ hk => hk.1.2) (.slice Ao55 t_e.length co55)) (fun _ hk => hk.2) (.int .i64 x1398000_2)) (fun _ hk => hk.2) (.slice Ao48 x1398001_2.length co48)) (fun _ hk => trivial), hU HB.out⟩
       ·rw [if_neg c16] at H
        have c16b0 := bqF c16
        have c16b1 := bnT c16
        simp only [Option.some.injEq, Prod.mk.injEq] at H
        obtain ⟨rfl, rfl, rfl, rfl⟩ := H
        obtain ⟨i058, hi058, _, hsz58, _⟩ := info_parts info5
        obtain ⟨A58, hcut58, hA58, hC58⟩ := Y1Q (P := Try.prog) (Value.int .u8) 0 60 5 .i64 Try.underlying60 hi058 hsz58 A1 c1 l1 x8_2 (of_decide_eq_true (by first | (with_reducible assumption) | assumption)) (of_decide_eq_true (by first | (with_reducible assumption) | assumption)) HC1.out
        have HR1398 := Y0.mk (Kd.C_of_reads (h1 := fun _ => rfl) (hA58 _ (Kd.reads_of_C HR1.out)))
        have HC1398 := Y0.mk hC58
        clear hA58 hC58 hi058 hsz58
        go_wp2_with (first | ((with_reducible refine Y8 (f := 88) rfl ?_); refine Y1C (some 27) rfl rfl Try.func88 (by kernel_rfl) rfl #[.slice A58 (l1.drop (x8_2 : Int).toNat).length (c1 - x8_2.toNat)] rfl (by (try simp only [List.map_toArray, List.map_cons, List.map_nil]); first | done | (rw [show (l1.drop (x8_2 : Int).toNat).length = (l1.length - x8_2.toNat) from List.length_drop] <;> rfl) | rfl | (simp only [List.length_drop, List.length_take]; rfl)) ?_; (with_reducible refine (Ym.calls k2 _ _ (l1.drop (x8_2 : Int).toNat) t_d t_h t_g _ ?side1 ?side2 A13.out).mono ?_); (case side1 => repeat (first | exact (Kd.C_below HR1398.out HB.out) | (with_reducible refine Kd.C_alloc ?_ _) | (with_reducible refine Kd.C_drewN ?_ _) | (with_reducible refine Kd.C_drew ?_))); (case side2 => exact HC1398.out); rintro e w59 ⟨v_0, rfl, ho0, hb⟩; refine ⟨_, rfl, ?_⟩; replace HO_1398001 := Y0.mk (Kd.R_below (Kd.rU HO_1398001.out) hb); replace O_0 := Y0.mk (Kd.R_lower ho0 (Yi (hU HB.out))); replace B_0 := Y0.mk (Y6 (bU B_0.out) hb); replace B_1 := Y0.mk (Y6 (bU B_1.out) hb); replace HB := Y0.mk (Y4 (hU HB.out) hb); (try clear hb); (try clear hb2); (try clear hk); (try clear hi); (try clear ho0); obtain ⟨Ao60, co60, eo60⟩ := Kd.R_slice O_0.out; subst eo60) | ((with_reducible refine Y8 (f := 89) rfl ?_); refine goesA (some 37) Try.func89 #[.slice Ao60 t_d.length co60] ?_; (with_reducible refine (YJ.calls k2 _ _ t_d t_5 t_9 t_6 t_a t_1 t_8 t_3 t_c t_b t_2 t_7 t_4 t_0 t_i _ ?side1 ?side2 A15.out).mono ?_); (case side1 => repeat (first | exact (Kd.R_reads' O_0.out).2.2 | (with_reducible refine Kd.C_alloc ?_ _) | (with_reducible refine Kd.C_drewN ?_ _) | (with_reducible refine Kd.C_drew ?_))); (case side2 => exact (Kd.R_reads' O_0.out).2.1); rintro e w61 ⟨rfl, hb⟩; refine ⟨_, rfl, ?_⟩; replace HO_1398001 := Y0.mk (Kd.R_below (Kd.rU HO_1398001.out) hb); replace O_0 := Y0.mk (Kd.R_below (Kd.rU O_0.out) hb); replace B_0 := Y0.mk (Y6 (bU B_0.out) hb); replace B_1 := Y0.mk (Y6 (bU B_1.out) hb); replace HB := Y0.mk (Y4 (hU HB.out) hb); (try clear hb); (try clear hb2); (try clear hk); (try clear hi)) | ((with_reducible refine Yl (N := 12) rfl ?_); refine Yk ?hg (N := 12) ?hd (cs := #[.int .i64 0, .int .i64 0, .int .i64 0, .int .i64 0, .int .i64 0, .bool false, .int .i64 0, .int .i64 0, .int .i64 0, .int .i64 0, .int .i64 0, .int .i64 0, .int .i64 0]) (t := 30) ?hr ?_; (case hd => rfl); (case hg => rfl); (case hr => first | (go_simp; done) | (go_simp; rfl)); intro g_0 hg w62 hbox hb; have n0_ := Y0.mk (Kd.R_below (Kd.R_elderB (Kd.rU HO_1398001.out) g_0 (Nat.le_of_eq hg.symm)) hb); have n1_ := Y0.mk (Kd.R_below (Kd.rU O_0.out) hb); have n2_ := Y0.mk (Y6 (bU B_0.out) hb); have n3_ := Y0.mk (Y6 (bU B_1.out) hb); have n4_ := Y0.mk (Y4 (hU HB.out) hb); have n5_ := Y0.mk (hbox); have n6_ := gE hg HB; have n7_ := gE hg HB; have n8_ := gL hg B_0; have n9_ := gG hg B_0; have n10_ := gL hg B_1; have n11_ := gG hg B_1; clear HO_1398001; clear O_0; clear B_0; clear B_1; clear HB; have HO_1398001 := n0_; have O_0 := n1_; have B_0 := n2_; have B_1 := n3_; have HB := n4_; have B_2 := n5_; have W_0 := n6_; have G_0 := n7_; have N_1 := n8_; have N_7 := n9_; have N_2 := n10_; have N_4 := n11_; clear n0_ n1_ n2_ n3_ n4_ n5_ n6_ n7_ n8_ n9_ n10_ n11_; clear hb hbox hg; have hnb63 := N_7.out; have hnc63 := N_1.out; have hnb64 := N_4.out; have hnc64 := N_2.out; have z_9 := Y1 B_2.out; have f_5 := Y3 B_2.out; have hnb66 := N_5.out; have hnc66 := N_0.out; have z_d := Y1 B_1.out; have f_c := Y3 B_1.out; have z_3 := Y1 B_0.out; have f_f := Y3 B_0.out; obtain ⟨Ao69, co69, eo69⟩ := Kd.R_slice HO_1398001.out; subst eo69))
        refine bodyPost_ret (Y1y rfl _ _ g_1 24 #[.int .i64 x1398000_2, .slice Ao69 x1398001_2.length co69] (0, 0) _ rfl (by (with_reducible repeat (first | refine Yh ?_ _ | refine Yd ?_ | refine Yc ?_ _)); apply Yw; (iterate 1 ((with_reducible repeat (first | refine Yh ?_ _ | refine Yd ?_ | refine Yc ?_ _)); apply Y1l)); (iterate 13 ((with_reducible repeat (first | refine Yh ?_ _ | refine Yd ?_ | refine Yc ?_ _)); refine (Below.heap_setCell _ ⟨_, _, none⟩ _ _ N_1.out).trans ?_)); (with_reducible repeat (first | refine Yh ?_ _ | refine Yd ?_ | refine Yc ?_ _)); exact B_0.out; simp only [List.setIfInBounds_toArray, List.set_cons_zero, List.set_cons_succ]) Try.underlying24 rfl (by kernel_rfl)) rfl ?_
        exact ⟨_, reT, by (with_reducible repeat (first | apply Kd.R_alloc | apply Kd.R_drewN | apply Kd.R_drew)); exact Kd.R_mono (Kd.R_far (p := ⟨g_1, 1, none⟩) (Kd.R_far (p := ⟨g_1, 0, none⟩) (Kd.R_far (p := ⟨g_0, 12, none⟩) (Kd.R_far (p := ⟨g_0, 11, none⟩) (Kd.R_far (p := ⟨g_0, 10, none⟩) (Kd.R_far (p := ⟨g_0, 9, none⟩) (Kd.R_far (p := ⟨g_0, 8, none⟩) (Kd.R_far (p := ⟨g_0, 7, none⟩) (Kd.R_far (p := ⟨g_0, 6, none⟩) (Kd.R_far (p := ⟨g_0, 5, none⟩) (Kd.R_far (p := ⟨g_0, 4, none⟩) (Kd.R_far (p := ⟨g_0, 3, none⟩) (Kd.R_far (p := ⟨g_0, 2, none⟩) (Kd.R_far (p := ⟨g_0, 1, none⟩) (Kd.R_far (p := ⟨g_0, 0, none⟩) (Kd.R_types (Kd.R_mono HO_1398001.out (fun k_ hk => (⟨hk, hk.2⟩ : _ ∧ k_ ≠ g_0))) B_0.out (by decide)) (fun _ hk => hk.1.2) (.int .i64 t_5)) (fun _ hk => hk.1.2) (.int .i64 t_9)) (fun _ hk => hk.1.2) (.int .i64 t_6)) (fun _ hk => hk.1.2) (.int .i64 t_a)) (fun _ hk => hk.1.2) (.int .i64 t_1)) (fun _ hk => hk.1.2) (.bool t_8)) (fun _ hk => hk.1.2) (.int .i64 t_3)) (fun _ hk => hk.1.2) (.int .i64 t_c)) (fun _ hk => hk.1.2) (.int .i64 t_b)) (fun _ hk => hk.1.2) (.int .i64 t_2)) (fun _ hk => hk.1.2) (.int .i64 t_7)) (fun _ hk => hk.1.2) (.int .i64 t_4)) (fun _ hk => hk.1.2) (.int .i64 t_0)) (fun _ hk => hk.2) (.int .i64 x1398000_2)) (fun _ hk => hk.2) (.slice Ao69 x1398001_2.length co69)) (fun _ hk => trivial), hU HB.out⟩
      ·rw [if_neg c14] at H
       have c14b0 := bqF c14
       have c14b1 := bnT c14
       simp only [Option.some.injEq, Prod.mk.injEq] at H
       obtain ⟨rfl, rfl, rfl, rfl⟩ := H
       obtain ⟨i070, hi070, _, hsz70, _⟩ := info_parts info5
       obtain ⟨A70, hcut70, hA70, hC70⟩ := Y1Q (P := Try.prog) (Value.int .u8) 0 60 5 .i64 Try.underlying60 hi070 hsz70 A1 c1 l1 x8_2 (of_decide_eq_true (by first | (with_reducible assumption) | assumption)) (of_decide_eq_true (by first | (with_reducible assumption) | assumption)) HC1.out
       have HR1398 := Y0.mk (Kd.C_of_reads (h1 := fun _ => rfl) (hA70 _ (Kd.reads_of_C HR1.out)))
       have HC1398 := Y0.mk hC70
       clear hA70 hC70 hi070 hsz70
       go_wp2_with (first | ((with_reducible refine Y8 (f := 88) rfl ?_); refine Y1C (some 27) rfl rfl Try.func88 (by kernel_rfl) rfl #[.slice A70 (l1.drop (x8_2 : Int).toNat).length (c1 - x8_2.toNat)] rfl (by (try simp only [List.map_toArray, List.map_cons, List.map_nil]); first | done | (rw [show (l1.drop (x8_2 : Int).toNat).length = (l1.length - x8_2.toNat) from List.length_drop] <;> rfl) | rfl | (simp only [List.length_drop, List.length_take]; rfl)) ?_; (with_reducible refine (Ym.calls k2 _ _ (l1.drop (x8_2 : Int).toNat) t_d t_h t_g _ ?side1 ?side2 A13.out).mono ?_); (case side1 => repeat (first | exact (Kd.C_below HR1398.out HB.out) | (with_reducible refine Kd.C_alloc ?_ _) | (with_reducible refine Kd.C_drewN ?_ _) | (with_reducible refine Kd.C_drew ?_))); (case side2 => exact HC1398.out); rintro e w71 ⟨v_0, rfl, ho0, hb⟩; refine ⟨_, rfl, ?_⟩; replace HO_1398001 := Y0.mk (Kd.R_below (Kd.rU HO_1398001.out) hb); replace O_0 := Y0.mk (Kd.R_lower ho0 (Yi (hU HB.out))); replace B_0 := Y0.mk (Y6 (bU B_0.out) hb); replace B_1 := Y0.mk (Y6 (bU B_1.out) hb); replace HB := Y0.mk (Y4 (hU HB.out) hb); (try clear hb); (try clear hb2); (try clear hk); (try clear hi); (try clear ho0); have hnb72 := N_5.out; have hnc72 := N_0.out; have z_7 := Y1 B_1.out; have f_h := Y3 B_1.out; have z_4 := Y1 B_0.out; have f_3 := Y3 B_0.out; obtain ⟨Ao75, co75, eo75⟩ := Kd.R_slice HO_1398001.out; subst eo75))
       refine bodyPost_ret (Y1y rfl _ _ g_1 24 #[.int .i64 x1398000_2, .slice Ao75 x1398001_2.length co75] (0, 0) _ rfl (by (with_reducible repeat (first | refine Yh ?_ _ | refine Yd ?_ | refine Yc ?_ _)); refine Yw (cs := #[.int .i64 x1398000_2, .slice none 0 0]) ?_ 1 _ rfl; (with_reducible repeat (first | refine Yh ?_ _ | refine Yd ?_ | refine Yc ?_ _)); refine Yw (cs := #[.int .i64 x1397000_2, .slice none 0 0]) ?_ 0 _ rfl; (with_reducible repeat (first | refine Yh ?_ _ | refine Yd ?_ | refine Yc ?_ _)); exact B_0.out) Try.underlying24 rfl (by kernel_rfl)) rfl ?_
       exact ⟨_, reT, by (with_reducible repeat (first | apply Kd.R_alloc | apply Kd.R_drewN | apply Kd.R_drew)); exact Kd.R_mono (Kd.R_far (p := ⟨g_1, 1, none⟩) (Kd.R_far (p := ⟨g_1, 0, none⟩) (Kd.R_types HO_1398001.out B_0.out (by decide)) (fun _ hk => hk.2) (.int .i64 x1398000_2)) (fun _ hk => hk.2) (.slice Ao75 x1398001_2.length co75)) (fun _ hk => trivial), hU HB.out⟩
end Go.Proofs.Yteopkkoblbmggaa.P
end
