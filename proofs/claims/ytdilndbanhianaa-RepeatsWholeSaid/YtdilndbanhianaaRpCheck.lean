/- repeats.Check: what its call returns; no condition. -/
import Derived.Test.YtdilndbanhianaaVReg
import Derived.Test.YtdilndbanhianaaRpPerfd
import Derived.Test.YtdilndbanhianaaRepsP
import Derived.Test.YtdilndbanhianaaVMC
set_option linter.unusedVariables false
set_option linter.unusedSimpArgs false
namespace Go.Proofs.Ytdilndbanhianaa.P
open Go.RowKit Go.Proofs.YtdilndbanhianaaW.PrintWords Go.Proofs.YtdilndbanhianaaW.PrintLast Go.Proofs.YtdilndbanhianaaW.PrintMore
/-- What Check says. -/
def rCheckP (l : List S29) (n : Int) (r : List S61) : Int :=
  if ¬ chkS l n = 0 then chkS l n
  else if 16 < r.length then 3
  else if r.any (badR n) = true then 1
  else if ordK r (r.length - 1) = true then 5
  else if r.any (badC26 l) = true then 17
  else if 8192 < perfP n r then 1
  else if 256 < symsP l n r then 3 else 0
def repeats_Check.f (l0 : List S29) (a1 : Int) (l2 : List S61) : Option Int := some (rCheckP l0 a1 l2)
/-- What is older than two blocks stays as it was. -/
def Bel2 (a b : Nat) (w W : World) : Prop := ∀ B, B ≤ a → B ≤ b → B ≤ w.heap.size → Below B w W
theorem Bel2.then_ {a b : Nat} {w W W' : World} (h : Bel2 a b w W) (hz : w.heap.size ≤ W.heap.size) (k : Below W.heap.size W W') : Bel2 a b w W' := fun B h1 h2 h3 => (h B h1 h2 h3).trans (k.mono (Nat.le_trans h3 hz))
set_option maxHeartbeats 4000000 in
set_option maxRecDepth 100000 in
theorem check_closure (Bt By Bl : Nat) (hty : Bt ≠ By) (htl : Bt ≠ Bl) (hyl : By ≠ Bl) (A0 : Option Addr) (c0 : Nat) (l0 : List S29) (tk sy : Int) (x : S45 × Int) (w : World) (hlen : l0.length ≤ 256) (hc0 : l0.length ≤ c0)
    (hrC : ∀ W', Bel2 Bt By w W' → Kd.C k29 W' A0 l0.length l0)
    (ht : w.heap[Bt]? = some (.cells #[.int .i64 tk] 3 (0, 0))) (hy : w.heap[By]? = some (.cells #[.int .i64 sy] 3 (0, 0))) (hl : w.heap[Bl]? = some (.cells #[.slice A0 l0.length c0] 22 (0, 0))) :
    Calls Try.prog 72 (#[.agg #[.int .i64 x.1.f0, .int .i64 x.1.f1], .int .i64 x.2] ++ #[.pointer (some ⟨Bt, 0, none⟩), .pointer (some ⟨By, 0, none⟩), .pointer (some ⟨Bl, 0, none⟩)]) w fun e W' => e = .returned (.tuple #[]) ∧
      W'.heap[Bt]? = some (.cells #[.int .i64 (tickS tk x)] 3 (0, 0)) ∧ W'.heap[By]? = some (.cells #[.int .i64 (symS l0 sy x)] 3 (0, 0)) ∧ Bel2 Bt By w W' ∧ Kept w W' (fun k => k = Bt ∨ k = By) := by
  obtain ⟨k, hk⟩ := (within_eq l0 x.1 (by omega)).rounds
  have HW := Aside0.mk hk
  obtain ⟨nt, hnt⟩ : ∃ nt, tickS tk x = nt := ⟨_, rfl⟩
  have HNT := Aside0.mk hnt
  have hnt' : wrap64 (tk + wrap64 (wrap64 (x.1.f1 - x.1.f0) * x.2)) = nt := hnt
  have hbt : w.heap.size ≠ Bt := fun h => by have := blk_lt ht; omega
  have hb1 : ((w.alloc (.cells #[.int .i64 x.1.f0, .int .i64 x.1.f1] 45)).setCell ⟨Bt, 0, none⟩ (.int .i64 nt)).heap[w.heap.size]? = some (.cells #[.int .i64 x.1.f0, .int .i64 x.1.f1] 45 (0, 0)) := blk_far (blk_new _ _) hbt _
  have hb2 : ((w.alloc (.cells #[.int .i64 x.1.f0, .int .i64 x.1.f1] 45)).setCell ⟨Bt, 0, none⟩ (.int .i64 nt)).heap[Bt]? = some (.cells #[.int .i64 nt] 3 (0, 0)) := blk_put (blk_alloc ht _) 0 _ rfl
  have hb3 : ((w.alloc (.cells #[.int .i64 x.1.f0, .int .i64 x.1.f1] 45)).setCell ⟨Bt, 0, none⟩ (.int .i64 nt)).heap[By]? = some (.cells #[.int .i64 sy] 3 (0, 0)) := blk_far (blk_alloc hy _) hty.symm _
  have hb4 : ((w.alloc (.cells #[.int .i64 x.1.f0, .int .i64 x.1.f1] 45)).setCell ⟨Bt, 0, none⟩ (.int .i64 nt)).heap[Bl]? = some (.cells #[.slice A0 l0.length c0] 22 (0, 0)) := blk_far (blk_alloc hl _) htl.symm _
  have hbe : Bel2 Bt By w ((w.alloc (.cells #[.int .i64 x.1.f0, .int .i64 x.1.f1] 45)).setCell ⟨Bt, 0, none⟩ (.int .i64 nt)) := fun B h1 h2 h3 => ((Below.refl B w).alloc h3 _).setCell (p := ⟨Bt, 0, none⟩) h1 _
  have hke : Kept w ((w.alloc (.cells #[.int .i64 x.1.f0, .int .i64 x.1.f1] 45)).setCell ⟨Bt, 0, none⟩ (.int .i64 nt)) (fun k => k = Bt ∨ k = By) := ((Kept.refl w (fun k => k = Bt ∨ k = By)).alloc _).setCell (p := ⟨Bt, 0, none⟩) (.inl (.inl rfl)) _
  have hxt := blk_cell (blk_alloc ht (.cells #[.int .i64 x.1.f0, .int .i64 x.1.f1] 45))
  have hft := blk_frozen (blk_alloc ht (.cells #[.int .i64 x.1.f0, .int .i64 x.1.f1] 45))
  have hx5 := blk_cell (blk_new w (.cells #[.int .i64 x.1.f0, .int .i64 x.1.f1] 45))
  have HNE : Aside0 (w.heap.size ≠ By) := ⟨fun h => by have := blk_lt hy; omega⟩
  have HTY := Aside0.mk hty
  have HRC := Aside0.mk hrC
  have HC := Aside0.mk hc0
  have B1 := Aside0.mk hb1
  have B2 := Aside0.mk hb2
  have B3 := Aside0.mk hb3
  have B4 := Aside0.mk hb4
  have HBE := Aside0.mk hbe
  have HKE := Aside0.mk hke
  clear hk hnt hb1 hb2 hb3 hb4 hbe hke ht hy hl hrC hlen hc0 hty htl hyl
  go_enter Try.func72, Try.ntmps72
  go_upto_region 2 with (fail)
  clear hnt' hxt hft hx5 hbt
  generalize ((w.alloc (.cells #[.int .i64 x.1.f0, .int .i64 x.1.f1] 45)).setCell ⟨Bt, 0, none⟩ (.int .i64 nt)) = W1 at B1 B2 B3 B4 HBE HKE ⊢
  generalize w.heap.size = g5 at B1 HNE ⊢
  refine start_ (n := 9) (S := fun w' => w'.cell? ⟨By, 0, none⟩ = some (.int .i64 sy) ∧ w'.cell? ⟨Bl, 0, none⟩ = some (.slice A0 l0.length c0) ∧ w'.cell? ⟨g5, 0, none⟩ = some (.int .i64 x.1.f0) ∧ w'.cell? ⟨g5, 1, none⟩ = some (.int .i64 x.1.f1)) (ds := [8]) (bs 9 0) rfl rfl (by kernel_rfl) ⟨(blk_cell (blk_drew B3.out) 0).trans rfl, (blk_cell (blk_drew B4.out) 0).trans rfl, (blk_cell (blk_drew B1.out) 0).trans rfl, (blk_cell (blk_drew B1.out) 1).trans rfl⟩ (fun hHeld => ?_)
  refine tkA 0 16 (bs 9 1) hHeld ?_
  refine tkA 1 17 (bs 9 3) hHeld ?_
  refine tkA 2 18 (bs 9 7) hHeld ?_
  refine puA 5 21 (bs 9 39) ?_
  have hz1 : w.heap.size ≤ W1.heap.size := HKE.out.1
  have hCw : Kd.C k29 W1.drew A0 l0.length l0 := Kd.C_drew (HRC.out _ HBE.out)
  refine one_ (i := 3) (N := some 19) (bs 9 47) rfl rfl (by kernel_rfl) (by decide) (fun K hK => ?_)
  refine goes_ Try.func73 (by kernel_rfl) rfl #[.slice A0 l0.length c0, .agg #[.int .i64 x.1.f0, .int .i64 x.1.f1]] (by rfl) rfl rfl (by (try simp only [List.map_toArray, List.map_cons, List.map_nil]); first | done | rfl) ?_
  refine (repeats_within.calls k _ c0 l0 x.1.f0 x.1.f1 _ _ hCw HC.out HW.out).mono ?_
  rintro e w5 ⟨v0, rfl, hr5, hb⟩
  obtain ⟨A5, c5, rfl⟩ := Kd.R_slice hr5
  refine ⟨_, rfl, ?_⟩
  have B15 := Aside0.mk (blk_below (blk_drew B1.out) hb)
  have B25 := Aside0.mk (blk_below (blk_drew B2.out) hb)
  have B35 := Aside0.mk (blk_below (blk_drew B3.out) hb)
  have B45 := Aside0.mk (blk_below (blk_drew B4.out) hb)
  have hb5 : Below W1.heap.size W1 w5 := (below_drew1 (Below.refl _ W1)).trans hb
  have HBE5 := Aside0.mk (HBE.out.then_ hz1 hb5)
  have HKE5 := Aside0.mk (HKE.out.below hb5)
  clear hr5 hb hb5 hCw hz1 hHeld B1 B2 B3 B4 HBE HKE
  refine hK.out _ _ ⟨(blk_cell B35.out 0).trans rfl, (blk_cell B45.out 0).trans rfl, (blk_cell B15.out 0).trans rfl, (blk_cell B15.out 1).trans rfl⟩ (fun hHeld => ?_)
  clear hK K
  refine nmA 19 ?_
  refine puA 4 20 (bs 9 63) ?_
  refine puA 6 22 (bs 9 127) ?_
  refine puA 7 23 (bs 9 255) ?_
  have hcy := (blk_cell B35.out 0).trans rfl
  have hfy := blk_frozen B35.out 0
  refine last_ (i := 8) (N := none) (bs 9 511) rfl rfl (by kernel_rfl) (by decide) (fun K hK => ?_)
  rw [if_pos (by rfl)]
  go_wp2
  refine hK.out _ _ ?_
  refine done_ (by kernel_rfl) ?_
  clear hK K hHeld
  go_wp2
  go_end0
  refine ⟨rfl, ?_, blk_put B35.out 0 _ rfl, fun B h1 h2 h3 => (HBE5.out B h1 h2 h3).setCell (p := ⟨By, 0, none⟩) h2 _, HKE5.out.setCell (p := ⟨By, 0, none⟩) (.inl (.inr rfl)) _⟩
  rw [HNT.out]; exact blk_far B25.out HTY.out _
set_option maxHeartbeats 4000000 in
set_option maxRecDepth 100000 in
theorem repeats_Check.calls (A0 : Option Addr) (c0 : Nat) (l0 : List S29) (a1 : Int) (A2 : Option Addr) (c2 : Nat) (l2 : List S61) (r : Int) (w : World) (hr0 : Kd.C k29 w A0 l0.length l0) (hc0 : l0.length ≤ c0) (hr2 : Kd.C k61 w A2 l2.length l2) (hc2 : l2.length ≤ c2) (h : repeats_Check.f l0 a1 l2 = some r) :
    Calls Try.prog 40 #[.slice A0 l0.length c0, .int .i64 a1, .slice A2 l2.length c2] w fun e w' => e = .returned (.int .i64 r) ∧ Below w.heap.size w w' := by
  have hu45 := Try.underlying45
  have hu61 := Try.underlying61
  have H1 := Option.some.inj h
  have HR := Aside0.mk hr0
  have HC := Aside0.mk hc0
  have HR2 := Aside0.mk hr2
  have HC2 := Aside0.mk hc2
  clear h hr0 hc0 hr2 hc2
  obtain ⟨ce, hce⟩ : ∃ ce, chkS l0 a1 = ce := ⟨_, rfl⟩
  have HQ : Aside0 (staff_Check.f l0 a1 = some ce) := ⟨congrArg some hce⟩
  unfold rCheckP at H1
  rw [hce] at H1
  go_enter Try.func40, Try.ntmps40
  go_upto_region 1 with (fail)
  have hb0 : Below w.heap.size w (w.alloc (.cells #[.slice A0 l0.length c0] 22)) := below_alloc (Below.refl _ _) _
  have hb3 : (w.alloc (.cells #[.slice A0 l0.length c0] 22)).heap[w.heap.size]? = some (.cells #[.slice A0 l0.length c0] 22 (0, 0)) := blk_new _ _
  generalize (w.alloc (.cells #[.slice A0 l0.length c0] 22)) = W0 at hb0 hb3 ⊢
  obtain ⟨g3, hg3⟩ : ∃ g, w.heap.size = g := ⟨_, rfl⟩
  have B3 : Aside0 (W0.heap[g3]? = some (.cells #[.slice A0 l0.length c0] 22 (0, 0))) := ⟨by rw [← hg3]; exact hb3⟩
  have GE3 : Aside0 (w.heap.size ≤ g3) := ⟨by omega⟩
  have hptr : Value.pointer (some { block := w.heap.size, off := 0 }) = Value.pointer (some { block := g3, off := 0 }) := by rw [hg3]
  rw [hptr]
  have HB := Aside0.mk hb0
  clear hptr hg3 hb3 hb0
  have hc3 := blk_cell B3.out
  by_cases h1 : ce = 0
  · subst h1
    rw [if_neg (by decide)] at H1
    have HL := Aside0.mk (tak_len _ _ hce)
    clear hce
    by_cases h2 : 16 < l2.length
    · rw [if_pos h2] at H1
      have d2 : decide (16 < l2.length) = true := decide_eq_true h2
      have d2' : decide ((16 : Int) < (l2.length : Int)) = true := decide_eq_true (by omega)
      subst H1
      clear h2
      go_wp2_with (first | (go_at_call 20; refine (staff_Check.calls _ c0 l0 a1 _ _ (Kd.C_below HR.out HB.out) HC.out HQ.out).mono ?_; rintro e W1 ⟨rfl, hb⟩; have HB1 := Aside0.mk (below_step HB.out hb); have B31 := Aside0.mk (blk_below B3.out hb); have hc3 := blk_cell B31.out; clear hb))
      go_ret
      exact ⟨rfl, HB1.out⟩
    · rw [if_neg h2] at H1
      have d2 : decide (16 < l2.length) = false := decide_eq_false h2
      have d2' : decide ((16 : Int) < (l2.length : Int)) = false := decide_eq_false (by omega)
      have HN : Aside0 (l2.length ≤ 16) := ⟨by omega⟩
      have H2 := Aside0.mk H1
      clear H1 h2
      go_upto_region 6 with (first | (go_at_call 20; refine (staff_Check.calls _ c0 l0 a1 _ _ (Kd.C_below HR.out HB.out) HC.out HQ.out).mono ?_; rintro e W1 ⟨rfl, hb⟩; have HB1 := Aside0.mk (below_step HB.out hb); have B31 := Aside0.mk (blk_below B3.out hb); have hc3 := blk_cell B31.out; clear hb))
      clear hc3 d2 d2' HB B3
      go_wp2
      go_loopg [26] l2.length (fun kq v26 W => ∃ (i : Nat), v26 = .int .i64 (i : Int) ∧ Aside0 (i + kq = l2.length) ∧ Aside0 ((l2.take i).any (badR a1) = false) ∧ Aside0 (W.heap[g3]? = some (.cells #[.slice A0 l0.length c0] 22 (0, 0))) ∧ Aside0 (Below w.heap.size w W))
      case atStart => exact ⟨0, rfl, ⟨by omega⟩, ⟨rfl⟩, B31, HB1⟩
      case round =>
        clear HB1 B31
        obtain ⟨i, rfl, HK, HA, B3, HB⟩ := hrel
        cases gk with
        | succ k1 =>
          have hi : i < l2.length := by have := HK.out; omega
          have hlt : decide (i < l2.length) = true := by simp; exact hi
          obtain ⟨ad, e0, hx0, hx1, hx2⟩ := at_T61 HR2.out (i : Int) (by omega) (by omega)
          cases e0
          rw [Int.toNat_natCast] at hx0 hx1 hx2
          rw [rd61_at hi] at hx0 hx1 hx2
          replace hx0 := (HB.out.cell (World.block_lt_of_cell? w _ hx0)).trans hx0
          replace hx1 := (HB.out.cell (World.block_lt_of_cell? w _ hx1)).trans hx1
          replace hx2 := (HB.out.cell (World.block_lt_of_cell? w _ hx2)).trans hx2
          have q0 : (0 ≤ ((i : Nat) : Int)) = True := by simp
          have q1 : (((i : Nat) : Int) < (l2.length : Int)) = True := by simp; exact hi
          have hnb : badR a1 l2[i] = false → (l2.take (i + 1)).any (badR a1) = false := by
            intro hh
            rw [List.take_add_one, List.getElem?_eq_getElem hi, List.any_append, HA.out]
            simp [hh]
          have hbd : badR a1 l2[i] = true → 1 = r := by
            intro hh
            have h2 := H2.out
            rwa [if_pos (List.any_eq_true.mpr ⟨_, List.getElem_mem hi, hh⟩)] at h2
          have HNB := Aside0.mk hnb
          have HBAD := Aside0.mk hbd
          have HI := Aside0.mk hi
          clear hnb hbd
          generalize l2[i]'hi = x at hx0 hx1 hx2 HNB HBAD
          clear hi
          go_upto_region 9 with (fail)
          have HB1 : Aside0 (Below w.heap.size w (wr.alloc (.cells #[.int .i64 x.f0.f0, .int .i64 x.f0.f1, .int .i64 x.f1] 61))) := ⟨below_alloc HB.out _⟩
          have B31 : Aside0 ((wr.alloc (.cells #[.int .i64 x.f0.f0, .int .i64 x.f0.f1, .int .i64 x.f1] 61)).heap[g3]? = some (.cells #[.slice A0 l0.length c0] 22 (0, 0))) := ⟨blk_alloc B3.out _⟩
          have B9 : Aside0 ((wr.alloc (.cells #[.int .i64 x.f0.f0, .int .i64 x.f0.f1, .int .i64 x.f1] 61)).heap[wr.heap.size]? = some (.cells #[.int .i64 x.f0.f0, .int .i64 x.f0.f1, .int .i64 x.f1] 61 (0, 0))) := ⟨blk_new _ _⟩
          clear hx0 hx1 hx2 hlt q0 q1 HB B3
          generalize (wr.alloc (.cells #[.int .i64 x.f0.f0, .int .i64 x.f0.f1, .int .i64 x.f1] 61)) = W1 at HB1 B31 B9 ⊢
          generalize wr.heap.size = g9 at B9 ⊢
          have hc9 := blk_cell B9.out
          clear B9
          by_cases p1 : x.f0.f0 < 0
          · have d1 : decide (x.f0.f0 < 0) = true := decide_eq_true p1
            have hr := HBAD.out (by simp [badR, p1])
            subst hr
            clear p1
            go_wp2
            go_ret
            exact ⟨rfl, HB1.out⟩
          · have d1 : decide (x.f0.f0 < 0) = false := decide_eq_false p1
            by_cases p2 : x.f0.f1 ≤ x.f0.f0
            · have d2 : decide (x.f0.f1 ≤ x.f0.f0) = true := decide_eq_true p2
              have hr := HBAD.out (by simp [badR, p2])
              subst hr
              clear p1 p2
              go_wp2
              go_ret
              exact ⟨rfl, HB1.out⟩
            · have d2 : decide (x.f0.f1 ≤ x.f0.f0) = false := decide_eq_false p2
              by_cases p3 : a1 < x.f0.f1
              · have d3 : decide (a1 < x.f0.f1) = true := decide_eq_true p3
                have hr := HBAD.out (by simp [badR, p3])
                subst hr
                clear p1 p2 p3
                go_wp2
                go_ret
                exact ⟨rfl, HB1.out⟩
              · have d3 : decide (a1 < x.f0.f1) = false := decide_eq_false p3
                by_cases p4 : x.f1 < 2
                · have d4 : decide (x.f1 < 2) = true := decide_eq_true p4
                  have hr := HBAD.out (by simp [badR, p4])
                  subst hr
                  clear p1 p2 p3 p4
                  go_wp2
                  go_ret
                  exact ⟨rfl, HB1.out⟩
                · have d4 : decide (x.f1 < 2) = false := decide_eq_false p4
                  by_cases p5 : 16 < x.f1
                  · have d5 : decide (16 < x.f1) = true := decide_eq_true p5
                    have hr := HBAD.out (by simp [badR, p5])
                    subst hr
                    clear p1 p2 p3 p4 p5
                    go_wp2
                    go_ret
                    exact ⟨rfl, HB1.out⟩
                  · have d5 : decide (16 < x.f1) = false := decide_eq_false p5
                    have HANY := Aside0.mk (HNB.out (by simp only [badR, d1, d2, d3, d4, d5]; rfl))
                    clear p1 p2 p3 p4 p5
                    go_wp2
                    go_roundg k1
                    case measure => have := HK.out; omega
                    case rel => exact ⟨i + 1, (by first | (simp; done) | (simp; have := HI.out; have := HN.out; unfold wrap64; omega)), ⟨by have := HK.out; omega⟩, HANY, B31, HB1⟩
        | zero =>
          have hi : i = l2.length := by have := HK.out; omega
          have hlt : decide (i < l2.length) = false := by simp; omega
          have ha := HA.out
          rw [hi, List.take_length] at ha
          have H3 : Aside0 ((if ordK l2 (l2.length - 1) = true then 5 else if l2.any (badC26 l0) = true then 17 else if 8192 < perfP a1 l2 then 1 else if 256 < symsP l0 a1 l2 then 3 else 0) = r) := ⟨by have := H2.out; rwa [ha, if_neg (by decide)] at this⟩
          clear hi ha HA HK H2
          go_upto_region 12 with (fail)
          clear hlt
          go_wp2
          go_loopg [10] l2.length (fun kq v10 W => ∃ (j : Nat), v10 = .int .i64 ((j + 1 : Nat) : Int) ∧ Aside0 (j + kq = l2.length ∧ (j = 0 ∨ j + 1 ≤ l2.length)) ∧ Aside0 (ordK l2 j = false) ∧ Aside0 (W.heap[g3]? = some (.cells #[.slice A0 l0.length c0] 22 (0, 0))) ∧ Aside0 (Below w.heap.size w W))
          case atStart => exact ⟨0, rfl, ⟨by omega, .inl rfl⟩, ⟨rfl⟩, B3, HB⟩
          case round =>
            clear HB B3
            obtain ⟨j, rfl, HK, HA, B3, HB⟩ := hrel
            by_cases hj : j + 1 < l2.length
            · obtain ⟨k1, rfl⟩ : ∃ k1, gk = k1 + 1 := ⟨gk - 1, by have := HK.out; omega⟩
              have hj0 : j < l2.length := by omega
              have hlt : decide (j + 1 < l2.length) = true := decide_eq_true hj
              have hlt' : decide ((((j + 1 : Nat) : Int)) < (l2.length : Int)) = true := decide_eq_true (by omega)
              have hstep := ordK_step l2 j hj
              rw [HA.out, Bool.false_or] at hstep
              obtain ⟨ad, e0, hx0, hx1, hx2⟩ := at_T61 HR2.out ((j + 1 : Nat) : Int) (by omega) (by omega)
              obtain ⟨ad', e0', hy0, hy1, hy2⟩ := at_T61 HR2.out (j : Int) (by omega) (by omega)
              cases e0
              obtain rfl : ad = ad' := by injection e0'
              clear e0' hx1 hx2 hy0 hy2
              rw [rd61_at hj] at hx0
              rw [rd61_at hj0] at hy1
              replace hx0 := (HB.out.cell (World.block_lt_of_cell? w _ hx0)).trans hx0
              replace hy1 := (HB.out.cell (World.block_lt_of_cell? w _ hy1)).trans hy1
              obtain ⟨J, hJ⟩ : ∃ J : Int, ((j + 1 : Nat) : Int) = J := ⟨_, rfl⟩
              obtain ⟨I, hI⟩ : ∃ I : Int, (j : Int) = I := ⟨_, rfl⟩
              have hw1 : wrap64 (J - 1) = I := by rw [← hJ, ← hI]; have := HN.out; unfold wrap64; omega
              have q0 : (0 ≤ J) = True := eq_true (by omega)
              have q1 : (J < (l2.length : Int)) = True := eq_true (by omega)
              have q2 : (0 ≤ I) = True := eq_true (by omega)
              have q3 : (I < (l2.length : Int)) = True := eq_true (by omega)
              rw [hJ] at hx0 hlt' ⊢
              rw [hI] at hy1
              obtain ⟨f, hf⟩ : ∃ f, l2[j + 1].f0.f0 = f := ⟨_, rfl⟩
              obtain ⟨t, ht⟩ : ∃ t, l2[j].f0.f1 = t := ⟨_, rfl⟩
              rw [hf] at hx0
              rw [ht] at hy1
              rw [hf, ht] at hstep
              have HSTEP := Aside0.mk hstep
              have HJ := Aside0.mk hJ
              have HJJ := Aside0.mk hj
              clear hstep hJ hI hf ht hj hj0
              go_upto_region 15 with (fail)
              clear hlt hlt'
              have HB1 := Aside0.mk (below_drew1 HB.out)
              have B31 := Aside0.mk (blk_drew B3.out)
              refine start_ (n := 14) (S := fun w' => w'.cell? (ad.add (J.toNat * 3)) = some (.int .i64 f) ∧ w'.cell? ⟨(ad.add (I.toNat * 3)).block, (ad.add (I.toNat * 3)).off + 1, none⟩ = some (.int .i64 t)) (ds := []) (bs 14 0) rfl rfl (by kernel_rfl) ⟨hx0, hy1⟩ (fun hHeld => ?_)
              clear hx0 hy1 HB B3
              generalize wr.drew = W1 at HB1 B31 hHeld ⊢
              refine puA 0 67 (bs 14 1) ?_
              refine puA 1 68 (bs 14 3) ?_
              refine puA 2 69 (bs 14 7) ?_
              refine puA 3 70 (bs 14 15) ?_
              refine puA 4 71 (bs 14 31) ?_
              refine tkA 5 72 (bs 14 63) hHeld ?_
              refine puA 6 73 (bs 14 127) ?_
              refine puA 7 74 (bs 14 255) ?_
              refine puA 8 75 (bs 14 511) ?_
              refine puA 9 76 (bs 14 1023) ?_
              refine puA 10 77 (bs 14 2047) ?_
              refine puA 11 78 (bs 14 4095) ?_
              refine tkA 12 79 (bs 14 8191) hHeld ?_
              refine puA 13 80 (bs 14 16383) ?_
              refine done_ (by kernel_rfl) ?_
              clear hHeld hw1 q0 q1 q2 q3
              by_cases p : f < t
              · have d : decide (f < t) = true := decide_eq_true p
                have hbad : ordK l2 (l2.length - 1) = true := ordK_mono l2 (j + 1) _ (by have := HJJ.out; omega) (HSTEP.out.trans d)
                have hr := H3.out
                rw [if_pos hbad] at hr
                subst hr
                rw [d]
                clear hbad p
                go_wp2
                go_ret
                exact ⟨rfl, HB1.out⟩
              · have d : decide (f < t) = false := decide_eq_false p
                have HA2 := Aside0.mk (HSTEP.out.trans d)
                have hwj : wrap64 (J + 1) = ((j + 1 + 1 : Nat) : Int) := by rw [← HJ.out]; have := HJJ.out; have := HN.out; unfold wrap64; omega
                have HWJ := Aside0.mk hwj
                rw [d]
                clear p hwj
                go_wp2
                go_roundg k1
                case measure => have := HK.out; omega
                case rel => exact ⟨j + 1, by rw [HWJ.out], ⟨by have := HK.out; have := HJJ.out; omega⟩, HA2, B31, HB1⟩
            · have hlt : decide (j + 1 < l2.length) = false := decide_eq_false hj
              have hlt' : decide ((((j + 1 : Nat) : Int)) < (l2.length : Int)) = false := decide_eq_false (by omega)
              have ho : ordK l2 (l2.length - 1) = false := by
                have : l2.length - 1 = j := by have := HK.out; omega
                rw [this]; exact HA.out
              have H4 : Aside0 ((if l2.any (badC26 l0) = true then 17 else if 8192 < perfP a1 l2 then 1 else if 256 < symsP l0 a1 l2 then 3 else 0) = r) := ⟨by have := H3.out; rwa [ho, if_neg (by decide)] at this⟩
              have HCUT : Aside0 (∀ t, ∃ k, repeats_cuttable.f k l0 t = some (cutB l0 t)) := ⟨fun t => (cuttable_eq l0 t (by have := HL.out; omega)).rounds⟩
              obtain ⟨J, hJ⟩ : ∃ J : Int, ((j + 1 : Nat) : Int) = J := ⟨_, rfl⟩
              rw [hJ] at hlt' ⊢
              clear ho hj HA HK H3 hJ hlt
              go_upto_region 17 with (fail)
              clear hlt'
              go_wp2
              go_loopg [83] l2.length (fun kq v83 W => ∃ (i : Nat), v83 = .int .i64 (i : Int) ∧ Aside0 (i + kq = l2.length) ∧ Aside0 ((l2.take i).any (badC26 l0) = false) ∧ Aside0 (W.heap[g3]? = some (.cells #[.slice A0 l0.length c0] 22 (0, 0))) ∧ Aside0 (Below w.heap.size w W))
              case atStart => exact ⟨0, rfl, ⟨by omega⟩, ⟨rfl⟩, B3, HB⟩
              case round =>
                clear HB B3
                obtain ⟨i, rfl, HK, HA, B3, HB⟩ := hrel
                cases gk with
                | succ k1 =>
                  have hi : i < l2.length := by have := HK.out; omega
                  have hlt : decide (i < l2.length) = true := by simp; exact hi
                  obtain ⟨ad, e0, hx0, hx1, hx2⟩ := at_T61 HR2.out (i : Int) (by omega) (by omega)
                  cases e0
                  rw [Int.toNat_natCast] at hx0 hx1 hx2
                  rw [rd61_at hi] at hx0 hx1 hx2
                  replace hx0 := (HB.out.cell (World.block_lt_of_cell? w _ hx0)).trans hx0
                  replace hx1 := (HB.out.cell (World.block_lt_of_cell? w _ hx1)).trans hx1
                  replace hx2 := (HB.out.cell (World.block_lt_of_cell? w _ hx2)).trans hx2
                  have q0 : (0 ≤ ((i : Nat) : Int)) = True := by simp
                  have q1 : (((i : Nat) : Int) < (l2.length : Int)) = True := by simp; exact hi
                  have hnb : badC26 l0 l2[i] = false → (l2.take (i + 1)).any (badC26 l0) = false := by
                    intro hh
                    rw [List.take_add_one, List.getElem?_eq_getElem hi, List.any_append, HA.out]
                    simp [hh]
                  have hbd : badC26 l0 l2[i] = true → 17 = r := by
                    intro hh
                    have h2 := H4.out
                    rwa [if_pos (List.any_eq_true.mpr ⟨_, List.getElem_mem hi, hh⟩)] at h2
                  have HNB := Aside0.mk hnb
                  have HBAD := Aside0.mk hbd
                  have HI := Aside0.mk hi
                  clear hnb hbd
                  generalize l2[i]'hi = x at hx0 hx1 hx2 HNB HBAD
                  clear hi
                  go_upto_region 20 with (fail)
                  have HB1 : Aside0 (Below w.heap.size w (wr.alloc (.cells #[.int .i64 x.f0.f0, .int .i64 x.f0.f1, .int .i64 x.f1] 61))) := ⟨below_alloc HB.out _⟩
                  have B31 : Aside0 ((wr.alloc (.cells #[.int .i64 x.f0.f0, .int .i64 x.f0.f1, .int .i64 x.f1] 61)).heap[g3]? = some (.cells #[.slice A0 l0.length c0] 22 (0, 0))) := ⟨blk_alloc B3.out _⟩
                  have B9 : Aside0 ((wr.alloc (.cells #[.int .i64 x.f0.f0, .int .i64 x.f0.f1, .int .i64 x.f1] 61)).heap[wr.heap.size]? = some (.cells #[.int .i64 x.f0.f0, .int .i64 x.f0.f1, .int .i64 x.f1] 61 (0, 0))) := ⟨blk_new _ _⟩
                  clear hx0 hx1 hx2 hlt q0 q1 HB B3
                  generalize (wr.alloc (.cells #[.int .i64 x.f0.f0, .int .i64 x.f0.f1, .int .i64 x.f1] 61)) = W1 at HB1 B31 B9 ⊢
                  generalize wr.heap.size = g9 at B9 ⊢
                  have hc9 := blk_cell B9.out
                  have hc3 := blk_cell B31.out
                  obtain ⟨ka, hka⟩ := HCUT.out x.f0.f0
                  obtain ⟨kb, hkb⟩ := HCUT.out x.f0.f1
                  have hbe : badC26 l0 x = (!cutB l0 x.f0.f0 || !cutB l0 x.f0.f1) := rfl
                  rw [hbe] at HNB HBAD
                  clear hbe
                  generalize cutB l0 x.f0.f0 = ca at hka HNB HBAD
                  generalize cutB l0 x.f0.f1 = cb at hkb HNB HBAD
                  have HKA := Aside0.mk hka
                  have HKB := Aside0.mk hkb
                  clear hka hkb
                  cases ca with
                  | false =>
                    have hr := HBAD.out rfl
                    subst hr
                    go_wp2_with (first | (go_at_call 70; refine (repeats_cuttable.calls ka _ c0 l0 x.f0.f0 _ _ (Kd.C_below HR.out HB1.out) HC.out HKA.out).mono ?_; rintro e W2 ⟨rfl, hb⟩; have HB2 := Aside0.mk (below_step HB1.out hb); clear hb))
                    go_ret
                    exact ⟨rfl, HB2.out⟩
                  | true =>
                    cases cb with
                    | false =>
                      have hr := HBAD.out rfl
                      subst hr
                      go_upto_region 21 with (first | (go_at_call 70; (with_reducible refine (repeats_cuttable.calls ka _ c0 l0 x.f0.f0 _ _ (Kd.C_below HR.out HB1.out) HC.out HKA.out).mono ?_); rintro e W2 ⟨rfl, hb⟩; have HB2 := Aside0.mk (below_step HB1.out hb); have B32 := Aside0.mk (blk_below B31.out hb); have B92 := Aside0.mk (blk_below B9.out hb); clear hb B9 hc3 hc9; have hc3 := blk_cell B32.out; have hc9 := blk_cell B92.out) | (go_at_call 70; refine (repeats_cuttable.calls kb _ c0 l0 x.f0.f1 _ _ (Kd.C_below HR.out HB2.out) HC.out HKB.out).mono ?_; rintro e W3 ⟨rfl, hb⟩; have HB3 := Aside0.mk (below_step HB2.out hb); have B33 := Aside0.mk (blk_below B32.out hb); clear hb))
                      go_wp2
                      go_ret
                      exact ⟨rfl, HB3.out⟩
                    | true =>
                      have HANY := Aside0.mk (HNB.out rfl)
                      go_upto_region 22 with (first | (go_at_call 70; (with_reducible refine (repeats_cuttable.calls ka _ c0 l0 x.f0.f0 _ _ (Kd.C_below HR.out HB1.out) HC.out HKA.out).mono ?_); rintro e W2 ⟨rfl, hb⟩; have HB2 := Aside0.mk (below_step HB1.out hb); have B32 := Aside0.mk (blk_below B31.out hb); have B92 := Aside0.mk (blk_below B9.out hb); clear hb B9 hc3 hc9; have hc3 := blk_cell B32.out; have hc9 := blk_cell B92.out) | (go_at_call 70; refine (repeats_cuttable.calls kb _ c0 l0 x.f0.f1 _ _ (Kd.C_below HR.out HB2.out) HC.out HKB.out).mono ?_; rintro e W3 ⟨rfl, hb⟩; have HB3 := Aside0.mk (below_step HB2.out hb); have B33 := Aside0.mk (blk_below B32.out hb); clear hb))
                      clear hc3 hc9
                      go_wp2
                      go_roundg k1
                      case measure => have := HK.out; omega
                      case rel => exact ⟨i + 1, (by first | (simp; done) | (simp; have := HI.out; have := HN.out; unfold wrap64; omega)), ⟨by have := HK.out; omega⟩, HANY, B33, HB3⟩
                | zero =>
                  have hi : i = l2.length := by have := HK.out; omega
                  have hlt : decide (i < l2.length) = false := by simp; omega
                  have ha := HA.out
                  rw [hi, List.take_length] at ha
                  have H5 : Aside0 ((if 8192 < perfP a1 l2 then 1 else if 256 < symsP l0 a1 l2 then 3 else 0) = r) := ⟨by have := H4.out; rwa [ha, if_neg (by decide)] at this⟩
                  clear hi ha HA HK H4 HCUT
                  go_upto_region 24 with (fail)
                  clear hlt
                  have hz1 : (wr.alloc (.cells #[.int .i64 0] 3)).heap.size = wr.heap.size + 1 := by rw [World.size_alloc]
                  have ht : ((wr.alloc (.cells #[.int .i64 0] 3)).alloc (.cells #[.int .i64 0] 3)).heap[wr.heap.size]? = some (.cells #[.int .i64 0] 3 (0, 0)) := blk_alloc (blk_new _ _) _
                  have hy : ((wr.alloc (.cells #[.int .i64 0] 3)).alloc (.cells #[.int .i64 0] 3)).heap[wr.heap.size + 1]? = some (.cells #[.int .i64 0] 3 (0, 0)) := by rw [← hz1]; exact blk_new _ _
                  have hl : ((wr.alloc (.cells #[.int .i64 0] 3)).alloc (.cells #[.int .i64 0] 3)).heap[g3]? = some (.cells #[.slice A0 l0.length c0] 22 (0, 0)) := blk_alloc (blk_alloc B3.out _) _
                  have hb1 : Below w.heap.size w ((wr.alloc (.cells #[.int .i64 0] 3)).alloc (.cells #[.int .i64 0] 3)) := below_alloc (below_alloc HB.out _) _
                  have hle : w.heap.size ≤ wr.heap.size := below_size HB.out
                  have hg3 := blk_lt B3.out
                  clear hz1 HB B3
                  generalize ((wr.alloc (.cells #[.int .i64 0] 3)).alloc (.cells #[.int .i64 0] 3)) = W1 at ht hy hl hb1 ⊢
                  obtain ⟨gt, hgt⟩ : ∃ g, wr.heap.size = g := ⟨_, rfl⟩
                  obtain ⟨gy, hgy⟩ : ∃ g, wr.heap.size + 1 = g := ⟨_, rfl⟩
                  rw [hgt] at ht hle hg3
                  rw [hgy] at hy
                  have hty : gt ≠ gy := by omega
                  have hlt2 : gt < gy := by omega
                  rw [hgy, hgt]
                  clear hgt hgy
                  have eg : ∀ args w, (callFunc 72 args).run Try.prog w = .ok (.enter 72 args) w := enters_of Try.func72 (by kernel_rfl) rfl
                  have hs := sections_walk 72 eg #[.pointer (some ⟨gt, 0, none⟩), .pointer (some ⟨gy, 0, none⟩), .pointer (some ⟨g3, 0, none⟩)] a1 l2 A2 c2 W1 HN.out
                    (fun q W => W.heap[gt]? = some (.cells #[.int .i64 (q.foldl tickS 0)] 3 (0, 0)) ∧ W.heap[gy]? = some (.cells #[.int .i64 (q.foldl (symS l0) 0)] 3 (0, 0)) ∧ W.heap[g3]? = some (.cells #[.slice A0 l0.length c0] 22 (0, 0)) ∧ Below w.heap.size w W) (fun q W k => k = gt ∨ k = gy)
                    (fun q W W' hj hb => ⟨blk_below hj.1 hb, blk_below hj.2.1 hb, blk_below hj.2.2.1 hb, below_step hj.2.2.2 hb⟩) (fun q W hj => Kd.C_below HR2.out hj.2.2.2) (fun q W W' k _ _ h => h) (fun q W k hj h => by rcases h with h | h; rw [h]; exact blk_lt hj.1; rw [h]; exact blk_lt hj.2.1)
                    (fun q x rest W _ hj => (check_closure gt gy g3 hty (by omega) (by omega) A0 c0 l0 _ _ x W HL.out HC.out (fun W' hb => Kd.C_below HR.out (hj.2.2.2.trans (hb w.heap.size hle (by omega) (below_size hj.2.2.2)))) hj.1 hj.2.1 hj.2.2.1).mono (by
                      rintro e W' ⟨rfl, hv, hv2, hb, hk⟩
                      exact ⟨rfl, ⟨by rw [List.foldl_append]; exact hv, by rw [List.foldl_append]; exact hv2, blk_kept hj.2.2.1 hk (by omega), hj.2.2.2.trans (hb w.heap.size hle (by omega) (below_size hj.2.2.2))⟩, hk, fun k h => .inl h⟩))
                    ⟨ht, hy, hl, hb1⟩
                  have HS := Aside0.mk hs
                  have e1 : (secsP a1 l2).foldl tickS 0 = perfP a1 l2 := rfl
                  have e2 : (secsP a1 l2).foldl (symS l0) 0 = symsP l0 a1 l2 := rfl
                  rw [e1, e2] at HS
                  clear hs ht hy hl hb1 hle hg3 hlt2 hty eg e1 e2
                  generalize perfP a1 l2 = pt at HS H5
                  generalize symsP l0 a1 l2 = ps at HS H5
                  by_cases p : 8192 < pt
                  · have d : decide (8192 < pt) = true := decide_eq_true p
                    have hr := H5.out
                    rw [if_pos p] at hr
                    subst hr
                    clear p
                    go_wp2_with (first | (go_at_call 71; refine HS.out.mono ?_; rintro e W9 ⟨rfl, ⟨hv, hv2, hv3, hb⟩, hk⟩; have HB9 := Aside0.mk hb; have hct := (blk_cell hv 0).trans rfl; have hcy := (blk_cell hv2 0).trans rfl; clear hv hv2 hv3 hb hk))
                    go_ret
                    exact ⟨rfl, HB9.out⟩
                  · have d : decide (8192 < pt) = false := decide_eq_false p
                    have hr := H5.out
                    rw [if_neg p] at hr
                    by_cases p' : 256 < ps
                    · have d' : decide (256 < ps) = true := decide_eq_true p'
                      rw [if_pos p'] at hr
                      subst hr
                      clear p p'
                      go_wp2_with (first | (go_at_call 71; refine HS.out.mono ?_; rintro e W9 ⟨rfl, ⟨hv, hv2, hv3, hb⟩, hk⟩; have HB9 := Aside0.mk hb; have hct := (blk_cell hv 0).trans rfl; have hcy := (blk_cell hv2 0).trans rfl; clear hv hv2 hv3 hb hk))
                      go_ret
                      exact ⟨rfl, HB9.out⟩
                    · have d' : decide (256 < ps) = false := decide_eq_false p'
                      rw [if_neg p'] at hr
                      subst hr
                      clear p p'
                      go_wp2_with (first | (go_at_call 71; refine HS.out.mono ?_; rintro e W9 ⟨rfl, ⟨hv, hv2, hv3, hb⟩, hk⟩; have HB9 := Aside0.mk hb; have hct := (blk_cell hv 0).trans rfl; have hcy := (blk_cell hv2 0).trans rfl; clear hv hv2 hv3 hb hk))
                      go_ret
                      exact ⟨rfl, HB9.out⟩
  · rw [if_pos h1] at H1
    have hne0 : (ce != 0) = true := bne_iff_ne.mpr h1
    subst H1
    clear hce h1
    go_wp2_with (first | (go_at_call 20; refine (staff_Check.calls _ c0 l0 a1 _ _ (Kd.C_below HR.out HB.out) HC.out HQ.out).mono ?_; rintro e W1 ⟨rfl, hb⟩; have HB1 := Aside0.mk (below_step HB.out hb); have B31 := Aside0.mk (blk_below B3.out hb); have hc3 := blk_cell B31.out; clear hb))
    go_ret
    exact ⟨rfl, HB1.out⟩
end Go.Proofs.Ytdilndbanhianaa.P
