/- repeats.Source: what its call returns; no condition. -/
import Derived.Test.YtdilndbanhianaaRpCheck
set_option linter.unusedVariables false
set_option linter.unusedSimpArgs false
namespace Go.Proofs.Ytdilndbanhianaa.P
open Go.RowKit Go.Proofs.YtdilndbanhianaaW.PrintWords Go.Proofs.YtdilndbanhianaaW.PrintLast Go.Proofs.YtdilndbanhianaaW.PrintMore
/-- One section's share in Source: what is found, and where the performed ticks stand. -/
def srcS (tick : Int) (st : Int × Int) (x : S45 × Int) : Int × Int :=
  (if st.2 ≤ tick ∧ tick < wrap64 (st.2 + wrap64 (wrap64 (x.1.f1 - x.1.f0) * x.2)) then wrap64 (x.1.f0 + (wrap64 (tick - st.2)).tmod (wrap64 (x.1.f1 - x.1.f0))) else st.1, wrap64 (st.2 + wrap64 (wrap64 (x.1.f1 - x.1.f0) * x.2)))
theorem wrap_rng (x : Int) : -9223372036854775808 ≤ wrap64 x ∧ wrap64 x ≤ 9223372036854775807 := by unfold wrap64; omega
set_option maxHeartbeats 4000000 in
set_option maxRecDepth 100000 in
theorem source_closure (Bk Ba Bo : Nat) (hka : Bk ≠ Ba) (hko : Bk ≠ Bo) (hao : Ba ≠ Bo) (tick at_ out : Int) (hat : -9223372036854775808 ≤ at_ ∧ at_ ≤ 9223372036854775807) (x : S45 × Int) (w : World)
    (hk : w.heap[Bk]? = some (.cells #[.int .i64 tick] 3 (0, 0))) (ha : w.heap[Ba]? = some (.cells #[.int .i64 at_] 3 (0, 0))) (ho : w.heap[Bo]? = some (.cells #[.int .i64 out] 3 (0, 0))) :
    Calls Try.prog 78 (#[.agg #[.int .i64 x.1.f0, .int .i64 x.1.f1], .int .i64 x.2] ++ #[.pointer (some ⟨Bk, 0, none⟩), .pointer (some ⟨Ba, 0, none⟩), .pointer (some ⟨Bo, 0, none⟩)]) w fun e W' => e = .returned (.tuple #[]) ∧
      W'.heap[Ba]? = some (.cells #[.int .i64 (srcS tick (out, at_) x).2] 3 (0, 0)) ∧ W'.heap[Bo]? = some (.cells #[.int .i64 (srcS tick (out, at_) x).1] 3 (0, 0)) ∧ Bel2 Ba Bo w W' ∧ Kept w W' (fun k => k = Ba ∨ k = Bo) := by
  obtain ⟨n, hn⟩ : ∃ n, wrap64 (x.1.f1 - x.1.f0) = n := ⟨_, rfl⟩
  obtain ⟨m, hm⟩ : ∃ m, wrap64 (n * x.2) = m := ⟨_, rfl⟩
  obtain ⟨z, hz⟩ : ∃ z, wrap64 (at_ + m) = z := ⟨_, rfl⟩
  have hs : srcS tick (out, at_) x = (if at_ ≤ tick ∧ tick < z then wrap64 (x.1.f0 + (wrap64 (tick - at_)).tmod n) else out, z) := by unfold srcS; simp only [hn, hm, hz]
  have hn0 : at_ ≤ tick → tick < z → n ≠ 0 := by
    rintro h1 h2 rfl
    rw [Int.zero_mul] at hm
    have : m = 0 := by rw [← hm]; decide +kernel
    subst this
    rw [Int.add_zero] at hz
    rw [wrap_in _ hat.1 hat.2] at hz
    omega
  have b5 : (w.alloc (.cells #[.int .i64 x.1.f0, .int .i64 x.1.f1] 45)).heap[w.heap.size]? = some (.cells #[.int .i64 x.1.f0, .int .i64 x.1.f1] 45 (0, 0)) := blk_new _ _
  have bk := blk_alloc hk (.cells #[.int .i64 x.1.f0, .int .i64 x.1.f1] 45)
  have ba := blk_alloc ha (.cells #[.int .i64 x.1.f0, .int .i64 x.1.f1] 45)
  have bo := blk_alloc ho (.cells #[.int .i64 x.1.f0, .int .i64 x.1.f1] 45)
  have hbe : Bel2 Ba Bo w (w.alloc (.cells #[.int .i64 x.1.f0, .int .i64 x.1.f1] 45)) := fun B h1 h2 h3 => (Below.refl B w).alloc h3 _
  have hke : Kept w (w.alloc (.cells #[.int .i64 x.1.f0, .int .i64 x.1.f1] 45)) (fun k => k = Ba ∨ k = Bo) := (Kept.refl w (fun k => k = Ba ∨ k = Bo)).alloc _
  have hx5 := blk_cell b5
  have B5 := Aside0.mk b5
  have BK := Aside0.mk bk
  have BA := Aside0.mk ba
  have BO := Aside0.mk bo
  have HBE := Aside0.mk hbe
  have HKE := Aside0.mk hke
  have HN0 := Aside0.mk hn0
  have HS := Aside0.mk hs
  have HM := Aside0.mk hm
  have HZ := Aside0.mk hz
  have HKA := Aside0.mk hka
  have HKO := Aside0.mk hko
  have HAO := Aside0.mk hao
  have H5A : Aside0 (w.heap.size ≠ Ba) := ⟨fun h => by have := blk_lt ha; omega⟩
  have H5O : Aside0 (w.heap.size ≠ Bo) := ⟨fun h => by have := blk_lt ho; omega⟩
  clear b5 bk ba bo hbe hke hn0 hk ha ho hs hat hka hko hao hm hz
  go_enter Try.func78, Try.ntmps78
  go_upto_region 2 with (fail)
  rw [hn]
  clear hx5 hn
  generalize (w.alloc (.cells #[.int .i64 x.1.f0, .int .i64 x.1.f1] 45)) = W1 at B5 BK BA BO HBE HKE ⊢
  generalize w.heap.size = g5 at B5 H5A H5O ⊢
  have hck := blk_cell BK.out
  have hca := blk_cell BA.out
  have hfa := blk_frozen BA.out
  by_cases p1 : at_ ≤ tick
  · have d1 : decide (at_ ≤ tick) = true := decide_eq_true p1
    by_cases p2 : tick < z
    · have d2 : decide (tick < wrap64 (at_ + wrap64 (n * x.2))) = true := by rw [HM.out, HZ.out]; exact decide_eq_true p2
      have hn1 : n ≠ 0 := HN0.out p1 p2
      have hn2 : (n == 0) = false := by simpa using hn1
      have HP : Aside0 (at_ ≤ tick ∧ tick < z) := ⟨p1, p2⟩
      clear p1 p2
      go_upto_region 3 with (fail)
      have BK1 := Aside0.mk (blk_drew BK.out)
      have BA1 := Aside0.mk (blk_drew BA.out)
      have BO1 := Aside0.mk (blk_drew BO.out)
      have B51 := Aside0.mk (blk_drew B5.out)
      have HBE1 : Aside0 (Bel2 Ba Bo w W1.drew) := ⟨fun B h1 h2 h3 => below_drew1 (HBE.out B h1 h2 h3)⟩
      have HKE1 : Aside0 (Kept w W1.drew (fun k => k = Ba ∨ k = Bo)) := ⟨HKE.out.drew⟩
      refine start_ (n := 9) (S := fun w' => w'.cell? ⟨Bk, 0, none⟩ = some (.int .i64 tick) ∧ w'.cell? ⟨Ba, 0, none⟩ = some (.int .i64 at_) ∧ w'.cell? ⟨g5, 0, none⟩ = some (.int .i64 x.1.f0)) (ds := [8]) (bs 9 0) rfl rfl (by kernel_rfl) ⟨(blk_cell BK1.out 0).trans rfl, (blk_cell BA1.out 0).trans rfl, (blk_cell B51.out 0).trans rfl⟩ (fun hHeld => ?_)
      clear hck hca hfa BK BA BO B5 HBE HKE
      generalize W1.drew = W2 at BK1 BA1 BO1 B51 HBE1 HKE1 hHeld ⊢
      refine puA 0 25 (bs 9 1) ?_
      refine tkA 1 26 (bs 9 3) hHeld ?_
      refine tkA 2 27 (bs 9 7) hHeld ?_
      refine tkA 3 28 (bs 9 15) hHeld ?_
      refine puA 4 29 (bs 9 31) ?_
      refine puA 5 30 (bs 9 63) ?_
      refine puA 6 31 (bs 9 127) ?_
      refine puA 7 32 (bs 9 255) ?_
      have hco := (blk_cell BO1.out 0).trans rfl
      have hfo := blk_frozen BO1.out 0
      refine last_ (i := 8) (N := none) (bs 9 511) rfl rfl (by kernel_rfl) (by decide) (fun K hK => ?_)
      rw [if_pos (by rfl)]
      go_wp2
      refine hK.out _ _ ?_
      refine done_ (by kernel_rfl) ?_
      clear hK K hHeld hco hfo hn1 hn2
      have BA3 := Aside0.mk (blk_far BA1.out HAO.out (p := ⟨Bo, 0, none⟩) (.int .i64 (wrap64 (x.1.f0 + (wrap64 (tick - at_)).tmod n))))
      have BO3 := Aside0.mk (blk_put BO1.out 0 (.int .i64 (wrap64 (x.1.f0 + (wrap64 (tick - at_)).tmod n))) rfl)
      have HBE3 : Aside0 (Bel2 Ba Bo w (W2.setCell ⟨Bo, 0, none⟩ (.int .i64 (wrap64 (x.1.f0 + (wrap64 (tick - at_)).tmod n))))) := ⟨fun B h1 h2 h3 => (HBE1.out B h1 h2 h3).setCell (p := ⟨Bo, 0, none⟩) h2 _⟩
      have HKE3 : Aside0 (Kept w (W2.setCell ⟨Bo, 0, none⟩ (.int .i64 (wrap64 (x.1.f0 + (wrap64 (tick - at_)).tmod n)))) (fun k => k = Ba ∨ k = Bo)) := ⟨HKE1.out.setCell (p := ⟨Bo, 0, none⟩) (.inl (.inr rfl)) _⟩
      clear BA1 BO1 BK1 B51 HBE1 HKE1
      generalize (W2.setCell ⟨Bo, 0, none⟩ (.int .i64 (wrap64 (x.1.f0 + (wrap64 (tick - at_)).tmod n)))) = W3 at BA3 BO3 HBE3 HKE3 ⊢
      have hca := blk_cell BA3.out
      have hfa := blk_frozen BA3.out
      go_wp2
      go_end0
      refine ⟨rfl, by rw [HS.out, ← HZ.out, ← HM.out]; exact blk_put BA3.out 0 _ rfl, by rw [HS.out, if_pos HP.out]; exact blk_far BO3.out HAO.out.symm _, fun B h1 h2 h3 => (HBE3.out B h1 h2 h3).setCell (p := ⟨Ba, 0, none⟩) h1 _, HKE3.out.setCell (p := ⟨Ba, 0, none⟩) (.inl (.inl rfl)) _⟩
    · have d2 : decide (tick < wrap64 (at_ + wrap64 (n * x.2))) = false := by rw [HM.out, HZ.out]; exact decide_eq_false p2
      have HP : Aside0 (¬ (at_ ≤ tick ∧ tick < z)) := ⟨fun h => p2 h.2⟩
      clear p1 p2
      go_wp2
      go_end0
      refine ⟨rfl, by rw [HS.out, ← HZ.out, ← HM.out]; exact blk_put BA.out 0 _ rfl, by rw [HS.out, if_neg HP.out]; exact blk_far BO.out HAO.out.symm _, fun B h1 h2 h3 => (HBE.out B h1 h2 h3).setCell (p := ⟨Ba, 0, none⟩) h1 _, HKE.out.setCell (p := ⟨Ba, 0, none⟩) (.inl (.inl rfl)) _⟩
  · have d1 : decide (at_ ≤ tick) = false := decide_eq_false p1
    have HP : Aside0 (¬ (at_ ≤ tick ∧ tick < z)) := ⟨fun h => p1 h.1⟩
    clear p1
    go_wp2
    go_end0
    refine ⟨rfl, by rw [HS.out, ← HZ.out, ← HM.out]; exact blk_put BA.out 0 _ rfl, by rw [HS.out, if_neg HP.out]; exact blk_far BO.out HAO.out.symm _, fun B h1 h2 h3 => (HBE.out B h1 h2 h3).setCell (p := ⟨Ba, 0, none⟩) h1 _, HKE.out.setCell (p := ⟨Ba, 0, none⟩) (.inl (.inl rfl)) _⟩
theorem rCheckP_len {l : List S29} {n : Int} {r : List S61} (h : rCheckP l n r = 0) : r.length ≤ 16 := by
  unfold rCheckP at h
  split at h
  · rename_i c; exact absurd h c
  · split at h
    · cases h
    · omega
/-- What Source says. -/
def rSourceP (l : List S29) (n : Int) (r : List S61) (t : Int) : Int × Int :=
  if ¬ rCheckP l n r = 0 then (0, rCheckP l n r)
  else if t < 0 then (0, 1)
  else if perfP n r ≤ t then (0, 1)
  else (((secsP n r).foldl (srcS t) (0, 0)).1, 0)
def repeats_Source.f (l0 : List S29) (a1 : Int) (l2 : List S61) (a3 : Int) : Option (Int × Int) := some (rSourceP l0 a1 l2 a3)
set_option maxHeartbeats 4000000 in
set_option maxRecDepth 100000 in
theorem repeats_Source.calls (A0 : Option Addr) (c0 : Nat) (l0 : List S29) (a1 : Int) (A2 : Option Addr) (c2 : Nat) (l2 : List S61) (a3 r1 r2 : Int) (w : World) (hr0 : Kd.C k29 w A0 l0.length l0) (hc0 : l0.length ≤ c0) (hr2 : Kd.C k61 w A2 l2.length l2) (hc2 : l2.length ≤ c2) (h : repeats_Source.f l0 a1 l2 a3 = some (r1, r2)) :
    Calls Try.prog 44 #[.slice A0 l0.length c0, .int .i64 a1, .slice A2 l2.length c2, .int .i64 a3] w fun e w' => e = .returned (.tuple #[.int .i64 r1, .int .i64 r2]) ∧ Below w.heap.size w w' := by
  have H1 := Option.some.inj h
  have HR := Aside0.mk hr0
  have HC := Aside0.mk hc0
  have HR2 := Aside0.mk hr2
  have HC2 := Aside0.mk hc2
  clear h hr0 hc0 hr2 hc2
  obtain ⟨ce, hce⟩ : ∃ ce, rCheckP l0 a1 l2 = ce := ⟨_, rfl⟩
  have HQ : Aside0 (repeats_Check.f l0 a1 l2 = some ce) := ⟨congrArg some hce⟩
  unfold rSourceP at H1
  rw [hce] at H1
  go_enter Try.func44, Try.ntmps44
  go_upto_region 1 with (fail)
  have hb0 : Below w.heap.size w (w.alloc (.cells #[.int .i64 a3] 3)) := below_alloc (Below.refl _ _) _
  have hb7 : (w.alloc (.cells #[.int .i64 a3] 3)).heap[w.heap.size]? = some (.cells #[.int .i64 a3] 3 (0, 0)) := blk_new _ _
  generalize (w.alloc (.cells #[.int .i64 a3] 3)) = W0 at hb0 hb7 ⊢
  obtain ⟨g7, hg7⟩ : ∃ g, w.heap.size = g := ⟨_, rfl⟩
  have B7 : Aside0 (W0.heap[g7]? = some (.cells #[.int .i64 a3] 3 (0, 0))) := ⟨by rw [← hg7]; exact hb7⟩
  have GE7 : Aside0 (w.heap.size ≤ g7) := ⟨by omega⟩
  have hptr : Value.pointer (some { block := w.heap.size, off := 0 }) = Value.pointer (some { block := g7, off := 0 }) := by rw [hg7]
  rw [hptr]
  have HB := Aside0.mk hb0
  clear hptr hg7 hb7 hb0
  by_cases h1 : ce = 0
  · subst h1
    rw [if_neg (by decide)] at H1
    have HL := Aside0.mk (rCheckP_len hce)
    clear hce
    have H2 := Aside0.mk H1
    clear H1
    go_upto_region 4 with (first | (go_at_call 40; refine (repeats_Check.calls _ c0 l0 a1 _ c2 l2 _ _ (Kd.C_below HR.out HB.out) HC.out (Kd.C_below HR2.out HB.out) HC2.out HQ.out).mono ?_; rintro e W1 ⟨rfl, hb⟩; have HB1 := Aside0.mk (below_step HB.out hb); have B71 := Aside0.mk (blk_below B7.out hb); clear hb))
    clear HB B7
    have HB2 := Aside0.mk (below_drew1 HB1.out)
    have B72 := Aside0.mk (blk_drew B71.out)
    refine start_ (n := 9) (S := fun w' => w'.cell? ⟨g7, 0, none⟩ = some (.int .i64 a3)) (ds := []) (bs 9 0) rfl rfl (by kernel_rfl) ((blk_cell B72.out 0).trans rfl) (fun hHeld => ?_)
    clear HB1 B71
    generalize W1.drew = W2 at HB2 B72 hHeld ⊢
    by_cases p : a3 < 0
    · have d : decide (a3 < 0) = true := decide_eq_true p
      have hr := H2.out
      rw [if_pos p] at hr
      obtain ⟨rfl, rfl⟩ := Prod.mk.inj hr
      clear hr p
      refine tkA 0 20 (bs 9 1) hHeld ?_
      refine puA 1 21 (bs 9 3) ?_
      refine puA 2 22 (bs 9 7) ?_
      (try rw [d])
      refine skA 3 23 (bs 9 15) ?_
      refine skA 4 24 (bs 9 31) ?_
      refine skA 5 25 (bs 9 63) ?_
      refine skA 6 26 (bs 9 127) ?_
      refine skA 7 27 (bs 9 255) ?_
      refine puA 8 28 (bs 9 511) ?_
      refine done_ (by kernel_rfl) ?_
      clear hHeld
      go_wp2
      go_ret2
      exact ⟨rfl, HB2.out⟩
    · have d : decide (a3 < 0) = false := decide_eq_false p
      have hr := H2.out
      rw [if_neg p] at hr
      have H3 := Aside0.mk hr
      have HPF : Aside0 (repeats_performed.f a1 l2 = some (perfP a1 l2)) := ⟨by unfold repeats_performed.f; rw [if_pos HL.out]⟩
      clear hr p H2
      refine tkA 0 20 (bs 9 1) hHeld ?_
      refine puA 1 21 (bs 9 3) ?_
      refine puA 2 22 (bs 9 7) ?_
      (try rw [d])
      refine tkA 3 23 (bs 9 15) hHeld ?_
      refine puA 4 24 (bs 9 31) ?_
      refine puA 5 25 (bs 9 63) ?_
      refine one_ (i := 6) (N := some 26) (bs 9 127) rfl rfl (by kernel_rfl) (by decide) (fun K hK => ?_)
      refine goes_ Try.func67 (by kernel_rfl) rfl #[.int .i64 a1, .slice A2 l2.length c2] (by rfl) rfl rfl (by (try simp only [List.map_toArray, List.map_cons, List.map_nil]); first | done | rfl) ?_
      refine (repeats_performed.calls a1 _ c2 l2 _ _ (Kd.C_below HR2.out HB2.out) HC2.out HPF.out).mono ?_
      rintro e w5 ⟨rfl, hb⟩
      refine ⟨_, rfl, ?_⟩
      have HB5 := Aside0.mk (below_step HB2.out hb)
      have B75 := Aside0.mk (blk_below B72.out hb)
      clear hb HB2 B72 hHeld
      refine hK.out _ _ ((blk_cell B75.out 0).trans rfl) (fun hHeld => ?_)
      clear hK K
      refine nmA 26 ?_
      refine puA 7 27 (bs 9 255) ?_
      refine puA 8 28 (bs 9 511) ?_
      refine done_ (by kernel_rfl) ?_
      clear hHeld HPF
      by_cases p : perfP a1 l2 ≤ a3
      · have d2 : decide (perfP a1 l2 ≤ a3) = true := decide_eq_true p
        have hr := H3.out
        rw [if_pos p] at hr
        obtain ⟨rfl, rfl⟩ := Prod.mk.inj hr
        rw [d2]
        clear hr p
        go_wp2
        go_ret2
        exact ⟨rfl, HB5.out⟩
      · have d2 : decide (perfP a1 l2 ≤ a3) = false := decide_eq_false p
        have hr := H3.out
        rw [if_neg p] at hr
        obtain ⟨rfl, rfl⟩ := Prod.mk.inj hr
        rw [d2]
        clear hr p H3 d2
        go_upto_region 7 with (fail)
        have hz1 : (w5.alloc (.cells #[.int .i64 0] 3)).heap.size = w5.heap.size + 1 := by rw [World.size_alloc]
        have ho : ((w5.alloc (.cells #[.int .i64 0] 3)).alloc (.cells #[.int .i64 0] 3)).heap[w5.heap.size]? = some (.cells #[.int .i64 0] 3 (0, 0)) := blk_alloc (blk_new _ _) _
        have ha : ((w5.alloc (.cells #[.int .i64 0] 3)).alloc (.cells #[.int .i64 0] 3)).heap[w5.heap.size + 1]? = some (.cells #[.int .i64 0] 3 (0, 0)) := by rw [← hz1]; exact blk_new _ _
        have hk : ((w5.alloc (.cells #[.int .i64 0] 3)).alloc (.cells #[.int .i64 0] 3)).heap[g7]? = some (.cells #[.int .i64 a3] 3 (0, 0)) := blk_alloc (blk_alloc B75.out _) _
        have hb1 : Below w.heap.size w ((w5.alloc (.cells #[.int .i64 0] 3)).alloc (.cells #[.int .i64 0] 3)) := below_alloc (below_alloc HB5.out _) _
        have hle : w.heap.size ≤ w5.heap.size := below_size HB5.out
        have hg7 := blk_lt B75.out
        clear hz1 HB5 B75
        generalize ((w5.alloc (.cells #[.int .i64 0] 3)).alloc (.cells #[.int .i64 0] 3)) = W6 at ho ha hk hb1 ⊢
        obtain ⟨go, hgo⟩ : ∃ g, w5.heap.size = g := ⟨_, rfl⟩
        obtain ⟨ga, hga⟩ : ∃ g, w5.heap.size + 1 = g := ⟨_, rfl⟩
        rw [hgo] at ho hle hg7
        rw [hga] at ha
        have hlt2 : go < ga := by omega
        rw [hga, hgo]
        clear hgo hga
        have eg : ∀ args w, (callFunc 78 args).run Try.prog w = .ok (.enter 78 args) w := enters_of Try.func78 (by kernel_rfl) rfl
        have hs := sections_walk 78 eg #[.pointer (some ⟨g7, 0, none⟩), .pointer (some ⟨ga, 0, none⟩), .pointer (some ⟨go, 0, none⟩)] a1 l2 A2 c2 W6 HL.out
          (fun q W => W.heap[ga]? = some (.cells #[.int .i64 (q.foldl (srcS a3) (0, 0)).2] 3 (0, 0)) ∧ W.heap[go]? = some (.cells #[.int .i64 (q.foldl (srcS a3) (0, 0)).1] 3 (0, 0)) ∧ W.heap[g7]? = some (.cells #[.int .i64 a3] 3 (0, 0)) ∧ Below w.heap.size w W ∧ -9223372036854775808 ≤ (q.foldl (srcS a3) (0, 0)).2 ∧ (q.foldl (srcS a3) (0, 0)).2 ≤ 9223372036854775807) (fun q W k => k = ga ∨ k = go)
          (fun q W W' hj hb => ⟨blk_below hj.1 hb, blk_below hj.2.1 hb, blk_below hj.2.2.1 hb, below_step hj.2.2.2.1 hb, hj.2.2.2.2⟩) (fun q W hj => Kd.C_below HR2.out hj.2.2.2.1) (fun q W W' k _ _ h => h) (fun q W k hj h => by rcases h with h | h; rw [h]; exact blk_lt hj.1; rw [h]; exact blk_lt hj.2.1)
          (fun q x rest W _ hj => (source_closure g7 ga go (by omega) (by omega) (by omega) a3 _ _ hj.2.2.2.2 x W hj.2.2.1 hj.1 hj.2.1).mono (by
            rintro e W' ⟨rfl, hv, hv2, hb, hk⟩
            have ef : (q ++ [x]).foldl (srcS a3) (0, 0) = srcS a3 ((q.foldl (srcS a3) (0, 0)).1, (q.foldl (srcS a3) (0, 0)).2) x := by rw [List.foldl_append]; rfl
            refine ⟨rfl, ⟨by rw [ef]; exact hv, by rw [ef]; exact hv2, blk_kept hj.2.2.1 hk (by omega), hj.2.2.2.1.trans (hb w.heap.size (by omega) hle (below_size hj.2.2.2.1)), ?_⟩, hk, fun k h => .inl h⟩
            rw [ef]; exact wrap_rng _))
          ⟨ha, ho, hk, hb1, by show (-9223372036854775808 : Int) ≤ 0; omega, by show (0 : Int) ≤ 9223372036854775807; omega⟩
        have HS := Aside0.mk hs
        clear hs ho ha hk hb1 hle hg7 hlt2 eg
        go_wp2_with (first | (go_at_call 71; refine HS.out.mono ?_; rintro e W9 ⟨rfl, ⟨hv, hv2, hv3, hb, hv5⟩, hk⟩; have HB9 := Aside0.mk hb; have hco := (blk_cell hv2 0).trans rfl; clear hv hv2 hv3 hb hk hv5))
        go_ret2
        exact ⟨rfl, HB9.out⟩
  · rw [if_pos h1] at H1
    obtain ⟨rfl, rfl⟩ := Prod.mk.inj H1
    have hne0 : (ce != 0) = true := bne_iff_ne.mpr h1
    clear H1 hce h1
    go_wp2_with (first | (go_at_call 40; refine (repeats_Check.calls _ c0 l0 a1 _ c2 l2 _ _ (Kd.C_below HR.out HB.out) HC.out (Kd.C_below HR2.out HB.out) HC2.out HQ.out).mono ?_; rintro e W1 ⟨rfl, hb⟩; have HB1 := Aside0.mk (below_step HB.out hb); have B71 := Aside0.mk (blk_below B7.out hb); clear hb))
    go_ret2
    exact ⟨rfl, HB1.out⟩
end Go.Proofs.Ytdilndbanhianaa.P
