/- repeats.Perform: what its call returns; no condition. -/
import Derived.Test.YtdilndbanhianaaRpCheck
set_option linter.unusedVariables false
set_option linter.unusedSimpArgs false
namespace Go.Proofs.Ytdilndbanhianaa.P
open Go.RowKit Go.Proofs.YtdilndbanhianaaW.PrintWords Go.Proofs.YtdilndbanhianaaW.PrintLast Go.Proofs.YtdilndbanhianaaW.PrintMore
/-- A section, performed k times. -/
def repS (l : List S29) (x : S45 × Int) : Nat → List S29 × Int → List S29 × Int
  | 0, st => st
  | k + 1, st => ((repS l x k st).1 ++ (withinP l x.1).map (movS (wrap64 ((repS l x k st).2 - x.1.f0))), wrap64 ((repS l x k st).2 + wrap64 (x.1.f1 - x.1.f0)))
def perfS (l : List S29) (st : List S29 × Int) (x : S45 × Int) : List S29 × Int := repS l x x.2.toNat st
theorem repS_len (l : List S29) (x : S45 × Int) (st : List S29 × Int) : ∀ k, (repS l x k st).1.length = st.1.length + k * (withinP l x.1).length
  | 0 => by simp [repS]
  | k + 1 => by simp only [repS, List.length_append, List.length_map, repS_len l x st k]; rw [Nat.add_mul]; omega
set_option maxHeartbeats 4000000 in
set_option maxRecDepth 100000 in
theorem perform_closure (Bo Bl Ba base : Nat) (hol : Bo ≠ Bl) (hoa : Bo ≠ Ba) (hla : Bl ≠ Ba) (A0 : Option Addr) (c0 : Nat) (l0 : List S29) (x : S45 × Int) (w : World) (hlen : l0.length ≤ 256) (hc0 : l0.length ≤ c0) (v : Value) (os : List S29) (at_ : Int) (hx2 : x.2 ≤ 16) (hos : os.length ≤ 1000000)
    (hbo : base ≤ Bo) (hba : base ≤ Ba) (hbw : base ≤ w.heap.size) (hrC : ∀ W', Below base w W' → Kd.C k29 W' A0 l0.length l0)
    (ho : w.heap[Bo]? = some (.cells #[v] 22 (0, 0))) (hl : w.heap[Bl]? = some (.cells #[.slice A0 l0.length c0] 22 (0, 0))) (ha : w.heap[Ba]? = some (.cells #[.int .i64 at_] 3 (0, 0)))
    (hv : Kd.R k29 29 w base (fun k => k ≠ Bo ∧ k ≠ Bl ∧ k ≠ Ba) v os) :
    Calls Try.prog 76 (#[.agg #[.int .i64 x.1.f0, .int .i64 x.1.f1], .int .i64 x.2] ++ #[.pointer (some ⟨Bo, 0, none⟩), .pointer (some ⟨Bl, 0, none⟩), .pointer (some ⟨Ba, 0, none⟩)]) w fun e W' => e = .returned (.tuple #[]) ∧
      ∃ v', W'.heap[Bo]? = some (.cells #[v'] 22 (0, 0)) ∧ W'.heap[Ba]? = some (.cells #[.int .i64 (perfS l0 (os, at_) x).2] 3 (0, 0)) ∧ Kd.R k29 29 W' base (fun k => k ≠ Bo ∧ k ≠ Bl ∧ k ≠ Ba) v' (perfS l0 (os, at_) x).1 ∧ Below base w W' ∧
        Kept w W' (fun k => k = Bo ∨ k = Ba ∨ some k = v.ownBlock) ∧ ∀ k, some k = v'.ownBlock → some k = v.ownBlock ∨ w.heap.size ≤ k := by
  obtain ⟨kw, hkw⟩ := (within_eq l0 x.1 (by omega)).rounds
  have HW := Aside0.mk hkw
  have hwl := withinP_len l0 x.1
  obtain ⟨ws, hws⟩ : ∃ ws, withinP l0 x.1 = ws := ⟨_, rfl⟩
  rw [hws] at HW hwl
  have HWS := Aside0.mk hws
  have HWL : Aside0 (ws.length ≤ 256) := ⟨by omega⟩
  have HMV : Aside0 (∀ d, ∃ k, repeats_moved.f k ws d = some (ws.map (movS d))) := ⟨fun d => (rmoved_eq ws d (by omega)).rounds⟩
  have b5 : (w.alloc (.cells #[.int .i64 x.1.f0, .int .i64 x.1.f1] 45)).heap[w.heap.size]? = some (.cells #[.int .i64 x.1.f0, .int .i64 x.1.f1] 45 (0, 0)) := blk_new _ _
  have bo := blk_alloc ho (.cells #[.int .i64 x.1.f0, .int .i64 x.1.f1] 45)
  have bl := blk_alloc hl (.cells #[.int .i64 x.1.f0, .int .i64 x.1.f1] 45)
  have ba := blk_alloc ha (.cells #[.int .i64 x.1.f0, .int .i64 x.1.f1] 45)
  have hbe : Below base w (w.alloc (.cells #[.int .i64 x.1.f0, .int .i64 x.1.f1] 45)) := (Below.refl base w).alloc hbw _
  have hke : Kept w (w.alloc (.cells #[.int .i64 x.1.f0, .int .i64 x.1.f1] 45)) (fun k => k = Bo ∨ k = Ba ∨ some k = v.ownBlock) := (Kept.refl w _).alloc _
  have hv1 : Kd.R k29 29 (w.alloc (.cells #[.int .i64 x.1.f0, .int .i64 x.1.f1] 45)) base (fun k => (k ≠ Bo ∧ k ≠ Bl ∧ k ≠ Ba) ∧ k ≠ w.heap.size) v os := Kd.R_alloc (Kd.R_elderB hv w.heap.size (Nat.le_refl _)) _
  have hlo := blk_lt ho
  have hll := blk_lt hl
  have hla' := blk_lt ha
  have HD : Aside0 (Bo ≠ Bl ∧ Bo ≠ Ba ∧ Bl ≠ Ba ∧ w.heap.size ≠ Bo ∧ w.heap.size ≠ Bl ∧ w.heap.size ≠ Ba) := ⟨hol, hoa, hla, by omega, by omega, by omega⟩
  have HBS : Aside0 (base ≤ Bo ∧ base ≤ Ba ∧ base ≤ w.heap.size ∧ w.heap.size ≤ w.heap.size) := ⟨hbo, hba, hbw, Nat.le_refl _⟩
  have HRC := Aside0.mk hrC
  have HC := Aside0.mk hc0
  have HX2 : Aside0 (x.2 ≤ 16) := ⟨hx2⟩
  have HOS := Aside0.mk hos
  have B5 := Aside0.mk b5
  have BO := Aside0.mk bo
  have BL := Aside0.mk bl
  have BA := Aside0.mk ba
  have HB := Aside0.mk hbe
  have HKE := Aside0.mk hke
  have HV := Aside0.mk hv1
  clear hkw hwl hws b5 bo bl ba hbe hke hv1 hv ho hl ha hrC hlen hc0 hol hoa hla hbo hba hbw hlo hll hla' hx2 hos
  go_enter Try.func76, Try.ntmps76
  go_upto_region 1 with (fail)
  generalize hWW : (w.alloc (.cells #[.int .i64 x.1.f0, .int .i64 x.1.f1] 45)) = W1 at B5 BO BL BA HB HKE HV ⊢
  obtain ⟨g5, hg5⟩ : ∃ g, w.heap.size = g := ⟨_, rfl⟩
  rw [hg5] at B5 HD HV ⊢
  have HG5 := Aside0.mk hg5
  have hcl := blk_cell BL.out
  clear hWW hg5 hcl
  go_wp2
  go_loopg [8] x.2.toNat (fun kq v8 W => ∃ (i : Nat) (u : Value), v8 = .int .i64 (i : Int) ∧ Aside0 (i + kq = x.2.toNat) ∧ Aside0 (W.heap[g5]? = some (.cells #[.int .i64 x.1.f0, .int .i64 x.1.f1] 45 (0, 0))) ∧ Aside0 (W.heap[Bo]? = some (.cells #[u] 22 (0, 0))) ∧ Aside0 (W.heap[Bl]? = some (.cells #[.slice A0 l0.length c0] 22 (0, 0))) ∧ Aside0 (W.heap[Ba]? = some (.cells #[.int .i64 (repS l0 x i (os, at_)).2] 3 (0, 0))) ∧
    Aside0 (Kd.R k29 29 W base (fun k => (k ≠ Bo ∧ k ≠ Bl ∧ k ≠ Ba) ∧ k ≠ g5) u (repS l0 x i (os, at_)).1) ∧ Aside0 (Below base w W) ∧ Aside0 (Kept w W (fun k => k = Bo ∨ k = Ba ∨ some k = v.ownBlock)) ∧ Aside0 (∀ k, some k = u.ownBlock → some k = v.ownBlock ∨ w.heap.size ≤ k))
  case atStart => exact ⟨0, v, rfl, ⟨by omega⟩, B5, BO, BL, BA, HV, HB, HKE, ⟨fun k h => .inl h⟩⟩
  case round =>
    clear B5 BO BL BA HV HB HKE
    obtain ⟨i, u, rfl, HK, B5, BO, BL, BA, HV, HB, HKE, HOW⟩ := hrel
    cases gk with
    | zero =>
      have hi : i = x.2.toNat := by have := HK.out; omega
      have hlt : decide ((i : Int) < x.2) = false := decide_eq_false (by omega)
      have HI := Aside0.mk hi
      clear hi
      go_wp2
      go_end0
      refine ⟨rfl, u, BO.out, ?_, ?_, HB.out, HKE.out, HOW.out⟩
      · unfold perfS; rw [← HI.out]; exact BA.out
      · unfold perfS; rw [← HI.out]; exact Kd.R_mono HV.out (fun _ hk => hk.1)
    | succ k1 =>
      have hlt : decide ((i : Int) < x.2) = true := decide_eq_true (by have := HK.out; omega)
      have hrl := repS_len l0 x (os, at_) i
      have e1 : (repS l0 x (i + 1) (os, at_)).1 = (repS l0 x i (os, at_)).1 ++ ws.map (movS (wrap64 ((repS l0 x i (os, at_)).2 - x.1.f0))) := by rw [← HWS.out]; rfl
      have e2 : (repS l0 x (i + 1) (os, at_)).2 = wrap64 ((repS l0 x i (os, at_)).2 + wrap64 (x.1.f1 - x.1.f0)) := rfl
      rw [HWS.out] at hrl
      have HE1 := Aside0.mk e1
      have HE2 := Aside0.mk e2
      have hln : (repS l0 x i (os, at_)).1.length ≤ 1010000 := by
        rw [hrl]
        have h1 : i * ws.length ≤ 16 * 256 := Nat.mul_le_mul (by have := HK.out; have := HX2.out; omega) HWL.out
        have := HOS.out
        simp only; omega
      have HLN := Aside0.mk hln
      clear hrl hln e1 e2
      generalize (repS l0 x i (os, at_)).1 = ol at HV HE1 HLN
      generalize (repS l0 x i (os, at_)).2 = at1 at BA HE1 HE2
      go_upto_region 3 with (fail)
      clear hlt
      have B51 := Aside0.mk (blk_drew B5.out)
      have BO1 := Aside0.mk (blk_drew BO.out)
      have BL1 := Aside0.mk (blk_drew BL.out)
      have BA1 := Aside0.mk (blk_drew BA.out)
      have HV1 := Aside0.mk (Kd.R_drew HV.out)
      have HB1 : Aside0 (Below base w wr.drew) := ⟨below_drew1 HB.out⟩
      have HKE1 : Aside0 (Kept w wr.drew (fun k => k = Bo ∨ k = Ba ∨ some k = v.ownBlock)) := ⟨HKE.out.drew⟩
      refine start_ (n := 11) (S := fun w' => w'.cell? ⟨Bo, 0, none⟩ = some u ∧ w'.cell? ⟨Bl, 0, none⟩ = some (.slice A0 l0.length c0) ∧ w'.cell? ⟨Ba, 0, none⟩ = some (.int .i64 at1) ∧ w'.cell? ⟨g5, 0, none⟩ = some (.int .i64 x.1.f0) ∧ w'.cell? ⟨g5, 1, none⟩ = some (.int .i64 x.1.f1)) (ds := [10]) (bs 11 0) rfl rfl (by kernel_rfl) ⟨(blk_cell BO1.out 0).trans rfl, (blk_cell BL1.out 0).trans rfl, (blk_cell BA1.out 0).trans rfl, (blk_cell B51.out 0).trans rfl, (blk_cell B51.out 1).trans rfl⟩ (fun hHeld => ?_)
      clear B5 BO BL BA HV HB HKE
      generalize wr.drew = W2 at B51 BO1 BL1 BA1 HV1 HB1 HKE1 hHeld ⊢
      refine tkA 0 10 (bs 11 1) hHeld ?_
      refine tkA 1 11 (bs 11 3) hHeld ?_
      refine tkA 2 12 (bs 11 7) hHeld ?_
      refine tkA 4 14 (bs 11 23) hHeld ?_
      refine puA 5 15 (bs 11 55) ?_
      refine tkA 6 16 (bs 11 119) hHeld ?_
      refine puA 7 17 (bs 11 247) ?_
      refine one_ (i := 3) (N := some 13) (bs 11 255) rfl rfl (by kernel_rfl) (by decide) (fun K hK => ?_)
      refine goes_ Try.func73 (by kernel_rfl) rfl #[.slice A0 l0.length c0, .agg #[.int .i64 x.1.f0, .int .i64 x.1.f1]] (by rfl) rfl rfl (by (try simp only [List.map_toArray, List.map_cons, List.map_nil]); first | done | rfl) ?_
      refine (repeats_within.calls kw _ c0 l0 x.1.f0 x.1.f1 _ _ (HRC.out _ HB1.out) HC.out HW.out).mono ?_
      rintro e w5 ⟨v5, rfl, hr5, hb⟩
      obtain ⟨A5, c5, rfl⟩ := Kd.R_slice hr5
      refine ⟨_, rfl, ?_⟩
      have hz : base ≤ W2.heap.size := Nat.le_trans HBS.out.2.2.1 HKE1.out.1
      have HR5 := Aside0.mk hr5
      have B52 := Aside0.mk (blk_below B51.out hb)
      have BO2 := Aside0.mk (blk_below BO1.out hb)
      have BL2 := Aside0.mk (blk_below BL1.out hb)
      have BA2 := Aside0.mk (blk_below BA1.out hb)
      have HV2 := Aside0.mk (Kd.R_below HV1.out hb)
      have HB2 : Aside0 (Below base w w5) := ⟨HB1.out.trans (hb.mono hz)⟩
      have HKE2 : Aside0 (Kept w w5 (fun k => k = Bo ∨ k = Ba ∨ some k = v.ownBlock)) := ⟨HKE1.out.below hb⟩
      clear hr5 hb hz hHeld B51 BO1 BL1 BA1 HV1 HB1 HKE1
      refine hK.out _ _ ⟨(blk_cell BO2.out 0).trans rfl, (blk_cell BL2.out 0).trans rfl, (blk_cell BA2.out 0).trans rfl, (blk_cell B52.out 0).trans rfl, (blk_cell B52.out 1).trans rfl⟩ (fun hHeld => ?_)
      clear hK K
      refine nmA 13 ?_
      obtain ⟨km, hkm⟩ := HMV.out (wrap64 (at1 - x.1.f0))
      have HKM := Aside0.mk hkm
      clear hkm
      refine one_ (i := 8) (N := some 18) (bs 11 511) rfl rfl (by kernel_rfl) (by decide) (fun K hK => ?_)
      refine goes_ Try.func77 (by kernel_rfl) rfl #[.slice A5 ws.length c5, .int .i64 (wrap64 (at1 - x.1.f0))] (by rfl) rfl rfl (by (try simp only [List.map_toArray, List.map_cons, List.map_nil]); first | done | rfl) ?_
      refine (repeats_moved.calls km _ c5 ws (wrap64 (at1 - x.1.f0)) _ _ (Kd.R_reads' HR5.out).2.2 (Kd.R_reads' HR5.out).2.1 HKM.out).mono ?_
      rintro e w6 ⟨v6, rfl, hr6, hb⟩
      obtain ⟨A6, c6, rfl⟩ := Kd.R_slice hr6
      refine ⟨_, rfl, ?_⟩
      have hz : base ≤ w5.heap.size := Nat.le_trans HBS.out.2.2.1 HKE2.out.1
      have HR6 := Aside0.mk hr6
      have B53 := Aside0.mk (blk_below B52.out hb)
      have BO3 := Aside0.mk (blk_below BO2.out hb)
      have BL3 := Aside0.mk (blk_below BL2.out hb)
      have BA3 := Aside0.mk (blk_below BA2.out hb)
      have HV3 := Aside0.mk (Kd.R_below HV2.out hb)
      have HB3 : Aside0 (Below base w w6) := ⟨HB2.out.trans (hb.mono hz)⟩
      have HKE3 : Aside0 (Kept w w6 (fun k => k = Bo ∨ k = Ba ∨ some k = v.ownBlock)) := ⟨HKE2.out.below hb⟩
      clear hr6 hb hz hHeld B52 BO2 BL2 BA2 HV2 HB2 HKE2 HR5 HKM
      refine hK.out _ _ ⟨(blk_cell BO3.out 0).trans rfl, (blk_cell BL3.out 0).trans rfl, (blk_cell BA3.out 0).trans rfl, (blk_cell B53.out 0).trans rfl, (blk_cell B53.out 1).trans rfl⟩ (fun hHeld => ?_)
      clear hK K
      refine nmA 18 ?_
      have hml : (ws.map (movS (wrap64 (at1 - x.1.f0)))).length ≤ 256 := by rw [List.length_map]; exact HWL.out
      have HML := Aside0.mk hml
      clear hml
      generalize ws.map (movS (wrap64 (at1 - x.1.f0))) = ms at HR6 HE1 HML ⊢
      refine one_ (i := 9) (N := some 19) (bs 11 1023) rfl rfl (by kernel_rfl) (by decide) (fun K hK => ?_)
      refine Kd.R_append_rows_step k29 (w0 := w) base (by rfl) (.tmp 10) (.tmp 18) 22 29 (.agg #[(.int .i64 0), (.int .i64 0), (.int .i64 0), (.int .i64 0), (.int .i64 0), (.int .i64 0), (.int .i64 0)]) 56 rfl Try.underlying22 info29 rfl (by decide) (by omega) u ol ms _ _ _ (fun k => (k ≠ Bo ∧ k ≠ Bl ∧ k ≠ Ba) ∧ k ≠ g5) (fun _ => False) rfl rfl HV3.out (Kd.R_reads' HR6.out).2.2 (fun _ _ h => h) (fun _ h => h.elim)
        (fun k hk => by have h1 := blk_lt BO3.out; have h2 := blk_lt BL3.out; have h3 := blk_lt BA3.out; have h4 := blk_lt B53.out; omega) HB3.out (Nat.le_trans HBS.out.2.2.1 HKE3.out.1) (by have := HLN.out; have := HML.out; omega) ?_
      intro v7 w7 ho7 hb7 hg7 hat7
      obtain ⟨A7, c7, rfl⟩ := Kd.R_slice ho7
      generalize (ol ++ ms).length = nn at ho7 hat7 ⊢
      have B54 := Aside0.mk (blk_grown B53.out hg7 (Kd.R_away HV3.out (fun _ hk => hk.2)))
      have BO4 := Aside0.mk (blk_grown BO3.out hg7 (Kd.R_away HV3.out (fun _ hk => hk.1.1)))
      have BL4 := Aside0.mk (blk_grown BL3.out hg7 (Kd.R_away HV3.out (fun _ hk => hk.1.2.1)))
      have BA4 := Aside0.mk (blk_grown BA3.out hg7 (Kd.R_away HV3.out (fun _ hk => hk.1.2.2)))
      have HV4 := Aside0.mk ho7
      have HB4 := Aside0.mk hb7
      have HKE4 : Aside0 (Kept w w7 (fun k => k = Bo ∨ k = Ba ∨ some k = v.ownBlock)) := ⟨Kept.of_grown hg7 HKE3.out (fun k hk => by rcases HOW.out k hk.symm with h | h; exact .inl (.inr (.inr h)); exact .inr h)⟩
      have HOW4 : Aside0 (∀ k, some k = (.slice A7 nn c7 : Value).ownBlock → some k = v.ownBlock ∨ w.heap.size ≤ k) := ⟨fun k hk => by
        rcases hat7 with h | ⟨b, h, hb⟩
        · rw [h] at hk; exact HOW.out k hk
        · rw [h] at hk; injection hk with hk; subst hk; exact .inr (Nat.le_trans HKE3.out.1 hb)⟩
      clear ho7 hb7 hg7 hat7 hHeld B53 BO3 BL3 BA3 HV3 HB3 HKE3 HR6 HOW
      refine hK.out _ _ ⟨(blk_cell BO4.out 0).trans rfl, (blk_cell BL4.out 0).trans rfl, (blk_cell BA4.out 0).trans rfl, (blk_cell B54.out 0).trans rfl, (blk_cell B54.out 1).trans rfl⟩ (fun hHeld => ?_)
      clear hK K
      refine nmA 19 ?_
      have hco := (blk_cell BO4.out 0).trans rfl
      have hfo := blk_frozen BO4.out 0
      refine last_ (i := 10) (N := none) (bs 11 2047) rfl rfl (by kernel_rfl) (by decide) (fun K hK => ?_)
      rw [if_pos (by rfl)]
      go_wp2
      refine hK.out _ _ ?_
      refine done_ (by kernel_rfl) ?_
      clear hK K hHeld hco hfo
      have B56 := Aside0.mk (blk_far B54.out (p := ⟨Bo, 0, none⟩) HD.out.2.2.2.1 (.slice A7 nn c7 : Value))
      have BO6 := Aside0.mk (blk_put BO4.out 0 (.slice A7 nn c7 : Value) rfl)
      have BL6 := Aside0.mk (blk_far BL4.out (p := ⟨Bo, 0, none⟩) HD.out.1.symm (.slice A7 nn c7 : Value))
      have BA6 := Aside0.mk (blk_far BA4.out (p := ⟨Bo, 0, none⟩) HD.out.2.1.symm (.slice A7 nn c7 : Value))
      have HV6 := Aside0.mk (Kd.R_far HV4.out (p := ⟨Bo, 0, none⟩) (fun _ hk => hk.1.1) (.slice A7 nn c7 : Value))
      have HB6 : Aside0 (Below base w (w7.setCell ⟨Bo, 0, none⟩ (.slice A7 nn c7 : Value))) := ⟨HB4.out.setCell (p := ⟨Bo, 0, none⟩) HBS.out.1 _⟩
      have HKE6 : Aside0 (Kept w (w7.setCell ⟨Bo, 0, none⟩ (.slice A7 nn c7 : Value)) (fun k => k = Bo ∨ k = Ba ∨ some k = v.ownBlock)) := ⟨HKE4.out.setCell (p := ⟨Bo, 0, none⟩) (.inl (.inl rfl)) _⟩
      clear B54 BO4 BL4 BA4 HV4 HB4 HKE4
      generalize (w7.setCell ⟨Bo, 0, none⟩ (.slice A7 nn c7 : Value)) = W8 at B56 BO6 BL6 BA6 HV6 HB6 HKE6 ⊢
      have hc5 := blk_cell B56.out
      have hca := blk_cell BA6.out
      have hfa := blk_frozen BA6.out
      have HI : Aside0 (i ≤ 16) := ⟨by have := HK.out; have := HX2.out; omega⟩
      go_wp2
      go_roundg k1
      case measure => have := HK.out; omega
      case rel => exact ⟨i + 1, (.slice A7 nn c7 : Value), (by first | (simp; done) | (simp; have := HI.out; unfold wrap64; omega)), ⟨by have := HK.out; omega⟩, ⟨blk_far B56.out (p := ⟨Ba, 0, none⟩) HD.out.2.2.2.2.2 _⟩, ⟨blk_far BO6.out (p := ⟨Ba, 0, none⟩) HD.out.2.1 _⟩, ⟨blk_far BL6.out (p := ⟨Ba, 0, none⟩) HD.out.2.2.1 _⟩, ⟨by rw [HE2.out]; exact blk_put BA6.out 0 _ rfl⟩, ⟨by rw [HE1.out]; exact Kd.R_far HV6.out (p := ⟨Ba, 0, none⟩) (fun _ hk => hk.1.2.2) _⟩, ⟨HB6.out.setCell (p := ⟨Ba, 0, none⟩) HBS.out.2.1 _⟩, ⟨HKE6.out.setCell (p := ⟨Ba, 0, none⟩) (.inl (.inr (.inl rfl))) _⟩, HOW4⟩
theorem perfS_len (l : List S29) (x : S45 × Int) (st : List S29 × Int) : (perfS l st x).1.length = st.1.length + x.2.toNat * (withinP l x.1).length := repS_len l x st _
theorem secR_mem (r : List S61) : ∀ k, ∀ x ∈ secR r k, x.2 = 1 ∨ ∃ y ∈ r, x = (y.f0, y.f1)
  | 0, x, hx => by simp [secR] at hx
  | k + 1, x, hx => by
    by_cases h : k < r.length
    · rw [secR_step r k h] at hx
      rcases List.mem_append.mp hx with hx | hx
      · exact secR_mem r k x hx
      · rcases List.mem_append.mp hx with hx | hx
        · split at hx
          · simp at hx; subst hx; exact .inl rfl
          · simp at hx
        · simp at hx; exact .inr ⟨_, List.getElem_mem h, hx⟩
    · simp only [secR, dif_neg h] at hx; exact secR_mem r k x hx
theorem secR_len (r : List S61) : ∀ k, (secR r k).length ≤ 2 * k
  | 0 => by simp [secR]
  | k + 1 => by
    have ih := secR_len r k
    by_cases h : k < r.length
    · rw [secR_step r k h]; simp only [List.length_append, List.length_singleton]; split <;> simp <;> omega
    · simp only [secR, dif_neg h]; omega
theorem secsP_mem (n : Int) (r : List S61) (x : S45 × Int) (hx : x ∈ secsP n r) : x.2 = 1 ∨ ∃ y ∈ r, x = (y.f0, y.f1) := by
  unfold secsP at hx
  rcases List.mem_append.mp hx with hx | hx
  · exact secR_mem r _ x hx
  · split at hx
    · simp at hx; subst hx; exact .inl rfl
    · simp at hx
theorem secsP_len (n : Int) (r : List S61) : (secsP n r).length ≤ 2 * r.length + 1 := by
  unfold secsP
  have := secR_len r r.length
  rw [List.length_append]; split <;> simp <;> omega
theorem rCheckP_facts {l : List S29} {n : Int} {r : List S61} (h : rCheckP l n r = 0) : chkS l n = 0 ∧ r.length ≤ 16 ∧ r.any (badR n) = false ∧ ordK r (r.length - 1) = false ∧ r.any (badC26 l) = false ∧ perfP n r ≤ 8192 ∧ symsP l n r ≤ 256 := by
  unfold rCheckP at h
  by_cases c1 : chkS l n = 0
  · rw [if_neg (not_not_intro c1)] at h
    by_cases c2 : 16 < r.length
    · rw [if_pos c2] at h; cases h
    · rw [if_neg c2] at h
      by_cases c3 : r.any (badR n) = true
      · rw [if_pos c3] at h; cases h
      · rw [if_neg c3] at h
        by_cases c4 : ordK r (r.length - 1) = true
        · rw [if_pos c4] at h; cases h
        · rw [if_neg c4] at h
          by_cases c5 : r.any (badC26 l) = true
          · rw [if_pos c5] at h; cases h
          · rw [if_neg c5] at h
            by_cases c6 : 8192 < perfP n r
            · rw [if_pos c6] at h; cases h
            · rw [if_neg c6] at h
              by_cases c7 : 256 < symsP l n r
              · rw [if_pos c7] at h; cases h
              · exact ⟨c1, by omega, by simpa using c3, by simpa using c4, by simpa using c5, by omega, by omega⟩
  · rw [if_pos c1] at h; exact absurd h c1
theorem secs_times {n : Int} {r : List S61} (h : r.any (badR n) = false) (x : S45 × Int) (hx : x ∈ secsP n r) : 1 ≤ x.2 ∧ x.2 ≤ 16 := by
  rcases secsP_mem n r x hx with h1 | ⟨y, hy, rfl⟩
  · omega
  · have := List.any_eq_false.mp h y hy
    simp only [badR, Bool.or_eq_true, decide_eq_true_eq, not_or] at this
    simp only; omega
/-- What Perform says. -/
def rPerformP (l : List S29) (n : Int) (r : List S61) : List S29 × Int :=
  if ¬ rCheckP l n r = 0 then ([], rCheckP l n r) else (((secsP n r).foldl (perfS l) ([], 0)).1, 0)
def repeats_Perform.f (l0 : List S29) (a1 : Int) (l2 : List S61) : Option (List S29 × Int) := some (rPerformP l0 a1 l2)
set_option maxHeartbeats 4000000 in
set_option maxRecDepth 100000 in
theorem repeats_Perform.calls (A0 : Option Addr) (c0 : Nat) (l0 : List S29) (a1 : Int) (A2 : Option Addr) (c2 : Nat) (l2 : List S61) (r1 : List S29) (r2 : Int) (w : World) (hr0 : Kd.C k29 w A0 l0.length l0) (hc0 : l0.length ≤ c0) (hr2 : Kd.C k61 w A2 l2.length l2) (hc2 : l2.length ≤ c2) (h : repeats_Perform.f l0 a1 l2 = some (r1, r2)) :
    Calls Try.prog 42 #[.slice A0 l0.length c0, .int .i64 a1, .slice A2 l2.length c2] w fun e w' => ∃ v0_ : Value, e = .returned (.tuple #[v0_, .int .i64 r2]) ∧ Kd.R k29 29 w' w.heap.size (fun _ => True) v0_ r1 ∧ Below w.heap.size w w' := by
  have H1 := Option.some.inj h
  have HR := Aside0.mk hr0
  have HC := Aside0.mk hc0
  have HR2 := Aside0.mk hr2
  have HC2 := Aside0.mk hc2
  clear h hr0 hc0 hr2 hc2
  obtain ⟨ce, hce⟩ : ∃ ce, rCheckP l0 a1 l2 = ce := ⟨_, rfl⟩
  have HQ : Aside0 (repeats_Check.f l0 a1 l2 = some ce) := ⟨congrArg some hce⟩
  unfold rPerformP at H1
  rw [hce] at H1
  go_enter Try.func42, Try.ntmps42
  go_upto_region 1 with (fail)
  have hb0 : Below w.heap.size w (w.alloc (.cells #[.slice A0 l0.length c0] 22)) := below_alloc (Below.refl _ _) _
  have hb3 : (w.alloc (.cells #[.slice A0 l0.length c0] 22)).heap[w.heap.size]? = some (.cells #[.slice A0 l0.length c0] 22 (0, 0)) := blk_new _ _
  generalize (w.alloc (.cells #[.slice A0 l0.length c0] 22)) = W0 at hb0 hb3 ⊢
  obtain ⟨g3, hg3⟩ : ∃ g, w.heap.size = g := ⟨_, rfl⟩
  have B3 : Aside0 (W0.heap[g3]? = some (.cells #[.slice A0 l0.length c0] 22 (0, 0))) := ⟨by rw [← hg3]; exact hb3⟩
  have hptr : Value.pointer (some { block := w.heap.size, off := 0 }) = Value.pointer (some { block := g3, off := 0 }) := by rw [hg3]
  rw [hptr]
  have HB := Aside0.mk hb0
  clear hptr hg3 hb3 hb0
  have hc3 := blk_cell B3.out
  by_cases h1 : ce = 0
  · subst h1
    rw [if_neg (by decide)] at H1
    obtain ⟨rfl, rfl⟩ := Prod.mk.inj H1
    have hfacts := rCheckP_facts hce
    have HL16 : Aside0 (l2.length ≤ 16) := ⟨hfacts.2.1⟩
    have HL : Aside0 (l0.length ≤ 256) := ⟨tak_len _ _ hfacts.1⟩
    have HT : Aside0 (∀ x ∈ secsP a1 l2, 1 ≤ x.2 ∧ x.2 ≤ 16) := ⟨secs_times hfacts.2.2.1⟩
    clear hce H1 hfacts
    go_upto_region 4 with (first | (go_at_call 40; refine (repeats_Check.calls _ c0 l0 a1 _ c2 l2 _ _ (Kd.C_below HR.out HB.out) HC.out (Kd.C_below HR2.out HB.out) HC2.out HQ.out).mono ?_; rintro e W1 ⟨rfl, hb⟩; have HB1 := Aside0.mk (below_step HB.out hb); have B31 := Aside0.mk (blk_below B3.out hb); clear hb))
    clear HB B3 hc3
    go_upto_region 6 with (fail)
    have hz1 : (W1.alloc (.cells #[.slice none 0 0] 22)).heap.size = W1.heap.size + 1 := by rw [World.size_alloc]
    have ho : ((W1.alloc (.cells #[.slice none 0 0] 22)).alloc (.cells #[.int .i64 0] 3)).heap[W1.heap.size]? = some (.cells #[.slice none 0 0] 22 (0, 0)) := blk_alloc (blk_new _ _) _
    have ha : ((W1.alloc (.cells #[.slice none 0 0] 22)).alloc (.cells #[.int .i64 0] 3)).heap[W1.heap.size + 1]? = some (.cells #[.int .i64 0] 3 (0, 0)) := by rw [← hz1]; exact blk_new _ _
    have hl : ((W1.alloc (.cells #[.slice none 0 0] 22)).alloc (.cells #[.int .i64 0] 3)).heap[g3]? = some (.cells #[.slice A0 l0.length c0] 22 (0, 0)) := blk_alloc (blk_alloc B31.out _) _
    have hb1 : Below w.heap.size w ((W1.alloc (.cells #[.slice none 0 0] 22)).alloc (.cells #[.int .i64 0] 3)) := below_alloc (below_alloc HB1.out _) _
    have hle : w.heap.size ≤ W1.heap.size := below_size HB1.out
    have hg3 := blk_lt B31.out
    clear hz1 HB1 B31
    generalize ((W1.alloc (.cells #[.slice none 0 0] 22)).alloc (.cells #[.int .i64 0] 3)) = W6 at ho ha hl hb1 ⊢
    obtain ⟨go, hgo⟩ : ∃ g, W1.heap.size = g := ⟨_, rfl⟩
    obtain ⟨ga, hga⟩ : ∃ g, W1.heap.size + 1 = g := ⟨_, rfl⟩
    rw [hgo] at ho hle hg3
    rw [hga] at ha
    have hlt2 : go < ga := by omega
    rw [hga, hgo]
    clear hgo hga
    have eg : ∀ args w, (callFunc 76 args).run Try.prog w = .ok (.enter 76 args) w := enters_of Try.func76 (by kernel_rfl) rfl
    have hinj : ∀ {W : World} {u v : Value}, W.heap[go]? = some (.cells #[u] 22 (0, 0)) → W.heap[go]? = some (.cells #[v] 22 (0, 0)) → u = v := by
      intro W u v h1 h2
      rw [h1] at h2
      injection h2 with h2
      injection h2 with h2
      simpa using h2
    have hs := sections_walk 76 eg #[.pointer (some ⟨go, 0, none⟩), .pointer (some ⟨g3, 0, none⟩), .pointer (some ⟨ga, 0, none⟩)] a1 l2 A2 c2 W6 HL16.out
      (fun q W => ∃ v, W.heap[go]? = some (.cells #[v] 22 (0, 0)) ∧ W.heap[ga]? = some (.cells #[.int .i64 (q.foldl (perfS l0) ([], 0)).2] 3 (0, 0)) ∧ Kd.R k29 29 W w.heap.size (fun k => k ≠ go ∧ k ≠ g3 ∧ k ≠ ga) v (q.foldl (perfS l0) ([], 0)).1 ∧ W.heap[g3]? = some (.cells #[.slice A0 l0.length c0] 22 (0, 0)) ∧ Below w.heap.size w W ∧ (q.foldl (perfS l0) ([], 0)).1.length ≤ q.length * 4096)
      (fun q W k => k = go ∨ k = ga ∨ ∃ v, W.heap[go]? = some (.cells #[v] 22 (0, 0)) ∧ some k = v.ownBlock)
      (fun q W W' hj hb => by
        obtain ⟨v, h1, h2, h3, h4, h5, h6⟩ := hj
        exact ⟨v, blk_below h1 hb, blk_below h2 hb, Kd.R_below h3 hb, blk_below h4 hb, below_step h5 hb, h6⟩)
      (fun q W hj => by obtain ⟨v, h1, h2, h3, h4, h5, h6⟩ := hj; exact Kd.C_below HR2.out h5)
      (fun q W W' k hj hb h => by
        obtain ⟨v, h1, _⟩ := hj
        rcases h with h | h | ⟨u, h, hu⟩
        · exact .inl h
        · exact .inr (.inl h)
        · exact .inr (.inr ⟨v, h1, by rw [← hinj h (blk_below h1 hb)]; exact hu⟩))
      (fun q W k hj h => by
        obtain ⟨v, h1, h2, h3, _⟩ := hj
        rcases h with h | h | ⟨u, h, hu⟩
        · rw [h]; exact blk_lt h1
        · rw [h]; exact blk_lt h2
        · rw [hinj h h1] at hu; exact Kd.R_lt h3 k hu.symm)
      (fun q x rest W hpre hj => by
        obtain ⟨v, h1, h2, h3, h4, h5, h6⟩ := hj
        have hx : x ∈ secsP a1 l2 := by rw [hpre]; simp
        have hql : q.length ≤ 33 := by have := secsP_len a1 l2; rw [hpre] at this; simp at this; have := HL16.out; omega
        have hxt := HT.out x hx
        refine (perform_closure go g3 ga w.heap.size (by omega) (by omega) (by omega) A0 c0 l0 x W HL.out HC.out v _ _ hxt.2 (by omega) (by omega) (by omega) (below_size h5) (fun W' hb => Kd.C_below HR.out (h5.trans hb)) h1 h4 h2 h3).mono ?_
        rintro e W' ⟨rfl, v', k1, k2, k3, k4, k5, k6⟩
        have ef : (q ++ [x]).foldl (perfS l0) ([], 0) = perfS l0 ((q.foldl (perfS l0) ([], 0)).1, (q.foldl (perfS l0) ([], 0)).2) x := by rw [List.foldl_append]; rfl
        refine ⟨rfl, ⟨v', k1, by rw [ef]; exact k2, by rw [ef]; exact k3, blk_kept h4 k5 ?_, h5.trans k4, ?_⟩, k5.mono (fun k hk => by rcases hk with hk | hk | hk; exact .inl hk; exact .inr (.inl hk); exact .inr (.inr ⟨v, h1, hk⟩)), ?_⟩
        · rintro (h | h | h)
          · omega
          · omega
          · exact (h3.1 g3 h.symm).2.1 rfl
        · rw [ef, perfS_len]
          have hw := withinP_len l0 x.1
          have : x.2.toNat * (withinP l0 x.1).length ≤ 16 * 256 := Nat.mul_le_mul (by omega) (Nat.le_trans hw HL.out)
          simp only [List.length_append, List.length_singleton]; omega
        · intro k hk
          rcases hk with hk | hk | ⟨u, hk, hu⟩
          · exact .inl (.inl hk)
          · exact .inl (.inr (.inl hk))
          · rw [hinj hk k1] at hu
            rcases k6 k hu with h | h
            · exact .inl (.inr (.inr ⟨v, h1, h⟩))
            · exact .inr h)
      ⟨_, ho, ha, Kd.R_nil _ _ _ _ _, hl, hb1, by simp⟩
    have HS := Aside0.mk hs
    clear hs ho ha hl hb1 hle hg3 hlt2 eg hinj
    generalize hq : (secsP a1 l2).foldl (perfS l0) ([], 0) = res at HS
    have HQQ := Aside0.mk hq
    clear hq
    go_wp2_with (first | (go_at_call 71; refine HS.out.mono ?_; rintro e W9 ⟨rfl, ⟨v, hv, hv2, hv3, hv4, hb, hv6⟩, hk⟩; obtain ⟨A9, c9, rfl⟩ := Kd.R_slice hv3; have HB9 := Aside0.mk hb; have HV9 := Aside0.mk hv3; have hco := (blk_cell hv 0).trans rfl; clear hv hv2 hv3 hv4 hb hk hv6))
    go_ret2
    exact ⟨_, rfl, by rw [HQQ.out]; exact Kd.R_mono HV9.out (fun _ _ => trivial), HB9.out⟩
  · rw [if_pos h1] at H1
    obtain ⟨rfl, rfl⟩ := Prod.mk.inj H1
    have hne0 : (ce != 0) = true := bne_iff_ne.mpr h1
    clear H1 hce h1
    go_wp2_with (first | (go_at_call 40; refine (repeats_Check.calls _ c0 l0 a1 _ c2 l2 _ _ (Kd.C_below HR.out HB.out) HC.out (Kd.C_below HR2.out HB.out) HC2.out HQ.out).mono ?_; rintro e W1 ⟨rfl, hb⟩; have HB1 := Aside0.mk (below_step HB.out hb); have B31 := Aside0.mk (blk_below B3.out hb); clear hb))
    go_ret2
    exact ⟨_, rfl, Kd.R_nil _ _ _ _ _, HB1.out⟩
end Go.Proofs.Ytdilndbanhianaa.P
