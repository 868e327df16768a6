/- staff.At: what its call returns; no condition. -/
import Derived.Deep.Light
import Derived.Test.YtdilndbanhianaaUIter
import Derived.Test.YtdilndbanhianaaUMC
set_option linter.unusedVariables false
set_option linter.unusedSimpArgs false
namespace Go.Proofs.Ytdilndbanhianaa.P
open Go.RowKit Go.Shelf Go.Proofs.YtdilndbanhianaaW.PrintWords Go.Proofs.YtdilndbanhianaaW.PrintLast Go.Proofs.YtdilndbanhianaaW.PrintMore
attribute [local go_sem] Oper.semAt_some
def hitB (t : Int) (x : Int × S29) : Bool := decide (x.2.f2 ≤ t) && decide (t < wrap64 (x.2.f2 + x.2.f3))
/-- What At says. -/
def atP (l : List S29) (n c t : Int) : Int × Int :=
 if ¬ chkS l n = 0 then (0, chkS l n)
 else if c < 0 ∨ 9 ≤ c then (0, 16)
 else if t < 0 ∨ n ≤ t then (0, 1)
 else ((((selP l c l.length).find? (hitB t)).map (·.1)).getD (-1), 0)
def staff_At.f (l0 : List S29) (a1 a2 a3 : Int) : Option (Int × Int) := some (atP l0 a1 a2 a3)
/-- Between two rounds; behind a round that has left. -/
def AtI (t : Int) (w : World) (Z g7 g8 g9 : Nat) (pre : List (Int × S29)) (W : World) : Prop :=
 pre.find? (hitB t) = none ∧ W.heap[g7]? = some (.cells #[.int .i64 t] 3 (0, 0)) ∧ W.heap[g8]? = some (.cells #[.int .i64 0] 3 (0, 0)) ∧ W.heap[g9]? = some (.cells #[.int .i64 0] 24 (0, 0)) ∧ Below w.heap.size w W ∧ Z ≤ W.heap.size
def AtX (t : Int) (w : World) (g8 g9 : Nat) (c : Code) (pre : List (Int × S29)) (W : World) : Prop :=
 c = .ret ∧ ∃ x : Int × S29, pre.find? (hitB t) = some x ∧ W.heap[g8]? = some (.cells #[.int .i64 x.1] 3 (0, 0)) ∧ W.heap[g9]? = some (.cells #[.int .i64 0] 24 (0, 0)) ∧ Below w.heap.size w W
theorem chkS_len (l : List S29) (n : Int) (h : chkS l n = 0) : l.length ≤ 256 := by
 unfold chkS at h
 split at h
 ·cases h
 ·split at h
  ·cases h
  ·omega
theorem at_results {tmps : Array Value} {g8 g9 : Nat} {r1 r2 : Int} {W6 : World} (ht8 : tmps[8]?.getD undef = .pointer (some ⟨g8, 0, none⟩)) (ht9 : tmps[9]?.getD undef = .pointer (some ⟨g9, 0, none⟩))
  (h8 : W6.heap[g8]? = some (.cells #[.int .i64 r1] 3 (0, 0))) (h9 : W6.heap[g9]? = some (.cells #[.int .i64 r2] 24 (0, 0))) : (results Try.f30 tmps).run Try.prog W6 = .ok (.tuple #[.int .i64 r1, .int .i64 r2]) W6 := by
 have hc8 : W6.cell? ⟨g8, 0, none⟩ = some (.int .i64 r1) := (blk_cell h8 0).trans rfl
 have hc9 : W6.cell? ⟨g9, 0, none⟩ = some (.int .i64 r2) := (blk_cell h9 0).trans rfl
 simp [results, Try.f30, go_sem, ht8, ht9, hc8, hc9]
theorem at_leave0 {tmps : Array Value} {g8 g9 : Nat} {r1 r2 : Int} {w W6 : World} (ht8 : tmps[8]?.getD undef = .pointer (some ⟨g8, 0, none⟩)) (ht9 : tmps[9]?.getD undef = .pointer (some ⟨g9, 0, none⟩))
  (h8 : W6.heap[g8]? = some (.cells #[.int .i64 r1] 3 (0, 0))) (h9 : W6.heap[g9]? = some (.cells #[.int .i64 r2] 24 (0, 0))) (hB : Below w.heap.size w W6) :
  bodyPostM Fence.wide 6 Try.prog Try.f30 (fun e w' => e = .returned (.tuple #[.int .i64 r1, .int .i64 r2]) ∧ Below w.heap.size w w') Exit.ret { tmps := tmps, defers := [] } W6 :=
 ⟨_, at_results ht8 ht9 h8 h9, rfl, hB⟩
theorem at_leave {tmps : Array Value} {g8 g9 D : Nat} {r1 r2 : Int} {w W6 : World} (ht8 : tmps[8]?.getD undef = .pointer (some ⟨g8, 0, none⟩)) (ht9 : tmps[9]?.getD undef = .pointer (some ⟨g9, 0, none⟩))
  (h8 : W6.heap[g8]? = some (.cells #[.int .i64 r1] 3 (0, 0))) (h9 : W6.heap[g9]? = some (.cells #[.int .i64 r2] 24 (0, 0))) (hK : W6.heap[D]? = some (.deferred (some []))) (hB : Below w.heap.size w W6) (hD : w.heap.size ≤ D) :
  bodyPostM Fence.wide 6 Try.prog Try.f30 (fun e w' => e = .returned (.tuple #[.int .i64 r1, .int .i64 r2]) ∧ Below w.heap.size w w') Exit.ret { tmps := tmps, defers := [{ target := .collected D, args := #[] }] } W6 := by
 refine ⟨by simp, .inl ⟨_, _, rfl, run_takeDeferred hK, ?_⟩⟩
 exact ⟨_, at_results ht8 ht9 (cells_kept h8 (grownBy_putObj' _ D _) (fun r e => by cases e; exact ⟨_, hK, rfl⟩)) (cells_kept h9 (grownBy_putObj' _ D _) (fun r e => by cases e; exact ⟨_, hK, rfl⟩)), rfl,
  hB.trans (belowK_b (w := w) (Nat.le_refl _) W6 D _ _ hD hK rfl rfl)⟩
set_option maxHeartbeats 4000000 in
set_option maxRecDepth 100000 in
theorem staff_At.calls (A0 : Option Addr) (c0 : Nat) (l0 : List S29) (a1 a2 a3 : Int) (r1 r2 : Int) (w : World) (hr0 : Kd.C k29 w A0 l0.length l0) (hc0 : l0.length ≤ c0) (h : staff_At.f l0 a1 a2 a3 = some (r1, r2)) :
  Calls Try.prog 30 #[.slice A0 l0.length c0, .int .i64 a1, .int .i64 a2, .int .i64 a3] w fun e w' => e = .returned (.tuple #[.int .i64 r1, .int .i64 r2]) ∧ Below w.heap.size w w' := by
 have hu29 := Try.underlying29
 have H := Aside0.mk (Option.some.inj h)
 have HR := Aside0.mk hr0
 have HC := Aside0.mk hc0
 have hz1 : (w.alloc (.cells #[.int .i64 a3] 3)).heap.size = w.heap.size + 1 := by rw [World.size_alloc]
 have hz2 : ((w.alloc (.cells #[.int .i64 a3] 3)).alloc (.cells #[.int .i64 0] 3)).heap.size = w.heap.size + 2 := by rw [World.size_alloc, World.size_alloc]
 have b7 : (((w.alloc (.cells #[.int .i64 a3] 3)).alloc (.cells #[.int .i64 0] 3)).alloc (.cells #[.int .i64 0] 24)).heap[w.heap.size]? = some (.cells #[.int .i64 a3] 3 (0, 0)) := blk_alloc (blk_alloc (blk_new _ _) _) _
 have b8 : (((w.alloc (.cells #[.int .i64 a3] 3)).alloc (.cells #[.int .i64 0] 3)).alloc (.cells #[.int .i64 0] 24)).heap[w.heap.size + 1]? = some (.cells #[.int .i64 0] 3 (0, 0)) := blk_alloc (by rw [← hz1]; exact blk_new _ _) _
 have b9 : (((w.alloc (.cells #[.int .i64 a3] 3)).alloc (.cells #[.int .i64 0] 3)).alloc (.cells #[.int .i64 0] 24)).heap[w.heap.size + 2]? = some (.cells #[.int .i64 0] 24 (0, 0)) := by rw [← hz2]; exact blk_new _ _
 have hb0 : Below w.heap.size w (((w.alloc (.cells #[.int .i64 a3] 3)).alloc (.cells #[.int .i64 0] 3)).alloc (.cells #[.int .i64 0] 24)) := below_alloc (below_alloc (below_alloc (Below.refl _ _) _) _) _
 clear h hr0 hc0
 refine callsIn_wide.1 (callsIn_of_wp_marks (n := 6) Try.func30 rfl trivial ?_)
 refine wpIn_wide.2 ?_
 simp only [Try.ntmps30, List.size_toArray, List.length_cons, List.length_nil, Nat.reduceAdd, Nat.reduceSub, Array.replicate_succ, Array.replicate_zero, List.push_toArray, List.append_toArray, List.nil_append, List.cons_append]
 go_upto_region 1 with (fail)
 generalize (((w.alloc (.cells #[.int .i64 a3] 3)).alloc (.cells #[.int .i64 0] 3)).alloc (.cells #[.int .i64 0] 24)) = W0 at b7 b8 b9 hb0 ⊢
 have GE8 : Aside0 (w.heap.size ≤ w.heap.size + 1) := ⟨by omega⟩
 have GE9 : Aside0 (w.heap.size ≤ w.heap.size + 2) := ⟨by omega⟩
 have GE7 : Aside0 (w.heap.size ≤ w.heap.size) := ⟨by omega⟩
 have hne : w.heap.size + 1 ≠ w.heap.size + 2 := by omega
 have hne' : w.heap.size + 2 ≠ w.heap.size + 1 := by omega
 have hn7 : w.heap.size ≠ w.heap.size + 1 := by omega
 have hn7' : w.heap.size ≠ w.heap.size + 2 := by omega
 clear hz1 hz2
 obtain ⟨g7, hg7⟩ : ∃ g, w.heap.size = g := ⟨_, rfl⟩
 obtain ⟨g8, hg8⟩ : ∃ g, w.heap.size + 1 = g := ⟨_, rfl⟩
 obtain ⟨g9, hg9⟩ : ∃ g, w.heap.size + 2 = g := ⟨_, rfl⟩
 rw [hg8] at b8 GE8 hne hne' hn7
 rw [hg9] at b9 GE9 hne hne' hn7'
 rw [hg7] at hn7 hn7'
 have GE7' : Aside0 (w.heap.size ≤ g7) := ⟨by omega⟩
 have b7' : W0.heap[g7]? = some (.cells #[.int .i64 a3] 3 (0, 0)) := by rw [← hg7]; exact b7
 rw [hg8, hg9]
 have hptr : Value.pointer (some { block := w.heap.size, off := 0 }) = Value.pointer (some { block := g7, off := 0 }) := by rw [hg7]
 rw [hptr]
 have hHG := Aside0.mk hg7
 clear hg8 hg9 hg7 b7 GE7 hptr
 have B7 := Aside0.mk b7'
 have B8 := Aside0.mk b8
 have B9 := Aside0.mk b9
 have HB := Aside0.mk hb0
 clear b7' b8 b9 hb0
 obtain ⟨ce, hce⟩ : ∃ ce, chkS l0 a1 = ce := ⟨_, rfl⟩
 have HQ : Aside0 (staff_Check.f l0 a1 = some ce) := ⟨congrArg some hce⟩
 have H1 := H.out
 unfold atP at H1
 rw [hce] at H1
 by_cases h1 : ce = 0
 ·subst h1
  rw [if_neg (by decide)] at H1
  have HL := Aside0.mk (chkS_len _ _ hce)
  clear hce H
  by_cases h2 : a2 < 0 ∨ 9 ≤ a2
  ·rw [if_pos h2] at H1
   obtain ⟨rfl, rfl⟩ := Prod.mk.inj H1
   by_cases h3 : a2 < 0
   ·have e1 : decide (a2 < 0) = true := decide_eq_true h3
    clear H1 h2 h3
    go_wp2_with (first | (go_at_call 20; refine (staff_Check.calls A0 c0 l0 a1 _ _ (Kd.C_below HR.out HB.out) HC.out HQ.out).mono ?_; rintro e W1 ⟨rfl, hb⟩; have HB1 := Aside0.mk (below_step HB.out hb); have B71 := Aside0.mk (blk_below B7.out hb); have B81 := Aside0.mk (blk_below B8.out hb); have B91 := Aside0.mk (blk_below B9.out hb); have hc7 := blk_cell B71.out; have hc8 := blk_cell B81.out; have hf8 := blk_frozen B81.out; have hc9 := blk_cell B91.out; have hf9 := blk_frozen B91.out; clear hb))
    exact at_leave0 rfl rfl (blk_far (blk_put B81.out 0 _ rfl) hne _) (blk_put (blk_far B91.out hne' _) 0 _ rfl) (below_set (below_set HB1.out GE8.out) GE9.out)
   ·have e1 : decide (a2 < 0) = false := decide_eq_false h3
    have e2 : decide (9 ≤ a2) = true := decide_eq_true (by omega)
    clear H1 h2 h3
    go_wp2_with (first | (go_at_call 20; refine (staff_Check.calls A0 c0 l0 a1 _ _ (Kd.C_below HR.out HB.out) HC.out HQ.out).mono ?_; rintro e W1 ⟨rfl, hb⟩; have HB1 := Aside0.mk (below_step HB.out hb); have B71 := Aside0.mk (blk_below B7.out hb); have B81 := Aside0.mk (blk_below B8.out hb); have B91 := Aside0.mk (blk_below B9.out hb); have hc7 := blk_cell B71.out; have hc8 := blk_cell B81.out; have hf8 := blk_frozen B81.out; have hc9 := blk_cell B91.out; have hf9 := blk_frozen B91.out; clear hb))
    exact at_leave0 rfl rfl (blk_far (blk_put B81.out 0 _ rfl) hne _) (blk_put (blk_far B91.out hne' _) 0 _ rfl) (below_set (below_set HB1.out GE8.out) GE9.out)
  ·rw [if_neg h2] at H1
   have e1 : decide (a2 < 0) = false := by simp; omega
   have e2 : decide (9 ≤ a2) = false := by simp; omega
   by_cases h3 : a3 < 0 ∨ a1 ≤ a3
   ·rw [if_pos h3] at H1
    obtain ⟨rfl, rfl⟩ := Prod.mk.inj H1
    by_cases h4 : a3 < 0
    ·have e3 : decide (a3 < 0) = true := decide_eq_true h4
     clear H1 h2 h3 h4
     go_wp2_with (first | (go_at_call 20; refine (staff_Check.calls A0 c0 l0 a1 _ _ (Kd.C_below HR.out HB.out) HC.out HQ.out).mono ?_; rintro e W1 ⟨rfl, hb⟩; have HB1 := Aside0.mk (below_step HB.out hb); have B71 := Aside0.mk (blk_below B7.out hb); have B81 := Aside0.mk (blk_below B8.out hb); have B91 := Aside0.mk (blk_below B9.out hb); have hc7 := blk_cell B71.out; have hc8 := blk_cell B81.out; have hf8 := blk_frozen B81.out; have hc9 := blk_cell B91.out; have hf9 := blk_frozen B91.out; clear hb))
     exact at_leave0 rfl rfl (blk_far (blk_put B81.out 0 _ rfl) hne _) (blk_put (blk_far B91.out hne' _) 0 _ rfl) (below_set (below_set HB1.out GE8.out) GE9.out)
    ·have e3 : decide (a3 < 0) = false := decide_eq_false h4
     have e4 : decide (a1 ≤ a3) = true := decide_eq_true (by omega)
     clear H1 h2 h3 h4
     go_wp2_with (first | (go_at_call 20; refine (staff_Check.calls A0 c0 l0 a1 _ _ (Kd.C_below HR.out HB.out) HC.out HQ.out).mono ?_; rintro e W1 ⟨rfl, hb⟩; have HB1 := Aside0.mk (below_step HB.out hb); have B71 := Aside0.mk (blk_below B7.out hb); have B81 := Aside0.mk (blk_below B8.out hb); have B91 := Aside0.mk (blk_below B9.out hb); have hc7 := blk_cell B71.out; have hc8 := blk_cell B81.out; have hf8 := blk_frozen B81.out; have hc9 := blk_cell B91.out; have hf9 := blk_frozen B91.out; clear hb))
     exact at_leave0 rfl rfl (blk_far (blk_put B81.out 0 _ rfl) hne _) (blk_put (blk_far B91.out hne' _) 0 _ rfl) (below_set (below_set HB1.out GE8.out) GE9.out)
   ·rw [if_neg h3] at H1
    have e3 : decide (a3 < 0) = false := by simp; omega
    have e4 : decide (a1 ≤ a3) = false := by simp; omega
    have H2 := Aside0.mk H1
    clear H1 h2 h3
    go_upto_region 8 with (first | (go_at_call 20; refine (staff_Check.calls A0 c0 l0 a1 _ _ (Kd.C_below HR.out HB.out) HC.out HQ.out).mono ?_; rintro e W1 ⟨rfl, hb⟩; have HB1 := Aside0.mk (below_step HB.out hb); have B71 := Aside0.mk (blk_below B7.out hb); have B81 := Aside0.mk (blk_below B8.out hb); have B91 := Aside0.mk (blk_below B9.out hb); have hc7 := blk_cell B71.out; have hc8 := blk_cell B81.out; have hf8 := blk_frozen B81.out; have hc9 := blk_cell B91.out; have hf9 := blk_frozen B91.out; clear hb))
    go_wp2_with (first | (go_at_call 61; refine (of_call A0 c0 l0.length a2 _).mono ?_; rintro e W2 ⟨rfl, hb, hsz, hBl, hBc⟩; have HB2 := Aside0.mk (below_step HB1.out hb); have B72 := Aside0.mk (blk_below B71.out hb); have B82 := Aside0.mk (blk_below B81.out hb); have B92 := Aside0.mk (blk_below B91.out hb)))
    clear hsz
    clear hc7 hc8 hf8 hc9 hf9
    have l7 : g7 < W1.heap.size := blk_lt B71.out
    have l8 : g8 < W1.heap.size := blk_lt B81.out
    have l9 : g9 < W1.heap.size := blk_lt B91.out
    have hle : w.heap.size ≤ W2.heap.size := below_size HB2.out
    refine (wpIn_wide (n := 6)).1 ?_
    refine wpIn_rangeFunc_ownH (F := Fence.wide) rfl (by decide) (gf := 88) (lb := #[.pointer (some ⟨W1.heap.size, 0, none⟩), .pointer (some ⟨W1.heap.size + 1, 0, none⟩)]) rfl trivial (enters_of Try.func88 (by kernel_rfl) rfl)
     (of_stops Fence.wide 5 trivial rfl (by decide) W1.heap.size (W1.heap.size + 1) A0 c0 l0 a2 w W2 HR.out HL.out HB2.out hBl hBc) kpO_t (kpO_b hle) (Below.refl _ _) (fun _ => rfl)
     (AtI a3 w W2.heap.size g7 g8 g9) (AtX a3 w g8 g9)
     (fun s A B row hs hg hr => ⟨hs.1, cells_kept hs.2.1 hg (fun r e => (hr r e).2), cells_kept hs.2.2.1 hg (fun r e => (hr r e).2), cells_kept hs.2.2.2.1 hg (fun r e => (hr r e).2), ownFrom_below (β := Unit) (w₀ := w) (Nat.le_refl _) hle () A B row hs.2.2.2.2.1 hg hr, Nat.le_trans hs.2.2.2.2.2 hg.size⟩)
     (fun c s A B row hs hg hr => by
      obtain ⟨hc, x, hx, h8, h9, hb⟩ := hs
      exact ⟨hc, x, hx, cells_kept h8 hg (fun r e => (hr r e).2), cells_kept h9 hg (fun r e => (hr r e).2), ownFrom_below (β := Unit) (w₀ := w) (Nat.le_refl _) hle () A B row hb hg hr⟩)
     ⟨rfl, B72.out, B82.out, B92.out, HB2.out, Nat.le_refl _⟩
     (fun x a' W => ∃ Bx, W2.heap.size ≤ Bx ∧ W.heap[Bx]? = some (.cells (arrS x.2) 29 (0, 0)) ∧ a' = { tmps := #[.slice A0 l0.length c0, .int .i64 a1, .int .i64 a2, .int .i64 a3, undef, undef, undef, .pointer (some ⟨g7, 0, none⟩), .pointer (some ⟨g8, 0, none⟩), .pointer (some ⟨g9, 0, none⟩), .int .i64 0, .int .i64 x.1, .pointer (some ⟨Bx, 0, none⟩), .slice A0 l0.length c0, .int .i64 a1, .int .i64 0, .int .i64 0, .bool false, undef, .int .i64 a2, .bool false, .bool false, .int .i64 a2, .bool false, .bool false, .int .i64 a3, .bool false, .bool false, .int .i64 a3, .int .i64 a1, .bool false, .bool false, .slice A0 l0.length c0, .int .i64 a2, .func (.func 88) #[] #[.pointer (some ⟨W1.heap.size, 0, none⟩), .pointer (some ⟨W1.heap.size + 1, 0, none⟩)], .int .i64 x.1, .agg (arrS x.2), undef, undef, undef, undef, undef, undef, undef, undef, undef, undef, undef], defers := [] })
     (fun x a' u A B row hs hg hr => by
      obtain ⟨Bx, hBx, hbx, e⟩ := hs
      exact ⟨Bx, hBx, cells_kept hbx hg (fun r e => (hr r e).2), e⟩) ?assign ?body ?done ?stop
    case assign =>
     rintro l pre x W K ⟨hm, h7, h8, h9, hB, hZ⟩ hK
     obtain ⟨i, s⟩ := x
     dsimp only [arrS]
     gi_wp2
     exact hK _ _ ((KeepsOthers.alloc _ _).from _) ⟨(Below.refl _ W).alloc hB.size _, fun cs hb => blk_alloc hb _⟩ ⟨hm, blk_alloc h7 _, blk_alloc h8 _, blk_alloc h9 _, hB.alloc hB.size _, by rw [World.size_alloc]; omega⟩ ⟨W.heap.size, hZ, blk_new _ _, rfl⟩
    case body =>
     rintro l pre x a' W hl ⟨r, hr⟩ ⟨hm, h7, h8, h9, hB, hZ⟩ ⟨Bx, hBx, hbx, rfl⟩ hlt
     obtain ⟨i, s⟩ := x
     have hc7 : W.cell? ⟨g7, 0, none⟩ = some (.int .i64 a3) := (blk_cell h7 0).trans rfl
     have hx0 : W.cell? ⟨Bx, 0, none⟩ = some (.int .i64 s.f0) := (blk_cell hbx 0).trans rfl
     have hx1 : W.cell? ⟨Bx, 1, none⟩ = some (.int .i64 s.f1) := (blk_cell hbx 1).trans rfl
     have hx2 : W.cell? ⟨Bx, 2, none⟩ = some (.int .i64 s.f2) := (blk_cell hbx 2).trans rfl
     have hx3 : W.cell? ⟨Bx, 3, none⟩ = some (.int .i64 s.f3) := (blk_cell hbx 3).trans rfl
     have hx4 : W.cell? ⟨Bx, 4, none⟩ = some (.int .i64 s.f4) := (blk_cell hbx 4).trans rfl
     have hx5 : W.cell? ⟨Bx, 5, none⟩ = some (.int .i64 s.f5) := (blk_cell hbx 5).trans rfl
     have hx6 : W.cell? ⟨Bx, 6, none⟩ = some (.int .i64 s.f6) := (blk_cell hbx 6).trans rfl
     have hmx : Try.prog.follows .mixedOrders = true := by kernel_rfl
     by_cases q1 : s.f2 ≤ a3
     ·have d1 : decide (s.f2 ≤ a3) = true := decide_eq_true q1
      dsimp only [arrS] at hbx ⊢
      gi_wp2
      gi_region_with_o (refine ⟨trivial, ?_⟩; gi_at_call 54; refine (CallsIn.inRound l (callsIn_wide.2 (staff_end.calls s.f0 s.f1 s.f2 s.f3 s.f4 s.f5 s.f6 _ _ rfl))).mono ?_; rintro e W5 ⟨rfl, hb⟩; have h75 := blk_cell (blk_below (blk_drew h7) hb); have hbx5 := blk_cell (blk_below (blk_drew hbx) hb))
      all_goals
       have h85 := blk_below (blk_drew h8) hb
       have h95 := blk_below (blk_drew h9) hb
       have h77 := blk_below (blk_drew h7) hb
       have hB5 : Below w.heap.size w W5 := below_step (below_drew1 hB) hb
       have hZ5 : W2.heap.size ≤ W5.heap.size := Nat.le_trans hZ hb.size
       have hK5 : KeepsFrom W2.heap.size W W5 := keepsFrom_below hb
       have hP5 : KpO w.heap.size (W1.heap.size + 1) W W5 := kpO_below hB.size hb
       clear h75 hbx5
       by_cases q2 : a3 < wrap64 (s.f2 + s.f3)
       ·have d2 : decide (a3 < wrap64 (s.f2 + s.f3)) = true := decide_eq_true q2
        rw [d2]
        have hc8 := blk_cell h85
        have hf8 := blk_frozen h85
        have hc9 := blk_cell h95
        have hf9 := blk_frozen h95
        clear hb
        gi_wp2
        refine ⟨hK5.trans (((KeepsOthers.setCell _ _ _).trans (KeepsOthers.setCell _ _ _)).from _), rfl, (i, s), ?_, ?_, ?_, below_set (below_set hB5 GE8.out) GE9.out⟩
        ·rw [List.find?_append, hm]; simp [hitB, d1, d2]
        ·exact blk_far (blk_put h85 0 _ rfl) hne _
        ·exact blk_put (blk_far h95 hne' _) 0 _ rfl
       ·have d2 : decide (a3 < wrap64 (s.f2 + s.f3)) = false := decide_eq_false q2
        rw [d2]
        clear hb
        gi_wp2
        exact ⟨hK5, hP5, by rw [List.find?_append, hm]; simp [hitB, d1, d2], h77, h85, h95, hB5, hZ5⟩
     ·have d1 : decide (s.f2 ≤ a3) = false := decide_eq_false q1
      dsimp only [arrS] at hbx ⊢
      gi_wp2
      gi_region_with_o (refine ⟨trivial, ?_⟩)
      all_goals gi_wp2
      all_goals exact ⟨(KeepsOthers.drew _).from _, ⟨(Below.refl _ W).drew, fun cs h => blk_drew h⟩, by rw [List.find?_append, hm]; simp [hitB, d1], blk_drew h7, blk_drew h8, blk_drew h9, below_drew1 hB, hZ⟩
    case done =>
     rintro D xs W hD rfl ⟨hm, h7, h8, h9, hB, hZ⟩ hK
     have hc8 := blk_cell h8
     have hf8 := blk_frozen h8
     have hc9 := blk_cell h9
     have hf9 := blk_frozen h9
     go_wp2
     have h2 := H2.out
     rw [hm] at h2
     obtain ⟨rfl, rfl⟩ := Prod.mk.inj h2
     exact at_leave rfl rfl (blk_far (blk_put h8 0 _ rfl) hne _) (blk_put (blk_far h9 hne' _) 0 _ rfl) (((KeepsOthers.setCell _ _ _).trans (KeepsOthers.setCell _ _ _)).same D _ hK rfl) (below_set (below_set hB GE8.out) GE9.out) (Nat.le_trans hle hD)
    case stop =>
     rintro D c pre W hD ⟨k, hk, rfl⟩ ⟨rfl, x, hx, h8, h9, hB⟩ hK
     rw [wpIn_wide]
     go_wp2
     have h2 := H2.out
     have hfull : (selP l0 a2 l0.length).find? (hitB a3) = some x := selP_find l0 a2 (hitB a3) k l0.length hk x hx
     rw [hfull] at h2
     obtain ⟨rfl, rfl⟩ := Prod.mk.inj h2
     exact at_leave rfl rfl h8 h9 hK hB (Nat.le_trans hle hD)
 ·rw [if_pos h1] at H1
  have e1 : r1 = 0 := by injection H1 with a b; exact a.symm
  have e2 : r2 = ce := by injection H1 with a b; exact b.symm
  subst e1 e2
  have hne0 : (r2 != 0) = true := bne_iff_ne.mpr h1
  clear H H1 hce h1
  go_wp2_with (first | (go_at_call 20; refine (staff_Check.calls A0 c0 l0 a1 _ _ (Kd.C_below HR.out HB.out) HC.out HQ.out).mono ?_; rintro e W1 ⟨rfl, hb⟩; have HB1 := Aside0.mk (below_step HB.out hb); have B71 := Aside0.mk (blk_below B7.out hb); have B81 := Aside0.mk (blk_below B8.out hb); have B91 := Aside0.mk (blk_below B9.out hb); have hc7 := blk_cell B71.out; have hc8 := blk_cell B81.out; have hf8 := blk_frozen B81.out; have hc9 := blk_cell B91.out; have hf9 := blk_frozen B91.out; clear hb))
  exact at_leave0 rfl rfl (blk_far (blk_put B81.out 0 _ rfl) hne _) (blk_put (blk_far B91.out hne' _) 0 _ rfl) (below_set (below_set HB1.out GE8.out) GE9.out)
end Go.Proofs.Ytdilndbanhianaa.P
