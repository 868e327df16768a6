/- staff.Put: what its call returns; no condition. -/
import Derived.Deep.Light
import Derived.Test.YtdilndbanhianaaUColumn
import Derived.Test.YtdilndbanhianaaUMC
import Derived.Test.YtdilndbanhianaaUMB
set_option linter.unusedVariables false
set_option linter.unusedSimpArgs false
namespace Go.Proofs.Ytdilndbanhianaa.P
open Go.RowKit Go.Shelf Go.Proofs.YtdilndbanhianaaW.PrintWords Go.Proofs.YtdilndbanhianaaW.PrintLast Go.Proofs.YtdilndbanhianaaW.PrintMore
attribute [local go_sem] Oper.semAt_some
def hitP (s : S29) (x : Int × S29) : Bool := decide (x.2.f2 < wrap64 (s.f2 + s.f3)) && decide (s.f2 < wrap64 (x.2.f2 + x.2.f3))
/-- What Put says. -/
def putP (l : List S29) (n : Int) (s : S29) : List S29 × Int :=
 if ¬ chkS l n = 0 then ([], chkS l n)
 else if ¬ chkO s = 0 then ([], chkO s)
 else if n < wrap64 (s.f2 + s.f3) then ([], 1)
 else if ((selP l s.f1 l.length).find? (hitP s)).isSome = true then ([], 17)
 else if l.length = 256 then ([], 3)
 else (l.take (placeN l s) ++ [s] ++ l.drop (placeN l s), 0)
def staff_Put.f (l0 : List S29) (a1 b0 b1 b2 b3 b4 b5 b6 : Int) : Option (List S29 × Int) := some (putP l0 a1 ⟨b0, b1, b2, b3, b4, b5, b6⟩)
theorem chkS_ord (l : List S29) (n : Int) (h : chkS l n = 0) : ordS l = true := by
 unfold chkS at h
 split at h
 ·cases h
 ·split at h
  ·cases h
  ·split at h
   ·rename_i h1; exact absurd h h1
   ·split at h
    ·cases h
    ·rename_i h2; exact Bool.not_eq_false _ ▸ h2
def PuI (s : S29) (w : World) (Z g5 g6 g7 : Nat) (pre : List (Int × S29)) (W : World) : Prop :=
 pre.find? (hitP s) = none ∧ W.heap[g5]? = some (.cells #[.int .i64 s.f0, .int .i64 s.f1, .int .i64 s.f2, .int .i64 s.f3, .int .i64 s.f4, .int .i64 s.f5, .int .i64 s.f6] 29 (0, 0)) ∧ W.heap[g6]? = some (.cells #[.slice none 0 0] 22 (0, 0)) ∧ W.heap[g7]? = some (.cells #[.int .i64 0] 24 (0, 0)) ∧ Below w.heap.size w W ∧ Z ≤ W.heap.size
def PuX (s : S29) (w : World) (g6 g7 : Nat) (c : Code) (pre : List (Int × S29)) (W : World) : Prop :=
 c = .ret ∧ (pre.find? (hitP s)).isSome = true ∧ W.heap[g6]? = some (.cells #[.slice none 0 0] 22 (0, 0)) ∧ W.heap[g7]? = some (.cells #[.int .i64 17] 24 (0, 0)) ∧ Below w.heap.size w W
theorem put_results {tmps : Array Value} {g6 g7 : Nat} {v : Value} {r2 : Int} {W6 : World} (ht6 : tmps[6]?.getD undef = .pointer (some ⟨g6, 0, none⟩)) (ht7 : tmps[7]?.getD undef = .pointer (some ⟨g7, 0, none⟩))
  (h6 : W6.heap[g6]? = some (.cells #[v] 22 (0, 0))) (h7 : W6.heap[g7]? = some (.cells #[.int .i64 r2] 24 (0, 0))) : (results Try.f23 tmps).run Try.prog W6 = .ok (.tuple #[v, .int .i64 r2]) W6 := by
 have hc8 : W6.cell? ⟨g6, 0, none⟩ = some v := (blk_cell h6 0).trans rfl
 have hc9 : W6.cell? ⟨g7, 0, none⟩ = some (.int .i64 r2) := (blk_cell h7 0).trans rfl
 simp [results, Try.f23, go_sem, ht6, ht7, hc8, hc9]
theorem put_leave0 {tmps : Array Value} {g6 g7 : Nat} {v : Value} {r1 : List S29} {r2 : Int} {w W6 : World} (ht6 : tmps[6]?.getD undef = .pointer (some ⟨g6, 0, none⟩)) (ht7 : tmps[7]?.getD undef = .pointer (some ⟨g7, 0, none⟩))
  (h6 : W6.heap[g6]? = some (.cells #[v] 22 (0, 0))) (h7 : W6.heap[g7]? = some (.cells #[.int .i64 r2] 24 (0, 0))) (hR : Kd.R k29 29 W6 w.heap.size (fun _ => True) v r1) (hB : Below w.heap.size w W6) :
  bodyPostM Fence.wide 6 Try.prog Try.f23 (fun e w' => ∃ v0_ : Value, e = .returned (.tuple #[v0_, .int .i64 r2]) ∧ Kd.R k29 29 w' w.heap.size (fun _ => True) v0_ r1 ∧ Below w.heap.size w w') Exit.ret { tmps := tmps, defers := [] } W6 :=
 ⟨_, put_results ht6 ht7 h6 h7, _, rfl, hR, hB⟩
theorem put_leave {tmps : Array Value} {g6 g7 D : Nat} {v : Value} {r1 : List S29} {r2 : Int} {w W6 : World} (ht6 : tmps[6]?.getD undef = .pointer (some ⟨g6, 0, none⟩)) (ht7 : tmps[7]?.getD undef = .pointer (some ⟨g7, 0, none⟩))
  (h6 : W6.heap[g6]? = some (.cells #[v] 22 (0, 0))) (h7 : W6.heap[g7]? = some (.cells #[.int .i64 r2] 24 (0, 0))) (hK : W6.heap[D]? = some (.deferred (some []))) (hR : Kd.R k29 29 W6 w.heap.size (fun k => k ≠ D) v r1) (hB : Below w.heap.size w W6) (hD : w.heap.size ≤ D) :
  bodyPostM Fence.wide 6 Try.prog Try.f23 (fun e w' => ∃ v0_ : Value, e = .returned (.tuple #[v0_, .int .i64 r2]) ∧ Kd.R k29 29 w' w.heap.size (fun _ => True) v0_ r1 ∧ Below w.heap.size w w') Exit.ret { tmps := tmps, defers := [{ target := .collected D, args := #[] }] } W6 := by
 refine ⟨by simp, .inl ⟨_, _, rfl, run_takeDeferred hK, ?_⟩⟩
 exact ⟨_, put_results ht6 ht7 (cells_kept h6 (grownBy_putObj' _ D _) (fun r e => by cases e; exact ⟨_, hK, rfl⟩)) (cells_kept h7 (grownBy_putObj' _ D _) (fun r e => by cases e; exact ⟨_, hK, rfl⟩)), _, rfl,
  Kd.R_mono (Kd.R_step hR (fun k hk _ => World.putObj_heap_other hk)) (fun _ _ => trivial), hB.trans (belowK_b (w := w) (Nat.le_refl _) W6 D _ _ hD hK rfl rfl)⟩
set_option maxHeartbeats 8000000 in
set_option maxRecDepth 100000 in
theorem staff_Put.calls (A0 : Option Addr) (c0 : Nat) (l0 : List S29) (a1 b0 b1 b2 b3 b4 b5 b6 : Int) (r1 : List S29) (r2 : Int) (w : World) (hr0 : Kd.C k29 w A0 l0.length l0) (hc0 : l0.length ≤ c0) (h : staff_Put.f l0 a1 b0 b1 b2 b3 b4 b5 b6 = some (r1, r2)) :
  Calls Try.prog 23 #[.slice A0 l0.length c0, .int .i64 a1, .agg #[.int .i64 b0, .int .i64 b1, .int .i64 b2, .int .i64 b3, .int .i64 b4, .int .i64 b5, .int .i64 b6]] w fun e w' => ∃ v0_ : Value, e = .returned (.tuple #[v0_, .int .i64 r2]) ∧ Kd.R k29 29 w' w.heap.size (fun _ => True) v0_ r1 ∧ Below w.heap.size w w' := by
 have hu29 := Try.underlying29
 unfold staff_Put.f at h
 obtain ⟨s, hs⟩ : ∃ s : S29, (⟨b0, b1, b2, b3, b4, b5, b6⟩ : S29) = s := ⟨_, rfl⟩
 rw [hs] at h
 have e0 : b0 = s.f0 := by rw [← hs]
 have e1 : b1 = s.f1 := by rw [← hs]
 have e2 : b2 = s.f2 := by rw [← hs]
 have e3 : b3 = s.f3 := by rw [← hs]
 have e4 : b4 = s.f4 := by rw [← hs]
 have e5 : b5 = s.f5 := by rw [← hs]
 have e6 : b6 = s.f6 := by rw [← hs]
 clear hs
 subst e0 e1 e2 e3 e4 e5 e6
 have H := Aside0.mk (Option.some.inj h)
 have HR := Aside0.mk hr0
 have HC := Aside0.mk hc0
 have hz1 : (w.alloc (.cells #[.int .i64 s.f0, .int .i64 s.f1, .int .i64 s.f2, .int .i64 s.f3, .int .i64 s.f4, .int .i64 s.f5, .int .i64 s.f6] 29)).heap.size = w.heap.size + 1 := by rw [World.size_alloc]
 have hz2 : ((w.alloc (.cells #[.int .i64 s.f0, .int .i64 s.f1, .int .i64 s.f2, .int .i64 s.f3, .int .i64 s.f4, .int .i64 s.f5, .int .i64 s.f6] 29)).alloc (.cells #[.slice none 0 0] 22)).heap.size = w.heap.size + 2 := by rw [World.size_alloc, World.size_alloc]
 have b5 : (((w.alloc (.cells #[.int .i64 s.f0, .int .i64 s.f1, .int .i64 s.f2, .int .i64 s.f3, .int .i64 s.f4, .int .i64 s.f5, .int .i64 s.f6] 29)).alloc (.cells #[.slice none 0 0] 22)).alloc (.cells #[.int .i64 0] 24)).heap[w.heap.size]? = some (.cells #[.int .i64 s.f0, .int .i64 s.f1, .int .i64 s.f2, .int .i64 s.f3, .int .i64 s.f4, .int .i64 s.f5, .int .i64 s.f6] 29 (0, 0)) := blk_alloc (blk_alloc (blk_new _ _) _) _
 have b6 : (((w.alloc (.cells #[.int .i64 s.f0, .int .i64 s.f1, .int .i64 s.f2, .int .i64 s.f3, .int .i64 s.f4, .int .i64 s.f5, .int .i64 s.f6] 29)).alloc (.cells #[.slice none 0 0] 22)).alloc (.cells #[.int .i64 0] 24)).heap[w.heap.size + 1]? = some (.cells #[.slice none 0 0] 22 (0, 0)) := blk_alloc (by rw [← hz1]; exact blk_new _ _) _
 have b7 : (((w.alloc (.cells #[.int .i64 s.f0, .int .i64 s.f1, .int .i64 s.f2, .int .i64 s.f3, .int .i64 s.f4, .int .i64 s.f5, .int .i64 s.f6] 29)).alloc (.cells #[.slice none 0 0] 22)).alloc (.cells #[.int .i64 0] 24)).heap[w.heap.size + 2]? = some (.cells #[.int .i64 0] 24 (0, 0)) := by rw [← hz2]; exact blk_new _ _
 have hb0 : Below w.heap.size w (((w.alloc (.cells #[.int .i64 s.f0, .int .i64 s.f1, .int .i64 s.f2, .int .i64 s.f3, .int .i64 s.f4, .int .i64 s.f5, .int .i64 s.f6] 29)).alloc (.cells #[.slice none 0 0] 22)).alloc (.cells #[.int .i64 0] 24)) := below_alloc (below_alloc (below_alloc (Below.refl _ _) _) _) _
 clear h hr0 hc0
 refine callsIn_wide.1 (callsIn_of_wp_marks (n := 6) Try.func23 rfl trivial ?_)
 refine wpIn_wide.2 ?_
 simp only [Try.ntmps23, List.size_toArray, List.length_cons, List.length_nil, Nat.reduceAdd, Nat.reduceSub, Array.replicate_succ, Array.replicate_zero, List.push_toArray, List.append_toArray, List.nil_append, List.cons_append]
 go_upto_region 1 with (fail)
 generalize (((w.alloc (.cells #[.int .i64 s.f0, .int .i64 s.f1, .int .i64 s.f2, .int .i64 s.f3, .int .i64 s.f4, .int .i64 s.f5, .int .i64 s.f6] 29)).alloc (.cells #[.slice none 0 0] 22)).alloc (.cells #[.int .i64 0] 24)) = W0 at b5 b6 b7 hb0 ⊢
 clear hz1 hz2
 have h56 : w.heap.size ≠ w.heap.size + 1 := by omega
 have h57 : w.heap.size ≠ w.heap.size + 2 := by omega
 have hne67 : w.heap.size + 1 ≠ w.heap.size + 2 := by omega
 have GE6 : Aside0 (w.heap.size ≤ w.heap.size + 1) := ⟨by omega⟩
 have GE7 : Aside0 (w.heap.size ≤ w.heap.size + 2) := ⟨by omega⟩
 have GE5 : Aside0 (w.heap.size ≤ w.heap.size) := ⟨by omega⟩
 have hall : ∃ g5 g6 g7, w.heap.size = g5 ∧ w.heap.size + 1 = g6 ∧ w.heap.size + 2 = g7 := ⟨_, _, _, rfl, rfl, rfl⟩
 obtain ⟨g5, g6, g7, hg5, hg6, hg7⟩ := hall
 have b5' : W0.heap[g5]? = some (.cells #[.int .i64 s.f0, .int .i64 s.f1, .int .i64 s.f2, .int .i64 s.f3, .int .i64 s.f4, .int .i64 s.f5, .int .i64 s.f6] 29 (0, 0)) := by rw [← hg5]; exact b5
 have hptr : Value.pointer (some { block := w.heap.size, off := 0 }) = Value.pointer (some { block := g5, off := 0 }) := by rw [hg5]
 rw [hptr]
 rw [hg6] at b6 GE6 hne67 h56
 rw [hg7] at b7 GE7 hne67 h57
 rw [hg5] at h56 h57
 rw [hg6, hg7]
 have hne76 : g7 ≠ g6 := Ne.symm hne67
 clear hg6 hg7 hptr b5 GE5
 have hg5' := Aside0.mk hg5
 clear hg5
 have B5 := Aside0.mk b5'
 have B6 := Aside0.mk b6
 have B7 := Aside0.mk b7
 have HB := Aside0.mk hb0
 clear b5' b6 b7 hb0
 obtain ⟨ce, hce⟩ : ∃ ce, chkS l0 a1 = ce := ⟨_, rfl⟩
 have HQ : Aside0 (staff_Check.f l0 a1 = some ce) := ⟨congrArg some hce⟩
 obtain ⟨co, hco⟩ : ∃ co, chkO s = co := ⟨_, rfl⟩
 have HO : Aside0 (symbol_Check.f 2 s.f0 s.f1 s.f2 s.f3 s.f4 s.f5 s.f6 = some co) := ⟨by rw [symCheck_eq 0, ← hco]; rfl⟩
 obtain ⟨es, hes⟩ : ∃ es, wrap64 (s.f2 + s.f3) = es := ⟨_, rfl⟩
 have HE : Aside0 (staff_end.f s.f0 s.f1 s.f2 s.f3 s.f4 s.f5 s.f6 = some es) := ⟨by rw [← hes]; rfl⟩
 have HES := Aside0.mk hes
 have H1 := H.out
 unfold putP at H1
 rw [hce, hco, hes] at H1
 by_cases h1 : ce = 0
 ·subst h1
  rw [if_neg (by decide)] at H1
  have HL := Aside0.mk (chkS_len _ _ hce)
  have HOR := Aside0.mk (chkS_ord _ _ hce)
  clear hce H
  by_cases h2 : co = 0
  ·subst h2
   rw [if_neg (by decide)] at H1
   clear hco
   by_cases h3 : a1 < es
   ·rw [if_pos h3] at H1
    obtain ⟨rfl, rfl⟩ := Prod.mk.inj H1
    have d3 : decide (a1 < es) = true := decide_eq_true h3
    clear H1 h3 hes
    go_wp2_with (first | (go_at_call 20; refine (staff_Check.calls A0 c0 l0 a1 _ _ (Kd.C_below HR.out HB.out) HC.out HQ.out).mono ?_; rintro e W1 ⟨rfl, hb⟩; have B5_ := Aside0.mk (blk_below B5.out hb); have B6_ := Aside0.mk (blk_below B6.out hb); have B7_ := Aside0.mk (blk_below B7.out hb); clear B5 B6 B7; have B5 := B5_; have B6 := B6_; have B7 := B7_; clear B5_ B6_ B7_; have hc5 := blk_cell B5.out; have hf5 := blk_frozen B5.out; have hc6 := blk_cell B6.out; have hf6 := blk_frozen B6.out; have hc7 := blk_cell B7.out; have hf7 := blk_frozen B7.out; have HB_ := Aside0.mk (below_step HB.out hb); clear HB; have HB := HB_; clear HB_ hb) | (go_at_call 52; refine (symbol_Check.calls _ s.f0 s.f1 s.f2 s.f3 s.f4 s.f5 s.f6 _ _ HO.out).mono ?_; rintro e W1b ⟨rfl, hb⟩; have B5_ := Aside0.mk (blk_below B5.out hb); have B6_ := Aside0.mk (blk_below B6.out hb); have B7_ := Aside0.mk (blk_below B7.out hb); clear B5 B6 B7; have B5 := B5_; have B6 := B6_; have B7 := B7_; clear B5_ B6_ B7_; have hc5 := blk_cell B5.out; have hf5 := blk_frozen B5.out; have hc6 := blk_cell B6.out; have hf6 := blk_frozen B6.out; have hc7 := blk_cell B7.out; have hf7 := blk_frozen B7.out; have HB_ := Aside0.mk (below_step HB.out hb); clear HB; have HB := HB_; clear HB_ hb) | (go_at_call 54; refine (staff_end.calls s.f0 s.f1 s.f2 s.f3 s.f4 s.f5 s.f6 _ _ HE.out).mono ?_; rintro e W1c ⟨rfl, hb⟩; have B5_ := Aside0.mk (blk_below B5.out hb); have B6_ := Aside0.mk (blk_below B6.out hb); have B7_ := Aside0.mk (blk_below B7.out hb); clear B5 B6 B7; have B5 := B5_; have B6 := B6_; have B7 := B7_; clear B5_ B6_ B7_; have hc5 := blk_cell B5.out; have hf5 := blk_frozen B5.out; have hc6 := blk_cell B6.out; have hf6 := blk_frozen B6.out; have hc7 := blk_cell B7.out; have hf7 := blk_frozen B7.out; have HB_ := Aside0.mk (below_step HB.out hb); clear HB; have HB := HB_; clear HB_ hb))
    exact put_leave0 rfl rfl (blk_far (blk_put B6.out 0 _ rfl) hne67 _) (blk_put (blk_far B7.out hne76 _) 0 _ rfl) (Kd.R_nil _ _ _ _ _) (below_set (below_set HB.out GE6.out) GE7.out)
   ·rw [if_neg h3] at H1
    have d3 : decide (a1 < es) = false := decide_eq_false h3
    have H2 := Aside0.mk H1
    clear H1 h3 hes
    go_wp2_with (first | (go_at_call 20; refine (staff_Check.calls A0 c0 l0 a1 _ _ (Kd.C_below HR.out HB.out) HC.out HQ.out).mono ?_; rintro e W1 ⟨rfl, hb⟩; have B5_ := Aside0.mk (blk_below B5.out hb); have B6_ := Aside0.mk (blk_below B6.out hb); have B7_ := Aside0.mk (blk_below B7.out hb); clear B5 B6 B7; have B5 := B5_; have B6 := B6_; have B7 := B7_; clear B5_ B6_ B7_; have hc5 := blk_cell B5.out; have hf5 := blk_frozen B5.out; have hc6 := blk_cell B6.out; have hf6 := blk_frozen B6.out; have hc7 := blk_cell B7.out; have hf7 := blk_frozen B7.out; have HB_ := Aside0.mk (below_step HB.out hb); clear HB; have HB := HB_; clear HB_ hb) | (go_at_call 52; refine (symbol_Check.calls _ s.f0 s.f1 s.f2 s.f3 s.f4 s.f5 s.f6 _ _ HO.out).mono ?_; rintro e W1b ⟨rfl, hb⟩; have B5_ := Aside0.mk (blk_below B5.out hb); have B6_ := Aside0.mk (blk_below B6.out hb); have B7_ := Aside0.mk (blk_below B7.out hb); clear B5 B6 B7; have B5 := B5_; have B6 := B6_; have B7 := B7_; clear B5_ B6_ B7_; have hc5 := blk_cell B5.out; have hf5 := blk_frozen B5.out; have hc6 := blk_cell B6.out; have hf6 := blk_frozen B6.out; have hc7 := blk_cell B7.out; have hf7 := blk_frozen B7.out; have HB_ := Aside0.mk (below_step HB.out hb); clear HB; have HB := HB_; clear HB_ hb) | (go_at_call 54; refine (staff_end.calls s.f0 s.f1 s.f2 s.f3 s.f4 s.f5 s.f6 _ _ HE.out).mono ?_; rintro e W1c ⟨rfl, hb⟩; have B5_ := Aside0.mk (blk_below B5.out hb); have B6_ := Aside0.mk (blk_below B6.out hb); have B7_ := Aside0.mk (blk_below B7.out hb); clear B5 B6 B7; have B5 := B5_; have B6 := B6_; have B7 := B7_; clear B5_ B6_ B7_; have hc5 := blk_cell B5.out; have hf5 := blk_frozen B5.out; have hc6 := blk_cell B6.out; have hf6 := blk_frozen B6.out; have hc7 := blk_cell B7.out; have hf7 := blk_frozen B7.out; have HB_ := Aside0.mk (below_step HB.out hb); clear HB; have HB := HB_; clear HB_ hb) | (go_at_call 61; refine (of_call A0 c0 l0.length s.f1 _).mono ?_; rintro e W2 ⟨rfl, hb, hsz, hBl, hBc⟩; have B5_ := Aside0.mk (blk_below B5.out hb); have B6_ := Aside0.mk (blk_below B6.out hb); have B7_ := Aside0.mk (blk_below B7.out hb); clear B5 B6 B7; have B5 := B5_; have B6 := B6_; have B7 := B7_; clear B5_ B6_ B7_; have hc5 := blk_cell B5.out; have hf5 := blk_frozen B5.out; have hc6 := blk_cell B6.out; have hf6 := blk_frozen B6.out; have hc7 := blk_cell B7.out; have hf7 := blk_frozen B7.out; have HB_ := Aside0.mk (below_step HB.out hb); clear HB; have HB := HB_; clear HB_ hb))
    clear hsz hc5 hf5 hc6 hf6 hc7 hf7
    have hle : w.heap.size ≤ W2.heap.size := below_size HB.out
    refine (wpIn_wide (n := 6)).1 ?_
    refine wpIn_rangeFunc_ownH (F := Fence.wide) rfl (by decide) (gf := 88) (lb := #[.pointer (some ⟨W1c.heap.size, 0, none⟩), .pointer (some ⟨W1c.heap.size + 1, 0, none⟩)]) rfl trivial (enters_of Try.func88 (by kernel_rfl) rfl)
     (of_stops Fence.wide 5 trivial rfl (by decide) W1c.heap.size (W1c.heap.size + 1) A0 c0 l0 s.f1 w W2 HR.out HL.out HB.out hBl hBc) kpO_t (kpO_b hle) (Below.refl _ _) (fun _ => rfl)
     (PuI s w W2.heap.size g5 g6 g7) (PuX s w g6 g7)
     (fun q A B row hs hg hr => ⟨hs.1, cells_kept hs.2.1 hg (fun r e => (hr r e).2), cells_kept hs.2.2.1 hg (fun r e => (hr r e).2), cells_kept hs.2.2.2.1 hg (fun r e => (hr r e).2), ownFrom_below (β := Unit) (w₀ := w) (Nat.le_refl _) hle () A B row hs.2.2.2.2.1 hg hr, Nat.le_trans hs.2.2.2.2.2 hg.size⟩)
     (fun c q A B row hs hg hr => by
      obtain ⟨hc, hx, h8, h9, hb⟩ := hs
      exact ⟨hc, hx, cells_kept h8 hg (fun r e => (hr r e).2), cells_kept h9 hg (fun r e => (hr r e).2), ownFrom_below (β := Unit) (w₀ := w) (Nat.le_refl _) hle () A B row hb hg hr⟩)
     ⟨rfl, B5.out, B6.out, B7.out, HB.out, Nat.le_refl _⟩
     (fun x a' W => ∃ Bx, W2.heap.size ≤ Bx ∧ W.heap[Bx]? = some (.cells (arrS x.2) 29 (0, 0)) ∧ a' = { tmps := #[.slice A0 l0.length c0, .int .i64 a1, .agg #[.int .i64 s.f0, .int .i64 s.f1, .int .i64 s.f2, .int .i64 s.f3, .int .i64 s.f4, .int .i64 s.f5, .int .i64 s.f6], undef, undef, .pointer (some ⟨g5, 0, none⟩), .pointer (some ⟨g6, 0, none⟩), .pointer (some ⟨g7, 0, none⟩), .int .i64 0, .int .i64 0, undef, .pointer (some ⟨Bx, 0, none⟩), undef, undef, .slice A0 l0.length c0, .int .i64 a1, .int .i64 0, .int .i64 0, .bool false, undef, .agg #[.int .i64 s.f0, .int .i64 s.f1, .int .i64 s.f2, .int .i64 s.f3, .int .i64 s.f4, .int .i64 s.f5, .int .i64 s.f6], .int .i64 0, .int .i64 0, .bool false, undef, .agg #[.int .i64 s.f0, .int .i64 s.f1, .int .i64 s.f2, .int .i64 s.f3, .int .i64 s.f4, .int .i64 s.f5, .int .i64 s.f6], .int .i64 es, .int .i64 a1, .bool false, .slice A0 l0.length c0, .pointer (some ⟨g5, 1, none⟩), .int .i64 s.f1, .func (.func 88) #[] #[.pointer (some ⟨W1c.heap.size, 0, none⟩), .pointer (some ⟨W1c.heap.size + 1, 0, none⟩)], .int .i64 x.1, .agg (arrS x.2), undef, undef, undef, undef, undef, undef, undef, undef, undef, undef, undef, undef, undef, undef, undef, undef, undef, undef, undef, undef, undef, undef, undef, undef, undef, undef, undef, undef, undef, undef, undef, undef, undef, undef, undef, undef], defers := [] })
     (fun x a' u A B row hs hg hr => by
      obtain ⟨Bx, hBx, hbx, e⟩ := hs
      exact ⟨Bx, hBx, cells_kept hbx hg (fun r e => (hr r e).2), e⟩) ?assign ?body ?done ?stop
    case assign =>
     rintro l pre x W K ⟨hm, h5, h6, h7, hB, hZ⟩ hK
     obtain ⟨i, x⟩ := x
     dsimp only [arrS]
     gi_wp2
     exact hK _ _ ((KeepsOthers.alloc _ _).from _) ⟨(Below.refl _ W).alloc hB.size _, fun cs hb => blk_alloc hb _⟩ ⟨hm, blk_alloc h5 _, blk_alloc h6 _, blk_alloc h7 _, hB.alloc hB.size _, by rw [World.size_alloc]; omega⟩ ⟨W.heap.size, hZ, blk_new _ _, rfl⟩
    case body =>
     rintro l pre x a' W hl ⟨r, hr⟩ ⟨hm, h5, h6, h7, hB, hZ⟩ ⟨Bx, hBx, hbx, rfl⟩ hlt
     obtain ⟨i, x⟩ := x
     dsimp only [arrS] at hbx ⊢
     have hc5 := blk_cell h5
     have hcx := blk_cell hbx
     have hmx : Try.prog.follows .mixedOrders = true := by kernel_rfl
     obtain ⟨ex, hex⟩ : ∃ ex, wrap64 (x.f2 + x.f3) = ex := ⟨_, rfl⟩
     have HEX : Aside0 (staff_end.f x.f0 x.f1 x.f2 x.f3 x.f4 x.f5 x.f6 = some ex) := ⟨by rw [← hex]; rfl⟩
     have HX := Aside0.mk hex
     clear hex
     have hit : hitP s (i, x) = (decide (x.f2 < es) && decide (s.f2 < ex)) := by unfold hitP; rw [← HX.out, ← HES.out]
     have HIT := Aside0.mk hit
     clear hit
     by_cases q1 : x.f2 < es
     ·have d1 : decide (x.f2 < es) = true := decide_eq_true q1
      gi_wp2
      refine wpIn_mono (Q := fun e a' W5 => e = .normal ∧ a' = { tmps := #[.slice A0 l0.length c0, .int .i64 a1, .agg #[.int .i64 s.f0, .int .i64 s.f1, .int .i64 s.f2, .int .i64 s.f3, .int .i64 s.f4, .int .i64 s.f5, .int .i64 s.f6], undef, undef, .pointer (some ⟨g5, 0, none⟩), .pointer (some ⟨g6, 0, none⟩), .pointer (some ⟨g7, 0, none⟩), .int .i64 0, .int .i64 0, undef, .pointer (some ⟨Bx, 0, none⟩), undef, undef, .slice A0 l0.length c0, .int .i64 a1, .int .i64 0, .int .i64 0, .bool false, undef, .agg #[.int .i64 s.f0, .int .i64 s.f1, .int .i64 s.f2, .int .i64 s.f3, .int .i64 s.f4, .int .i64 s.f5, .int .i64 s.f6], .int .i64 0, .int .i64 0, .bool false, undef, .agg #[.int .i64 s.f0, .int .i64 s.f1, .int .i64 s.f2, .int .i64 s.f3, .int .i64 s.f4, .int .i64 s.f5, .int .i64 s.f6], .int .i64 es, .int .i64 a1, .bool false, .slice A0 l0.length c0, .pointer (some ⟨g5, 1, none⟩), .int .i64 s.f1, .func (.func 88) #[] #[.pointer (some ⟨W1c.heap.size, 0, none⟩), .pointer (some ⟨W1c.heap.size + 1, 0, none⟩)], .int .i64 i, .agg #[.int .i64 x.f0, .int .i64 x.f1, .int .i64 x.f2, .int .i64 x.f3, .int .i64 x.f4, .int .i64 x.f5, .int .i64 x.f6], .pointer (some ⟨Bx, 2, none⟩), .int .i64 x.f2, .agg #[.int .i64 s.f0, .int .i64 s.f1, .int .i64 s.f2, .int .i64 s.f3, .int .i64 s.f4, .int .i64 s.f5, .int .i64 s.f6], .int .i64 es, .bool true, .bool true, .pointer (some ⟨g5, 2, none⟩), .int .i64 s.f2, .agg #[.int .i64 x.f0, .int .i64 x.f1, .int .i64 x.f2, .int .i64 x.f3, .int .i64 x.f4, .int .i64 x.f5, .int .i64 x.f6], .int .i64 ex, .bool (decide (s.f2 < ex)), .bool (decide (s.f2 < ex)), undef, undef, undef, undef, undef, undef, undef, undef, undef, undef, undef, undef, undef, undef, undef, undef, undef, undef, undef, undef, undef, undef, undef, undef], defers := [] } ∧ Below W.drew.heap.size W.drew W5) ?_ ?_
      ·(try clear HIT); (try clear HX); (try clear H2); (try clear HL); (try clear HOR); (try clear HES); (try clear HO); (try clear HQ); (try clear B5); (try clear B6); (try clear B7); (try clear HB); (try clear hm); (try clear hB); (try clear hZ); (try clear hr); (try clear hl); (try clear hlt); (try clear h6); (try clear h7); (try clear hle); (try clear HR); (try clear HC); (try clear d3); (try clear hBl); (try clear hBc); (try clear GE6); (try clear GE7); (try clear hne67); (try clear hne76); (try clear h56); (try clear h57); (try clear hg5'); (try clear q1); (try clear hb_)
       gi_region_with_o (first | (refine ⟨trivial, ?_⟩; gi_at_call 54; refine (CallsIn.inRound l (callsIn_wide.2 (staff_end.calls s.f0 s.f1 s.f2 s.f3 s.f4 s.f5 s.f6 _ _ HE.out))).mono ?_; rintro e W5 ⟨rfl, hb⟩; have hc55 := blk_cell (blk_below (blk_drew h5) hb); have hcx5 := blk_cell (blk_below (blk_drew hbx) hb)) | (refine ⟨trivial, ?_⟩; gi_at_call 54; refine (CallsIn.inRound l (callsIn_wide.2 (staff_end.calls x.f0 x.f1 x.f2 x.f3 x.f4 x.f5 x.f6 _ _ HEX.out))).mono ?_; rintro e W6 ⟨rfl, hb6⟩; have hc56 := blk_cell (blk_below (blk_below (blk_drew h5) hb) hb6); have hcx6 := blk_cell (blk_below (blk_below (blk_drew hbx) hb) hb6)))
       all_goals exact ⟨rfl, rfl, below_step hb hb6⟩
      ·rintro e a' W5 ⟨rfl, rfl, hb⟩
       have h55 := blk_below (blk_drew h5) hb
       have h65 := blk_below (blk_drew h6) hb
       have h75 := blk_below (blk_drew h7) hb
       have hB5 : Below w.heap.size w W5 := below_step (below_drew1 hB) hb
       have hZ5 : W2.heap.size ≤ W5.heap.size := Nat.le_trans hZ hb.size
       have hK5 : KeepsFrom W2.heap.size W W5 := keepsFrom_below hb
       have hP5 : KpO w.heap.size (W1c.heap.size + 1) W W5 := kpO_below hB.size hb
       by_cases q2 : s.f2 < ex
       ·have d2 : decide (s.f2 < ex) = true := decide_eq_true q2
        rw [d2]
        have hc6 := blk_cell h65
        have hf6 := blk_frozen h65
        have hc7 := blk_cell h75
        have hf7 := blk_frozen h75
        clear hb
        gi_wp2
        exact ⟨hK5.trans (((KeepsOthers.setCell _ _ _).trans (KeepsOthers.setCell _ _ _)).from _), rfl, by rw [List.find?_append, hm]; simp [HIT.out, d1, d2], blk_far (blk_put h65 0 _ rfl) hne67 _, blk_put (blk_far h75 hne76 _) 0 _ rfl, below_set (below_set hB5 GE6.out) GE7.out⟩
       ·have d2 : decide (s.f2 < ex) = false := decide_eq_false q2
        rw [d2]
        clear hb
        gi_wp2
        exact ⟨hK5, hP5, by rw [List.find?_append, hm]; simp [HIT.out, d1, d2], h55, h65, h75, hB5, hZ5⟩
     ·have d1 : decide (x.f2 < es) = false := decide_eq_false q1
      gi_wp2
      refine wpIn_mono (Q := fun e a' W5 => e = .normal ∧ a' = { tmps := #[.slice A0 l0.length c0, .int .i64 a1, .agg #[.int .i64 s.f0, .int .i64 s.f1, .int .i64 s.f2, .int .i64 s.f3, .int .i64 s.f4, .int .i64 s.f5, .int .i64 s.f6], undef, undef, .pointer (some ⟨g5, 0, none⟩), .pointer (some ⟨g6, 0, none⟩), .pointer (some ⟨g7, 0, none⟩), .int .i64 0, .int .i64 0, undef, .pointer (some ⟨Bx, 0, none⟩), undef, undef, .slice A0 l0.length c0, .int .i64 a1, .int .i64 0, .int .i64 0, .bool false, undef, .agg #[.int .i64 s.f0, .int .i64 s.f1, .int .i64 s.f2, .int .i64 s.f3, .int .i64 s.f4, .int .i64 s.f5, .int .i64 s.f6], .int .i64 0, .int .i64 0, .bool false, undef, .agg #[.int .i64 s.f0, .int .i64 s.f1, .int .i64 s.f2, .int .i64 s.f3, .int .i64 s.f4, .int .i64 s.f5, .int .i64 s.f6], .int .i64 es, .int .i64 a1, .bool false, .slice A0 l0.length c0, .pointer (some ⟨g5, 1, none⟩), .int .i64 s.f1, .func (.func 88) #[] #[.pointer (some ⟨W1c.heap.size, 0, none⟩), .pointer (some ⟨W1c.heap.size + 1, 0, none⟩)], .int .i64 i, .agg #[.int .i64 x.f0, .int .i64 x.f1, .int .i64 x.f2, .int .i64 x.f3, .int .i64 x.f4, .int .i64 x.f5, .int .i64 x.f6], .pointer (some ⟨Bx, 2, none⟩), .int .i64 x.f2, .agg #[.int .i64 s.f0, .int .i64 s.f1, .int .i64 s.f2, .int .i64 s.f3, .int .i64 s.f4, .int .i64 s.f5, .int .i64 s.f6], .int .i64 es, .bool false, .bool false, undef, undef, undef, undef, undef, .bool false, undef, undef, undef, undef, undef, undef, undef, undef, undef, undef, undef, undef, undef, undef, undef, undef, undef, undef, undef, undef, undef, undef, undef, undef], defers := [] } ∧ Below W.drew.heap.size W.drew W5) ?_ ?_
      ·(try clear HIT); (try clear HX); (try clear H2); (try clear HL); (try clear HOR); (try clear HES); (try clear HO); (try clear HQ); (try clear B5); (try clear B6); (try clear B7); (try clear HB); (try clear hm); (try clear hB); (try clear hZ); (try clear hr); (try clear hl); (try clear hlt); (try clear h6); (try clear h7); (try clear hle); (try clear HR); (try clear HC); (try clear d3); (try clear hBl); (try clear hBc); (try clear GE6); (try clear GE7); (try clear hne67); (try clear hne76); (try clear h56); (try clear h57); (try clear hg5'); (try clear q1); (try clear hb_)
       gi_region_with_o (first | (refine ⟨trivial, ?_⟩; gi_at_call 54; refine (CallsIn.inRound l (callsIn_wide.2 (staff_end.calls s.f0 s.f1 s.f2 s.f3 s.f4 s.f5 s.f6 _ _ HE.out))).mono ?_; rintro e W5 ⟨rfl, hb⟩; have hc55 := blk_cell (blk_below (blk_drew h5) hb); have hcx5 := blk_cell (blk_below (blk_drew hbx) hb)) | (refine ⟨trivial, ?_⟩))
       all_goals exact ⟨rfl, rfl, hb⟩
      ·rintro e a' W5 ⟨rfl, rfl, hb⟩
       have h55 := blk_below (blk_drew h5) hb
       have h65 := blk_below (blk_drew h6) hb
       have h75 := blk_below (blk_drew h7) hb
       have hB5 : Below w.heap.size w W5 := below_step (below_drew1 hB) hb
       have hZ5 : W2.heap.size ≤ W5.heap.size := Nat.le_trans hZ hb.size
       have hK5 : KeepsFrom W2.heap.size W W5 := keepsFrom_below hb
       have hP5 : KpO w.heap.size (W1c.heap.size + 1) W W5 := kpO_below hB.size hb
       clear hb
       gi_wp2
       exact ⟨hK5, hP5, by rw [List.find?_append, hm]; simp [HIT.out, d1], h55, h65, h75, hB5, hZ5⟩
    case done =>
     rintro D xs W hD rfl ⟨hm, h5, h6, h7, hB, hZ⟩ hK
     have HK := Aside0.mk hK
     have h2 := H2.out
     rw [hm, if_neg (by decide)] at h2
     have hlen := HL.out
     by_cases h4 : l0.length = 256
     ·rw [if_pos h4] at h2
      obtain ⟨rfl, rfl⟩ := Prod.mk.inj h2
      have d4 : ((l0.length : Int) == 256) = true := by simp; omega
      have hc6 := blk_cell h6
      have hf6 := blk_frozen h6
      have hc7 := blk_cell h7
      have hf7 := blk_frozen h7
      clear h2
      go_wp2
      exact put_leave rfl rfl (blk_far (blk_put h6 0 _ rfl) hne67 _) (blk_put (blk_far h7 hne76 _) 0 _ rfl) (((KeepsOthers.setCell _ _ _).trans (KeepsOthers.setCell _ _ _)).same D _ hK rfl) (Kd.R_nil _ _ _ _ _) (below_set (below_set hB GE6.out) GE7.out) (Nat.le_trans hle hD)
     ·rw [if_neg h4] at h2
      obtain ⟨rfl, rfl⟩ := Prod.mk.inj h2
      have d4 : ((l0.length : Int) == 256) = false := by simp; omega
      have hN := (place_at l0 s HOR.out).1
      have HPL : Aside0 (staff_place.f l0 s.f0 s.f1 s.f2 s.f3 s.f4 s.f5 s.f6 = some (placeN l0 s : Int)) := ⟨by unfold staff_place.f; rw [if_pos ⟨HOR.out, hlen⟩]⟩
      obtain ⟨N, hNe⟩ : ∃ N, placeN l0 s = N := ⟨_, rfl⟩
      rw [hNe] at hN HPL
      have HNE := Aside0.mk hNe
      clear hNe
      have hc5 := blk_cell h5
      clear h2
      go_upto_region 16 with (first | (go_at_call 62; refine (staff_place.calls A0 c0 l0 s.f0 s.f1 s.f2 s.f3 s.f4 s.f5 s.f6 _ _ (Kd.C_below HR.out hB) HC.out HPL.out).mono ?_; rintro e W4 ⟨rfl, hb⟩; have HB4 := Aside0.mk (below_step hB hb); have G5 := Aside0.mk (blk_below h5 hb); have G6 := Aside0.mk (blk_below h6 hb); have G7 := Aside0.mk (blk_below h7 hb); have GK : Aside0 (W4.heap[D]? = some (.deferred (some []))) := ⟨(hb.block D (Array.getElem?_eq_some_iff.1 hK).1).trans hK⟩))
      obtain ⟨nc, hnc⟩ : ∃ nc : Int, wrap64 ((l0.length : Int) + 1) = nc := ⟨_, rfl⟩
      have hncv : nc = (l0.length : Int) + 1 := by rw [← hnc, wrap_in _ (by omega) (by omega)]
      have p0 : 0 ≤ nc := by omega
      have p1 : nc.toNat * 56 ≤ 281474976710656 := by omega
      obtain ⟨i0, hi0, hzz0, hsz0, _⟩ := info_parts info29
      have hcut1 : ∀ W' : World, (Instr.slice 22 (.slice A0 l0.length c0) none (some (.int .i64 (N : Int))) none).run Try.prog W' = .ok (.slice A0 N c0) W' := by
       intro W'
       have := cut_to (P := Try.prog) 22 29 .i64 Try.underlying22 hi0 A0 l0.length c0 (N : Int) (by omega) (by omega) HC.out W'
       rw [Int.toNat_natCast] at this
       exact this
      have hC1 : Kd.C k29 w A0 N (l0.take N) := by
       have := Kd.C_take (m := N) HR.out hN
       rwa [List.length_take, Nat.min_eq_left hN] at this
      obtain ⟨A3, hA3⟩ : ∃ A3, (if c0 = N then A0 else A0.map (·.add (N * 7))) = A3 := ⟨_, rfl⟩
      have hcut2 : ∀ W' : World, (Instr.slice 22 (.slice A0 l0.length c0) (some (.int .i64 (N : Int))) none none).run Try.prog W' = .ok (.slice A3 (l0.length - N) (c0 - N)) W' := by
       intro W'
       have := cut_from (P := Try.prog) 22 29 .i64 Try.underlying22 hi0 7 hsz0 A0 l0.length c0 (N : Int) (by omega) (by omega) W'
       rw [Int.toNat_natCast, hA3] at this
       exact this
      have hC2 : Kd.C k29 w A3 (l0.length - N) (l0.drop N) := by
       have := Kd.C_drop (c := c0) (m := N) HR.out hN HC.out
       rw [List.length_drop] at this
       rw [← hA3]
       exact this
      have l4 : D < W4.heap.size := (Array.getElem?_eq_some_iff.1 GK.out).1
      have l6 : g6 < W4.heap.size := blk_lt G6.out
      have l7 : g7 < W4.heap.size := blk_lt G7.out
      have hle4 : w.heap.size ≤ W4.heap.size := below_size HB4.out
      have hC1' := Aside0.mk hC1
      have hC2' := Aside0.mk hC2
      have hl1 : (l0.take N).length = N := by rw [List.length_take]; omega
      clear hc5 h5 h6 h7 hm hC1 hC2 hK HK hB
      go_wp2_with (first | ((with_reducible refine gate_dst (N := 56) rfl ?_); refine Kd.R_makecap k29 _ 29 rfl (N := 56) rfl 22 _ _ rfl _ rfl rfl Try.underlying22 (.agg #[(.int .i64 0), (.int .i64 0), (.int .i64 0), (.int .i64 0), (.int .i64 0), (.int .i64 0), (.int .i64 0)]) 56 info29 rfl (by decide) (by omega) z29 (ok := fun _ => True) (okp := fun _ => True) (k29_mkM _ _ _ z29) (fun _ hk => hk) trivial (by first | (rw [hnc]; exact p0) | exact p0 | omega) (by first | (rw [hnc]; exact p1) | exact p1 | omega) (Below.refl W4.heap.size W4) (Nat.le_refl _) ?_; intro v1 w5 ho1 hb1 hg1 hnew1; clear hg1 hnew1) | ((with_reducible refine gate_builtin (b := .append) (xs := #[.tmp 57, .tmp 60]) rfl ?_); at_builtin; refine Kd.R_append_rows k29 (w0 := W4) W4.heap.size rfl (.tmp 57) (.tmp 60) 22 29 (.agg #[(.int .i64 0), (.int .i64 0), (.int .i64 0), (.int .i64 0), (.int .i64 0), (.int .i64 0), (.int .i64 0)]) 56 rfl Try.underlying22 info29 rfl (by decide) (by omega) v1 ([] : List S29) (l0.take N) _ _ _ (fun _ => True) (fun _ => False) rfl rfl ho1 (Kd.C_below hC1'.out (below_step HB4.out hb1)) (fun _ _ h => h) (fun _ h => h.elim) (fun _ _ => trivial) hb1 (below_size hb1) (by simp only [List.length_nil]; omega) ?_; intro v2 w6 ho2 hb2 hg2 hat2; rw [List.nil_append] at ho2; have hc52 := blk_cell (blk_below G5.out hb2); clear hg2 hat2) | ((with_reducible refine gate_builtin (b := .append) (xs := #[.tmp 62, .tmp 64]) rfl ?_); at_builtin; refine Kd.R_append k29 (w0 := W4) W4.heap.size rfl (.tmp 62) (.tmp 64) 22 29 (.agg #[(.int .i64 0), (.int .i64 0), (.int .i64 0), (.int .i64 0), (.int .i64 0), (.int .i64 0), (.int .i64 0)]) 56 rfl Try.underlying22 info29 rfl (by decide) (by omega) v2 (l0.take N) s [.int .i64 s.f0, .int .i64 s.f1, .int .i64 s.f2, .int .i64 s.f3, .int .i64 s.f4, .int .i64 s.f5, .int .i64 s.f6] (fun _ => True) (fun _ => False) rfl (by first | (go_simp; done) | (go_simp; rfl)) (k29_mkM _ _ _ s) (fun _ hk => hk.elim) (fun _ _ => trivial) ho2 hb2 (below_size hb2) (by omega) ?_; intro v3 w7 ho3 hb3 hg3 hat3; clear hg3 hat3) | ((with_reducible refine gate_builtin (b := .append) (xs := #[.tmp 66, .tmp 69]) rfl ?_); at_builtin; refine Kd.R_append_rows k29 (w0 := W4) W4.heap.size rfl (.tmp 66) (.tmp 69) 22 29 (.agg #[(.int .i64 0), (.int .i64 0), (.int .i64 0), (.int .i64 0), (.int .i64 0), (.int .i64 0), (.int .i64 0)]) 56 rfl Try.underlying22 info29 rfl (by decide) (by omega) v3 (l0.take N ++ [s]) (l0.drop N) _ _ _ (fun _ => True) (fun _ => False) rfl rfl ho3 (Kd.C_below hC2'.out (below_step HB4.out hb3)) (fun _ _ h => h) (fun _ h => h.elim) (fun _ _ => trivial) hb3 (below_size hb3) (by rw [List.length_append, hl1]; simp only [List.length_cons, List.length_nil]; omega) ?_; intro v4 w8 ho4 hb4 hg4 hat4; obtain ⟨A4, c4, he4⟩ := Kd.R_slice ho4; obtain ⟨m4, hm4⟩ : ∃ m, (l0.take N ++ [s] ++ l0.drop N).length = m := ⟨_, rfl⟩; rw [hm4] at he4; clear hm4; subst he4; have h68 := blk_below G6.out hb4; have h78 := blk_below G7.out hb4; have hc6 := blk_cell h68; have hf6 := blk_frozen h68; have hc7 := blk_cell h78; have hf7 := blk_frozen h78; clear hg4 hat4))
      rw [← HNE.out] at ho4
      have hr4 := Kd.R_mono (ok' := fun k => W4.heap.size ≤ k) (Kd.R_bound ho4) (fun _ hk => hk.2.1)
      have hk8 : w8.heap[D]? = some (.deferred (some [])) := (hb4.block D l4).trans GK.out
      exact put_leave rfl rfl (blk_far (blk_put h68 0 _ rfl) hne67 _) (blk_put (blk_far h78 hne76 _) 0 _ rfl) (((KeepsOthers.setCell _ _ _).trans (KeepsOthers.setCell _ _ _)).same D _ hk8 rfl)
       (Kd.R_mono (Kd.R_lower (Kd.R_far (p := ⟨g7, 0, none⟩) (Kd.R_far (p := ⟨g6, 0, none⟩) hr4 (fun k hk => by show k ≠ g6; omega) _) (fun k hk => by show k ≠ g7; omega) _) hle4) (fun k hk => by omega)) (below_set (below_set (below_step HB4.out hb4) GE6.out) GE7.out) (Nat.le_trans hle hD)
    case stop =>
     rintro D c pre W hD ⟨k, hk, rfl⟩ ⟨rfl, hx, h8, h9, hB⟩ hK
     rw [wpIn_wide]
     go_wp2
     have h2 := H2.out
     obtain ⟨x, hx'⟩ := Option.isSome_iff_exists.mp hx
     have hfull := selP_find l0 s.f1 (hitP s) k l0.length hk x hx'
     rw [hfull, if_pos (show (some x).isSome = true from rfl)] at h2
     obtain ⟨rfl, rfl⟩ := Prod.mk.inj h2
     exact put_leave rfl rfl h8 h9 hK (Kd.R_nil _ _ _ _ _) hB (Nat.le_trans hle hD)
  ·rw [if_pos h2] at H1
   obtain ⟨rfl, rfl⟩ := Prod.mk.inj H1
   have hne0 : (co != 0) = true := bne_iff_ne.mpr h2
   clear H1 h2 hco hes
   go_wp2_with (first | (go_at_call 20; refine (staff_Check.calls A0 c0 l0 a1 _ _ (Kd.C_below HR.out HB.out) HC.out HQ.out).mono ?_; rintro e W1 ⟨rfl, hb⟩; have B5_ := Aside0.mk (blk_below B5.out hb); have B6_ := Aside0.mk (blk_below B6.out hb); have B7_ := Aside0.mk (blk_below B7.out hb); clear B5 B6 B7; have B5 := B5_; have B6 := B6_; have B7 := B7_; clear B5_ B6_ B7_; have hc5 := blk_cell B5.out; have hf5 := blk_frozen B5.out; have hc6 := blk_cell B6.out; have hf6 := blk_frozen B6.out; have hc7 := blk_cell B7.out; have hf7 := blk_frozen B7.out; have HB_ := Aside0.mk (below_step HB.out hb); clear HB; have HB := HB_; clear HB_ hb) | (go_at_call 52; refine (symbol_Check.calls _ s.f0 s.f1 s.f2 s.f3 s.f4 s.f5 s.f6 _ _ HO.out).mono ?_; rintro e W1b ⟨rfl, hb⟩; have B5_ := Aside0.mk (blk_below B5.out hb); have B6_ := Aside0.mk (blk_below B6.out hb); have B7_ := Aside0.mk (blk_below B7.out hb); clear B5 B6 B7; have B5 := B5_; have B6 := B6_; have B7 := B7_; clear B5_ B6_ B7_; have hc5 := blk_cell B5.out; have hf5 := blk_frozen B5.out; have hc6 := blk_cell B6.out; have hf6 := blk_frozen B6.out; have hc7 := blk_cell B7.out; have hf7 := blk_frozen B7.out; have HB_ := Aside0.mk (below_step HB.out hb); clear HB; have HB := HB_; clear HB_ hb))
   exact put_leave0 rfl rfl (blk_far (blk_put B6.out 0 _ rfl) hne67 _) (blk_put (blk_far B7.out hne76 _) 0 _ rfl) (Kd.R_nil _ _ _ _ _) (below_set (below_set HB.out GE6.out) GE7.out)
 ·rw [if_pos h1] at H1
  obtain ⟨rfl, rfl⟩ := Prod.mk.inj H1
  have hne0 : (ce != 0) = true := bne_iff_ne.mpr h1
  clear H H1 hce h1 hco hes
  go_wp2_with (first | (go_at_call 20; refine (staff_Check.calls A0 c0 l0 a1 _ _ (Kd.C_below HR.out HB.out) HC.out HQ.out).mono ?_; rintro e W1 ⟨rfl, hb⟩; have B5_ := Aside0.mk (blk_below B5.out hb); have B6_ := Aside0.mk (blk_below B6.out hb); have B7_ := Aside0.mk (blk_below B7.out hb); clear B5 B6 B7; have B5 := B5_; have B6 := B6_; have B7 := B7_; clear B5_ B6_ B7_; have hc5 := blk_cell B5.out; have hf5 := blk_frozen B5.out; have hc6 := blk_cell B6.out; have hf6 := blk_frozen B6.out; have hc7 := blk_cell B7.out; have hf7 := blk_frozen B7.out; have HB_ := Aside0.mk (below_step HB.out hb); clear HB; have HB := HB_; clear HB_ hb))
  exact put_leave0 rfl rfl (blk_far (blk_put B6.out 0 _ rfl) hne67 _) (blk_put (blk_far B7.out hne76 _) 0 _ rfl) (Kd.R_nil _ _ _ _ _) (below_set (below_set HB.out GE6.out) GE7.out)
end Go.Proofs.Ytdilndbanhianaa.P
