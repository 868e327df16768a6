/- repeats.performed: what its call returns, for at most 16 repetitions. -/
import Derived.Test.YtdilndbanhianaaSecs
set_option linter.unusedVariables false
set_option linter.unusedSimpArgs false
namespace Go.Proofs.Ytdilndbanhianaa.P
open Go.RowKit Go.Proofs.YtdilndbanhianaaW.PrintWords Go.Proofs.YtdilndbanhianaaW.PrintLast Go.Proofs.YtdilndbanhianaaW.PrintMore
def tickS (a : Int) (x : S45 × Int) : Int := wrap64 (a + wrap64 (wrap64 (x.1.f1 - x.1.f0) * x.2))
/-- The performed length. -/
def perfP (n : Int) (r : List S61) : Int := (secsP n r).foldl tickS 0
def repeats_performed.f (a0 : Int) (l1 : List S61) : Option Int := if l1.length ≤ 16 then some (perfP a0 l1) else none
set_option maxHeartbeats 1000000 in
theorem perfd_closure (Bn : Nat) (v : Int) (x : S45 × Int) (w : World) (hb : w.heap[Bn]? = some (.cells #[.int .i64 v] 3 (0, 0))) :
    Calls Try.prog 91 (#[.agg #[.int .i64 x.1.f0, .int .i64 x.1.f1], .int .i64 x.2] ++ #[.pointer (some ⟨Bn, 0, none⟩)]) w fun e W' => e = .returned (.tuple #[]) ∧ W'.heap[Bn]? = some (.cells #[.int .i64 (tickS v x)] 3 (0, 0)) ∧ (∀ B, B ≤ Bn → B ≤ w.heap.size → Below B w W') ∧ Kept w W' (fun k => k = Bn) := by
  have hlt := blk_lt hb
  have HB := Aside0.mk hb
  have hb1 : (w.alloc (.cells #[.int .i64 x.1.f0, .int .i64 x.1.f1] 45)).heap[Bn]? = some (.cells #[.int .i64 v] 3 (0, 0)) := blk_alloc hb _
  have hb2 : (w.alloc (.cells #[.int .i64 x.1.f0, .int .i64 x.1.f1] 45)).heap[w.heap.size]? = some (.cells #[.int .i64 x.1.f0, .int .i64 x.1.f1] 45 (0, 0)) := blk_new _ _
  have HB1 := Aside0.mk hb1
  have hc1 := (blk_cell hb1 0).trans rfl
  have hf1 := blk_frozen hb1
  have hc2 := blk_cell hb2
  clear hb hb1 hb2
  go_enter Try.func91, Try.ntmps91
  go_wp2
  go_end0
  exact ⟨rfl, blk_alloc (blk_put HB.out 0 _ rfl) _, fun B h1 h2 => ((Below.refl B w).setCell (p := ⟨Bn, 0, none⟩) h1 _).alloc (by simpa using h2) _, ((Kept.refl w (fun k => k = Bn)).setCell (p := ⟨Bn, 0, none⟩) (.inl rfl) _).alloc _⟩
set_option maxHeartbeats 1000000 in
theorem repeats_performed.calls (a0 : Int) (A1 : Option Addr) (c1 : Nat) (l1 : List S61) (r : Int) (w : World) (hr1 : Kd.C k61 w A1 l1.length l1) (hc1 : l1.length ≤ c1) (h : repeats_performed.f a0 l1 = some r) :
    Calls Try.prog 67 #[.int .i64 a0, .slice A1 l1.length c1] w fun e w' => e = .returned (.int .i64 r) ∧ Below w.heap.size w w' := by
  unfold repeats_performed.f at h
  split at h
  case isFalse => cases h
  rename_i hlen
  obtain rfl := Option.some.inj h
  clear h
  have eg : ∀ args w, (callFunc 91 args).run Try.prog w = .ok (.enter 91 args) w := enters_of Try.func91 (by kernel_rfl) rfl
  have hb0 : (w.alloc (.cells #[.int .i64 0] 3)).heap[w.heap.size]? = some (.cells #[.int .i64 0] 3 (0, 0)) := blk_new _ _
  have hs := sections_walk 91 eg #[.pointer (some ⟨w.heap.size, 0, none⟩)] a0 l1 A1 c1 (w.alloc (.cells #[.int .i64 0] 3)) hlen
    (fun q W => W.heap[w.heap.size]? = some (.cells #[.int .i64 (q.foldl tickS 0)] 3 (0, 0)) ∧ Below w.heap.size w W) (fun q W k => k = w.heap.size)
    (fun q W W' hj hb => ⟨blk_below hj.1 hb, below_step hj.2 hb⟩) (fun q W hj => Kd.C_below hr1 hj.2) (fun q W W' k _ _ h => h) (fun q W k hj h => by rw [h]; exact blk_lt hj.1)
    (fun q x rest W _ hj => (perfd_closure w.heap.size _ x W hj.1).mono (by
      rintro e W' ⟨rfl, hv, hb, hk⟩
      exact ⟨rfl, ⟨by rw [List.foldl_append]; exact hv, hj.2.trans (hb w.heap.size (Nat.le_refl _) (below_size hj.2))⟩, hk, fun k h => .inl h⟩))
    ⟨hb0, below_alloc (Below.refl _ _) _⟩
  have HS := Aside0.mk hs
  clear hs hb0 hr1
  go_enter Try.func67, Try.ntmps67
  go_wp2_with (go_at_call 71; refine HS.out.mono ?_; rintro e w5 ⟨rfl, ⟨hv, hb⟩, hk⟩; have HB := Aside0.mk hb; have hc5 := (blk_cell hv 0).trans rfl; clear hv hb hk)
  go_ret
  exact ⟨rfl, HB.out⟩
end Go.Proofs.Ytdilndbanhianaa.P
