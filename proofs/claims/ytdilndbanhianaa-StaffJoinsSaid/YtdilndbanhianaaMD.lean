/- Texts of this seat in one: Iter, At, Column, Put; no condition. -/
import Derived.RangeFuncNested
import Derived.RangeFuncBound
import Derived.RangeFuncCalls
import Derived.RangeFuncLeaves
import Derived.Shelf.Abstract
import Derived.Shelf.RegionOpen
import Derived.WalkKit
import Derived.OwnWalkIn
import Derived.TacticsInMore
import Derived.LoopNIn
import Derived.LoopIn
import Derived.Test.YtdilndbanhianaaMB
import Derived.Deep.Light
import Derived.Test.YtdilndbanhianaaMC
import Derived.Maps.AppendAt
import Derived.RangeFuncBox
section
set_option linter.unusedVariables false
set_option linter.unusedSimpArgs false
namespace Go.Proofs.Ytdilndbanhianaa.P
open Go.RowKit Go.Shelf Go.Proofs.YtdilndbanhianaaW.PrintWords Go.Proofs.YtdilndbanhianaaW.PrintLast Go.Proofs.YtdilndbanhianaaW.PrintMore
attribute [local go_sem] Oper.semAt_some
def arrS (s : S29) : Array Value := #[.int .i64 s.f0, .int .i64 s.f1, .int .i64 s.f2, .int .i64 s.f3, .int .i64 s.f4, .int .i64 s.f5, .int .i64 s.f6]
/-- The first k symbols' share of a column, with their indices. -/
def selP (l : List S29) (col : Int) : Nat → List (Int × S29)
  | 0 => []
  | k + 1 => selP l col k ++ (if h : k < l.length then (if l[k].f1 = col then [((k : Int), l[k])] else []) else [])
theorem selP_len (l : List S29) (col : Int) : ∀ k, (selP l col k).length ≤ k
  | 0 => Nat.le_refl _
  | k + 1 => by
    have := selP_len l col k
    simp only [selP, List.length_append]
    split
    · split <;> simp <;> omega
    · simp; omega
theorem selP_hit (l : List S29) (col : Int) (k : Nat) (h : k < l.length) (hc : l[k].f1 = col) : selP l col (k + 1) = selP l col k ++ [((k : Int), l[k])] := by
  simp only [selP, dif_pos h, if_pos hc]
theorem selP_miss (l : List S29) (col : Int) (k : Nat) (h : k < l.length) (hc : ¬ l[k].f1 = col) : selP l col (k + 1) = selP l col k := by
  simp only [selP, dif_pos h, if_neg hc, List.append_nil]
/-- What is found in the first share is found. -/
theorem selP_find (l : List S29) (col : Int) (f : Int × S29 → Bool) (k : Nat) : ∀ n, k ≤ n → ∀ x, (selP l col k).find? f = some x → (selP l col n).find? f = some x := by
  intro n hn
  induction n with
  | zero => intro x hx; have : k = 0 := by omega
            subst this; exact hx
  | succ n ih =>
    intro x hx
    by_cases e : k = n + 1
    · subst e; exact hx
    · simp only [selP]
      rw [List.find?_append, ih (by omega) x hx]; rfl
/-- What a round that goes on keeps: what lay below n₁, and the variable in Bc. -/
def KpO (n₁ Bc : Nat) (W W' : World) : Prop := Below n₁ W W' ∧ ∀ cs, W.heap[Bc]? = some (.cells cs 3 (0, 0)) → W'.heap[Bc]? = some (.cells cs 3 (0, 0))
theorem cells_kept {W W' : World} {row : Option Nat} {k : Nat} {cs : Array Value} {t : TypeId} (h : W.heap[k]? = some (.cells cs t (0, 0))) (hg : W.grownBy W' row) (hr : ∀ r, row = some r → ∃ o : Obj, W.heap[r]? = some o ∧ o.isCells = false) : W'.heap[k]? = some (.cells cs t (0, 0)) :=
  (hg.block k (blk_lt h) (fun e => by obtain ⟨o, ho, hc⟩ := hr k e.symm; rw [h] at ho; cases ho; cases hc)).trans h
theorem kpO_t {n₁ Bc : Nat} {A B C : World} (h : KpO n₁ Bc A B) (k : KpO n₁ Bc B C) : KpO n₁ Bc A C := ⟨h.1.trans k.1, fun cs hb => k.2 cs (h.2 cs hb)⟩
theorem kpO_b {n₁ Bc : Nat} {w : World} (hn : n₁ ≤ w.heap.size) (W : World) (l : Nat) (o o' : Obj) (hl : w.heap.size ≤ l) (h : W.heap[l]? = some o) (hc : o.isCells = false) (hw : o.isWalk = false) : KpO n₁ Bc W (W.putObj l o') :=
  ⟨belowK_b hn W l o o' hl h hc hw, fun cs hb => cells_kept hb (grownBy_putObj' W l o') (fun r e => by cases e; exact ⟨o, h, hc⟩)⟩
set_option maxRecDepth 100000 in
set_option maxHeartbeats 4000000 in
theorem of1_in (F : Fence) (n : Nat) (hF : F.fn 88) (hro : F.round = none) (hn : 1 ≤ n) (lq Bl Bc : Nat) (A0 : Option Addr) (c0 : Nat) (l : List S29) (col : Int) (w : World) (hr0 : Kd.C k29 w A0 l.length l) (hlen : l.length ≤ 256)
    (W : World) (hwW : Below w.heap.size w W) (hBl : W.heap[Bl]? = some (.cells #[.slice A0 l.length c0] 22 (0, 0))) (hBc : W.heap[Bc]? = some (.cells #[.int .i64 col] 3 (0, 0)))
    (J Jx : List (Int × S29) → World → Prop) (hJ : AbidesFrom W.heap.size J)
    (hY : ∀ pre x W1, J pre W1 → pre.length < l.length → YieldAt F (n - 1) Try.prog lq #[.int .i64 x.1, .agg (arrS x.2)] W1 fun e W' =>
      (e = .returned (.bool true) ∧ J (pre ++ [x]) W' ∧ KpO w.heap.size Bc W1 W') ∨ (e = .returned (.bool false) ∧ Jx (pre ++ [x]) W'))
    (h0 : J [] W) :
    CallsIn F n Try.prog 88 #[.func (.yield lq) #[] #[], .pointer (some ⟨Bl, 0, none⟩), .pointer (some ⟨Bc, 0, none⟩)] W fun e W' => (∃ v, e = .returned v) ∧
      ((∃ ys, ys = selP l col l.length ∧ J ys W') ∨ (∃ pre, (∃ k, k ≤ l.length ∧ pre = selP l col k) ∧ Jx pre W')) := by
  have hu29 := Try.underlying29
  refine callsIn_of_wp Try.func88 rfl hF ?_ hro
  simp only [Try.ntmps88, List.size_toArray, List.length_cons, List.length_nil, Nat.reduceAdd, Nat.reduceSub, Array.replicate_succ, Array.replicate_zero, List.push_toArray, List.append_toArray, List.nil_append, List.cons_append]
  have hcl := (blk_cell hBl 0).trans rfl
  gi_wp2
  gi_loopw [8] (fun i wr => ∃ k : Nat, k ≤ l.length ∧ i = .int .i64 (k : Int) ∧ J (selP l col k) wr ∧ Below w.heap.size w wr ∧ wr.heap[Bc]? = some (.cells #[.int .i64 col] 3 (0, 0)))
    (fun i _ => l.length - (intOf i).toNat)
  case atStart => exact ⟨0, Nat.zero_le _, rfl, h0, hwW, hBc⟩
  case round =>
    obtain ⟨k, hk, rfl, hJs, hnx, hbc⟩ := hrel
    by_cases hlt : k < l.length
    · obtain ⟨ad, e0, hx0, hx1, hx2, hx3, hx4, hx5, hx6⟩ := at_T29 hr0 (k : Int) (by omega) (by omega)
      cases e0
      rw [Int.toNat_natCast] at hx0 hx1 hx2 hx3 hx4 hx5 hx6
      rw [rd29_at hlt] at hx0 hx1 hx2 hx3 hx4 hx5 hx6
      replace hx0 := (hnx.cell (World.block_lt_of_cell? w _ hx0)).trans hx0
      replace hx1 := (hnx.cell (World.block_lt_of_cell? w _ hx1)).trans hx1
      replace hx2 := (hnx.cell (World.block_lt_of_cell? w _ hx2)).trans hx2
      replace hx3 := (hnx.cell (World.block_lt_of_cell? w _ hx3)).trans hx3
      replace hx4 := (hnx.cell (World.block_lt_of_cell? w _ hx4)).trans hx4
      replace hx5 := (hnx.cell (World.block_lt_of_cell? w _ hx5)).trans hx5
      replace hx6 := (hnx.cell (World.block_lt_of_cell? w _ hx6)).trans hx6
      have q0 : (0 ≤ ((k : Nat) : Int)) = True := by simp
      have q1 : (((k : Nat) : Int) < (l.length : Int)) = True := by simp; exact hlt
      have d0 : decide (k < l.length) = true := decide_eq_true hlt
      have hhit := selP_hit l col k hlt
      have hmiss := selP_miss l col k hlt
      generalize l[k]'hlt = x at *
      have hbc1 : (wr.alloc (.cells #[.int .i64 x.f0, .int .i64 x.f1, .int .i64 x.f2, .int .i64 x.f3, .int .i64 x.f4, .int .i64 x.f5, .int .i64 x.f6] 29)).heap[Bc]? = some (.cells #[.int .i64 col] 3 (0, 0)) := blk_alloc hbc _
      have hbc0 : (wr.alloc (.cells #[.int .i64 x.f0, .int .i64 x.f1, .int .i64 x.f2, .int .i64 x.f3, .int .i64 x.f4, .int .i64 x.f5, .int .i64 x.f6] 29)).cell? ⟨Bc, 0, none⟩ = some (.int .i64 col) := (blk_cell hbc1 0).trans rfl
      by_cases hc : x.f1 = col
      · subst hc
        have hJ1 : J (selP l x.f1 k) (wr.alloc (.cells (arrS x) 29)) := hJ _ _ _ none hJs (World.grownBy_alloc wr _ none) (fun r e => by cases e)
        obtain ⟨fn, tmps, assign, body, hy, hR⟩ := hY _ ((k : Int), x) _ hJ1 (Nat.lt_of_le_of_lt (selP_len l x.f1 k) hlt)
        dsimp only [arrS] at hy
        have hsel := hhit rfl
        clear hhit hmiss
        gi_wp2
        refine hR.mono ?_
        rintro e W3 (⟨rfl, hJ3, hk3, hk4⟩ | ⟨rfl, hJx3⟩)
        · gi_wp2
          go_roundw
          case rel => exact ⟨k + 1, by omega, by first | (simp; done) | (simp; rw [wrap_in _ (by omega) (by omega)]), by rw [hsel]; exact hJ3, (hnx.alloc (below_size hnx) _).trans hk3, hk4 _ hbc1⟩
          case measure => simp [intOf]; omega
        · gi_wp2
          refine bodyPost_ret (results_none rfl _ _ _) rfl ?_
          exact ⟨⟨_, rfl⟩, .inr ⟨_, ⟨k + 1, by omega, hsel.symm⟩, hJx3⟩⟩
      · have hceq : (x.f1 == col) = false := by simpa using hc
        have hsel := hmiss hc
        have hJ1 : J (selP l col k) (wr.alloc (.cells #[.int .i64 x.f0, .int .i64 x.f1, .int .i64 x.f2, .int .i64 x.f3, .int .i64 x.f4, .int .i64 x.f5, .int .i64 x.f6] 29)) := hJ _ _ _ none hJs (World.grownBy_alloc wr _ none) (fun r e => by cases e)
        clear hhit hmiss
        gi_wp2
        refine ⟨fun _ h => (by cases h), ?_⟩
        gi_wp2
        go_roundw
        case rel => exact ⟨k + 1, by omega, by first | (simp; done) | (simp; rw [wrap_in _ (by omega) (by omega)]), by rw [hsel]; exact hJ1, hnx.alloc (below_size hnx) _, hbc1⟩
        case measure => simp [intOf]; omega
    · obtain rfl : k = l.length := by omega
      have d0 : decide (l.length < l.length) = false := by simp
      gi_wp2
      go_end0
      exact ⟨⟨_, rfl⟩, .inl ⟨_, rfl, hJs⟩⟩
/-- The function that staff.of hands back, for a range statement. -/
theorem of_stops (F : Fence) (n : Nat) (hF : F.fn 88) (hro : F.round = none) (hn : 1 ≤ n) (Bl Bc : Nat) (A0 : Option Addr) (c0 : Nat) (l : List S29) (col : Int) (w w0 : World) (hr0 : Kd.C k29 w A0 l.length l) (hlen : l.length ≤ 256)
    (hw : Below w.heap.size w w0) (hBl : w0.heap[Bl]? = some (.cells #[.slice A0 l.length c0] 22 (0, 0))) (hBc : w0.heap[Bc]? = some (.cells #[.int .i64 col] 3 (0, 0))) :
    SeqStopsK F n Try.prog 88 #[.pointer (some ⟨Bl, 0, none⟩), .pointer (some ⟨Bc, 0, none⟩)] (fun x : Int × S29 => #[.int .i64 x.1, .agg (arrS x.2)]) (KpO w.heap.size Bc)
      (fun ys => ys = selP l col l.length) (fun pre => ∃ k, k ≤ l.length ∧ pre = selP l col k) l.length w0 := fun lq J Jx W hW hJ hJx hY h0 =>
  of1_in F n hF hro hn lq Bl Bc A0 c0 l col w hr0 hlen W (below_step hw hW) (blk_below hBl hW) (blk_below hBc hW) J Jx hJ hY h0
set_option maxRecDepth 100000 in
set_option maxHeartbeats 1000000 in
theorem of_call (A0 : Option Addr) (c0 n : Nat) (col : Int) (w : World) :
    Calls Try.prog 61 #[.slice A0 n c0, .int .i64 col] w fun e w' => e = .returned (.func (.func 88) #[] #[.pointer (some ⟨w.heap.size, 0, none⟩), .pointer (some ⟨w.heap.size + 1, 0, none⟩)]) ∧
      Below w.heap.size w w' ∧ w'.heap.size = w.heap.size + 2 ∧ w'.heap[w.heap.size]? = some (.cells #[.slice A0 n c0] 22 (0, 0)) ∧ w'.heap[w.heap.size + 1]? = some (.cells #[.int .i64 col] 3 (0, 0)) := by
  have hz : (w.alloc (.cells #[.slice A0 n c0] 22)).heap.size = w.heap.size + 1 := by rw [World.size_alloc]
  have B2 : ((w.alloc (.cells #[.slice A0 n c0] 22)).alloc (.cells #[.int .i64 col] 3)).heap[w.heap.size + 1]? = some (.cells #[.int .i64 col] 3 (0, 0)) := by rw [← hz]; exact blk_new _ _
  go_enter Try.func61, Try.ntmps61
  go_wp2
  go_ret
  exact ⟨rfl, below_alloc (below_alloc (Below.refl _ _) _) _, by rw [World.size_alloc, World.size_alloc], blk_alloc (blk_new _ _) _, B2⟩
/-- What a call that lays memory of its own alone keeps, told of a world that has drawn ahead of it. -/
theorem keepsFrom_below {B : Nat} {W W5 : World} (hb : Below W.drew.heap.size W.drew W5) : KeepsFrom B W W5 := ⟨hb.size, fun k o _ h0 _ => (hb.block k (Array.getElem?_eq_some_iff.1 h0).1).trans h0⟩
theorem kpO_below {n₁ Bc : Nat} {W W5 : World} (hn : n₁ ≤ W.heap.size) (hb : Below W.drew.heap.size W.drew W5) : KpO n₁ Bc W W5 := ⟨((Below.refl n₁ W).drew).trans (hb.mono hn), fun cs h => blk_below (blk_drew h) hb⟩
end Go.Proofs.Ytdilndbanhianaa.P
end
section
set_option linter.unusedVariables false
set_option linter.unusedSimpArgs false
namespace Go.Proofs.Ytdilndbanhianaa.P
open Go.RowKit Go.Shelf Go.Proofs.YtdilndbanhianaaW.PrintWords Go.Proofs.YtdilndbanhianaaW.PrintLast Go.Proofs.YtdilndbanhianaaW.PrintMore
attribute [local go_sem] Oper.semAt_some
def hitB (t : Int) (x : Int × S29) : Bool := decide (x.2.f2 ≤ t) && decide (t < wrap64 (x.2.f2 + x.2.f3))
/-- What At says. -/
def atP (l : List S29) (n c t : Int) : Int × Int :=
 if ¬ chkS l n = 0 then (0, chkS l n)
 else if c < 0 ∨ 9 ≤ c then (0, 16)
 else if t < 0 ∨ n ≤ t then (0, 1)
 else ((((selP l c l.length).find? (hitB t)).map (·.1)).getD (-1), 0)
def staff_At.f (l0 : List S29) (a1 a2 a3 : Int) : Option (Int × Int) := some (atP l0 a1 a2 a3)
/-- Between two rounds; behind a round that has left. -/
def AtI (t : Int) (w : World) (Z g7 g8 g9 : Nat) (pre : List (Int × S29)) (W : World) : Prop :=
 pre.find? (hitB t) = none ∧ W.heap[g7]? = some (.cells #[.int .i64 t] 3 (0, 0)) ∧ W.heap[g8]? = some (.cells #[.int .i64 0] 3 (0, 0)) ∧ W.heap[g9]? = some (.cells #[.int .i64 0] 24 (0, 0)) ∧ Below w.heap.size w W ∧ Z ≤ W.heap.size
def AtX (t : Int) (w : World) (g8 g9 : Nat) (c : Code) (pre : List (Int × S29)) (W : World) : Prop :=
 c = .ret ∧ ∃ x : Int × S29, pre.find? (hitB t) = some x ∧ W.heap[g8]? = some (.cells #[.int .i64 x.1] 3 (0, 0)) ∧ W.heap[g9]? = some (.cells #[.int .i64 0] 24 (0, 0)) ∧ Below w.heap.size w W
theorem chkS_len (l : List S29) (n : Int) (h : chkS l n = 0) : l.length ≤ 256 := by
 unfold chkS at h
 split at h
 ·cases h
 ·split at h
  ·cases h
  ·omega
theorem at_results {tmps : Array Value} {g8 g9 : Nat} {r1 r2 : Int} {W6 : World} (ht8 : tmps[8]?.getD undef = .pointer (some ⟨g8, 0, none⟩)) (ht9 : tmps[9]?.getD undef = .pointer (some ⟨g9, 0, none⟩))
  (h8 : W6.heap[g8]? = some (.cells #[.int .i64 r1] 3 (0, 0))) (h9 : W6.heap[g9]? = some (.cells #[.int .i64 r2] 24 (0, 0))) : (results Try.f30 tmps).run Try.prog W6 = .ok (.tuple #[.int .i64 r1, .int .i64 r2]) W6 := by
 have hc8 : W6.cell? ⟨g8, 0, none⟩ = some (.int .i64 r1) := (blk_cell h8 0).trans rfl
 have hc9 : W6.cell? ⟨g9, 0, none⟩ = some (.int .i64 r2) := (blk_cell h9 0).trans rfl
 simp [results, Try.f30, go_sem, ht8, ht9, hc8, hc9]
theorem at_leave0 {tmps : Array Value} {g8 g9 : Nat} {r1 r2 : Int} {w W6 : World} (ht8 : tmps[8]?.getD undef = .pointer (some ⟨g8, 0, none⟩)) (ht9 : tmps[9]?.getD undef = .pointer (some ⟨g9, 0, none⟩))
  (h8 : W6.heap[g8]? = some (.cells #[.int .i64 r1] 3 (0, 0))) (h9 : W6.heap[g9]? = some (.cells #[.int .i64 r2] 24 (0, 0))) (hB : Below w.heap.size w W6) :
  bodyPostM Fence.wide 6 Try.prog Try.f30 (fun e w' => e = .returned (.tuple #[.int .i64 r1, .int .i64 r2]) ∧ Below w.heap.size w w') Exit.ret { tmps := tmps, defers := [] } W6 :=
 ⟨_, at_results ht8 ht9 h8 h9, rfl, hB⟩
theorem at_leave {tmps : Array Value} {g8 g9 D : Nat} {r1 r2 : Int} {w W6 : World} (ht8 : tmps[8]?.getD undef = .pointer (some ⟨g8, 0, none⟩)) (ht9 : tmps[9]?.getD undef = .pointer (some ⟨g9, 0, none⟩))
  (h8 : W6.heap[g8]? = some (.cells #[.int .i64 r1] 3 (0, 0))) (h9 : W6.heap[g9]? = some (.cells #[.int .i64 r2] 24 (0, 0))) (hK : W6.heap[D]? = some (.deferred (some []))) (hB : Below w.heap.size w W6) (hD : w.heap.size ≤ D) :
  bodyPostM Fence.wide 6 Try.prog Try.f30 (fun e w' => e = .returned (.tuple #[.int .i64 r1, .int .i64 r2]) ∧ Below w.heap.size w w') Exit.ret { tmps := tmps, defers := [{ target := .collected D, args := #[] }] } W6 := by
 refine ⟨by simp, .inl ⟨_, _, rfl, run_takeDeferred hK, ?_⟩⟩
 exact ⟨_, at_results ht8 ht9 (cells_kept h8 (grownBy_putObj' _ D _) (fun r e => by cases e; exact ⟨_, hK, rfl⟩)) (cells_kept h9 (grownBy_putObj' _ D _) (fun r e => by cases e; exact ⟨_, hK, rfl⟩)), rfl,
  hB.trans (belowK_b (w := w) (Nat.le_refl _) W6 D _ _ hD hK rfl rfl)⟩
set_option maxHeartbeats 4000000 in
set_option maxRecDepth 100000 in
theorem staff_At.calls (A0 : Option Addr) (c0 : Nat) (l0 : List S29) (a1 a2 a3 : Int) (r1 r2 : Int) (w : World) (hr0 : Kd.C k29 w A0 l0.length l0) (hc0 : l0.length ≤ c0) (h : staff_At.f l0 a1 a2 a3 = some (r1, r2)) :
  Calls Try.prog 30 #[.slice A0 l0.length c0, .int .i64 a1, .int .i64 a2, .int .i64 a3] w fun e w' => e = .returned (.tuple #[.int .i64 r1, .int .i64 r2]) ∧ Below w.heap.size w w' := by
 have hu29 := Try.underlying29
 have H := Aside0.mk (Option.some.inj h)
 have HR := Aside0.mk hr0
 have HC := Aside0.mk hc0
 have hz1 : (w.alloc (.cells #[.int .i64 a3] 3)).heap.size = w.heap.size + 1 := by rw [World.size_alloc]
 have hz2 : ((w.alloc (.cells #[.int .i64 a3] 3)).alloc (.cells #[.int .i64 0] 3)).heap.size = w.heap.size + 2 := by rw [World.size_alloc, World.size_alloc]
 have b7 : (((w.alloc (.cells #[.int .i64 a3] 3)).alloc (.cells #[.int .i64 0] 3)).alloc (.cells #[.int .i64 0] 24)).heap[w.heap.size]? = some (.cells #[.int .i64 a3] 3 (0, 0)) := blk_alloc (blk_alloc (blk_new _ _) _) _
 have b8 : (((w.alloc (.cells #[.int .i64 a3] 3)).alloc (.cells #[.int .i64 0] 3)).alloc (.cells #[.int .i64 0] 24)).heap[w.heap.size + 1]? = some (.cells #[.int .i64 0] 3 (0, 0)) := blk_alloc (by rw [← hz1]; exact blk_new _ _) _
 have b9 : (((w.alloc (.cells #[.int .i64 a3] 3)).alloc (.cells #[.int .i64 0] 3)).alloc (.cells #[.int .i64 0] 24)).heap[w.heap.size + 2]? = some (.cells #[.int .i64 0] 24 (0, 0)) := by rw [← hz2]; exact blk_new _ _
 have hb0 : Below w.heap.size w (((w.alloc (.cells #[.int .i64 a3] 3)).alloc (.cells #[.int .i64 0] 3)).alloc (.cells #[.int .i64 0] 24)) := below_alloc (below_alloc (below_alloc (Below.refl _ _) _) _) _
 clear h hr0 hc0
 refine callsIn_wide.1 (callsIn_of_wp_marks (n := 6) Try.func30 rfl trivial ?_)
 refine wpIn_wide.2 ?_
 simp only [Try.ntmps30, List.size_toArray, List.length_cons, List.length_nil, Nat.reduceAdd, Nat.reduceSub, Array.replicate_succ, Array.replicate_zero, List.push_toArray, List.append_toArray, List.nil_append, List.cons_append]
 go_upto_region 1 with (fail)
 generalize (((w.alloc (.cells #[.int .i64 a3] 3)).alloc (.cells #[.int .i64 0] 3)).alloc (.cells #[.int .i64 0] 24)) = W0 at b7 b8 b9 hb0 ⊢
 have GE8 : Aside0 (w.heap.size ≤ w.heap.size + 1) := ⟨by omega⟩
 have GE9 : Aside0 (w.heap.size ≤ w.heap.size + 2) := ⟨by omega⟩
 have GE7 : Aside0 (w.heap.size ≤ w.heap.size) := ⟨by omega⟩
 have hne : w.heap.size + 1 ≠ w.heap.size + 2 := by omega
 have hne' : w.heap.size + 2 ≠ w.heap.size + 1 := by omega
 have hn7 : w.heap.size ≠ w.heap.size + 1 := by omega
 have hn7' : w.heap.size ≠ w.heap.size + 2 := by omega
 clear hz1 hz2
 obtain ⟨g7, hg7⟩ : ∃ g, w.heap.size = g := ⟨_, rfl⟩
 obtain ⟨g8, hg8⟩ : ∃ g, w.heap.size + 1 = g := ⟨_, rfl⟩
 obtain ⟨g9, hg9⟩ : ∃ g, w.heap.size + 2 = g := ⟨_, rfl⟩
 rw [hg8] at b8 GE8 hne hne' hn7
 rw [hg9] at b9 GE9 hne hne' hn7'
 rw [hg7] at hn7 hn7'
 have GE7' : Aside0 (w.heap.size ≤ g7) := ⟨by omega⟩
 have b7' : W0.heap[g7]? = some (.cells #[.int .i64 a3] 3 (0, 0)) := by rw [← hg7]; exact b7
 rw [hg8, hg9]
 have hptr : Value.pointer (some { block := w.heap.size, off := 0 }) = Value.pointer (some { block := g7, off := 0 }) := by rw [hg7]
 rw [hptr]
 have hHG := Aside0.mk hg7
 clear hg8 hg9 hg7 b7 GE7 hptr
 have B7 := Aside0.mk b7'
 have B8 := Aside0.mk b8
 have B9 := Aside0.mk b9
 have HB := Aside0.mk hb0
 clear b7' b8 b9 hb0
 obtain ⟨ce, hce⟩ : ∃ ce, chkS l0 a1 = ce := ⟨_, rfl⟩
 have HQ : Aside0 (staff_Check.f l0 a1 = some ce) := ⟨congrArg some hce⟩
 have H1 := H.out
 unfold atP at H1
 rw [hce] at H1
 by_cases h1 : ce = 0
 ·subst h1
  rw [if_neg (by decide)] at H1
  have HL := Aside0.mk (chkS_len _ _ hce)
  clear hce H
  by_cases h2 : a2 < 0 ∨ 9 ≤ a2
  ·rw [if_pos h2] at H1
   obtain ⟨rfl, rfl⟩ := Prod.mk.inj H1
   by_cases h3 : a2 < 0
   ·have e1 : decide (a2 < 0) = true := decide_eq_true h3
    clear H1 h2 h3
    go_wp2_with (first | (go_at_call 20; refine (staff_Check.calls A0 c0 l0 a1 _ _ (Kd.C_below HR.out HB.out) HC.out HQ.out).mono ?_; rintro e W1 ⟨rfl, hb⟩; have HB1 := Aside0.mk (below_step HB.out hb); have B71 := Aside0.mk (blk_below B7.out hb); have B81 := Aside0.mk (blk_below B8.out hb); have B91 := Aside0.mk (blk_below B9.out hb); have hc7 := blk_cell B71.out; have hc8 := blk_cell B81.out; have hf8 := blk_frozen B81.out; have hc9 := blk_cell B91.out; have hf9 := blk_frozen B91.out; clear hb))
    exact at_leave0 rfl rfl (blk_far (blk_put B81.out 0 _ rfl) hne _) (blk_put (blk_far B91.out hne' _) 0 _ rfl) (below_set (below_set HB1.out GE8.out) GE9.out)
   ·have e1 : decide (a2 < 0) = false := decide_eq_false h3
    have e2 : decide (9 ≤ a2) = true := decide_eq_true (by omega)
    clear H1 h2 h3
    go_wp2_with (first | (go_at_call 20; refine (staff_Check.calls A0 c0 l0 a1 _ _ (Kd.C_below HR.out HB.out) HC.out HQ.out).mono ?_; rintro e W1 ⟨rfl, hb⟩; have HB1 := Aside0.mk (below_step HB.out hb); have B71 := Aside0.mk (blk_below B7.out hb); have B81 := Aside0.mk (blk_below B8.out hb); have B91 := Aside0.mk (blk_below B9.out hb); have hc7 := blk_cell B71.out; have hc8 := blk_cell B81.out; have hf8 := blk_frozen B81.out; have hc9 := blk_cell B91.out; have hf9 := blk_frozen B91.out; clear hb))
    exact at_leave0 rfl rfl (blk_far (blk_put B81.out 0 _ rfl) hne _) (blk_put (blk_far B91.out hne' _) 0 _ rfl) (below_set (below_set HB1.out GE8.out) GE9.out)
  ·rw [if_neg h2] at H1
   have e1 : decide (a2 < 0) = false := by simp; omega
   have e2 : decide (9 ≤ a2) = false := by simp; omega
   by_cases h3 : a3 < 0 ∨ a1 ≤ a3
   ·rw [if_pos h3] at H1
    obtain ⟨rfl, rfl⟩ := Prod.mk.inj H1
    by_cases h4 : a3 < 0
    ·have e3 : decide (a3 < 0) = true := decide_eq_true h4
     clear H1 h2 h3 h4
     go_wp2_with (first | (go_at_call 20; refine (staff_Check.calls A0 c0 l0 a1 _ _ (Kd.C_below HR.out HB.out) HC.out HQ.out).mono ?_; rintro e W1 ⟨rfl, hb⟩; have HB1 := Aside0.mk (below_step HB.out hb); have B71 := Aside0.mk (blk_below B7.out hb); have B81 := Aside0.mk (blk_below B8.out hb); have B91 := Aside0.mk (blk_below B9.out hb); have hc7 := blk_cell B71.out; have hc8 := blk_cell B81.out; have hf8 := blk_frozen B81.out; have hc9 := blk_cell B91.out; have hf9 := blk_frozen B91.out; clear hb))
     exact at_leave0 rfl rfl (blk_far (blk_put B81.out 0 _ rfl) hne _) (blk_put (blk_far B91.out hne' _) 0 _ rfl) (below_set (below_set HB1.out GE8.out) GE9.out)
    ·have e3 : decide (a3 < 0) = false := decide_eq_false h4
     have e4 : decide (a1 ≤ a3) = true := decide_eq_true (by omega)
     clear H1 h2 h3 h4
     go_wp2_with (first | (go_at_call 20; refine (staff_Check.calls A0 c0 l0 a1 _ _ (Kd.C_below HR.out HB.out) HC.out HQ.out).mono ?_; rintro e W1 ⟨rfl, hb⟩; have HB1 := Aside0.mk (below_step HB.out hb); have B71 := Aside0.mk (blk_below B7.out hb); have B81 := Aside0.mk (blk_below B8.out hb); have B91 := Aside0.mk (blk_below B9.out hb); have hc7 := blk_cell B71.out; have hc8 := blk_cell B81.out; have hf8 := blk_frozen B81.out; have hc9 := blk_cell B91.out; have hf9 := blk_frozen B91.out; clear hb))
     exact at_leave0 rfl rfl (blk_far (blk_put B81.out 0 _ rfl) hne _) (blk_put (blk_far B91.out hne' _) 0 _ rfl) (below_set (below_set HB1.out GE8.out) GE9.out)
   ·rw [if_neg h3] at H1
    have e3 : decide (a3 < 0) = false := by simp; omega
    have e4 : decide (a1 ≤ a3) = false := by simp; omega
    have H2 := Aside0.mk H1
    clear H1 h2 h3
    go_upto_region 8 with (first | (go_at_call 20; refine (staff_Check.calls A0 c0 l0 a1 _ _ (Kd.C_below HR.out HB.out) HC.out HQ.out).mono ?_; rintro e W1 ⟨rfl, hb⟩; have HB1 := Aside0.mk (below_step HB.out hb); have B71 := Aside0.mk (blk_below B7.out hb); have B81 := Aside0.mk (blk_below B8.out hb); have B91 := Aside0.mk (blk_below B9.out hb); have hc7 := blk_cell B71.out; have hc8 := blk_cell B81.out; have hf8 := blk_frozen B81.out; have hc9 := blk_cell B91.out; have hf9 := blk_frozen B91.out; clear hb))
    go_wp2_with (first | (go_at_call 61; refine (of_call A0 c0 l0.length a2 _).mono ?_; rintro e W2 ⟨rfl, hb, hsz, hBl, hBc⟩; have HB2 := Aside0.mk (below_step HB1.out hb); have B72 := Aside0.mk (blk_below B71.out hb); have B82 := Aside0.mk (blk_below B81.out hb); have B92 := Aside0.mk (blk_below B91.out hb)))
    clear hsz
    clear hc7 hc8 hf8 hc9 hf9
    have l7 : g7 < W1.heap.size := blk_lt B71.out
    have l8 : g8 < W1.heap.size := blk_lt B81.out
    have l9 : g9 < W1.heap.size := blk_lt B91.out
    have hle : w.heap.size ≤ W2.heap.size := below_size HB2.out
    refine (wpIn_wide (n := 6)).1 ?_
    refine wpIn_rangeFunc_ownH (F := Fence.wide) rfl (by decide) (gf := 88) (lb := #[.pointer (some ⟨W1.heap.size, 0, none⟩), .pointer (some ⟨W1.heap.size + 1, 0, none⟩)]) rfl trivial (enters_of Try.func88 (by kernel_rfl) rfl)
     (of_stops Fence.wide 5 trivial rfl (by decide) W1.heap.size (W1.heap.size + 1) A0 c0 l0 a2 w W2 HR.out HL.out HB2.out hBl hBc) kpO_t (kpO_b hle) (Below.refl _ _) (fun _ => rfl)
     (AtI a3 w W2.heap.size g7 g8 g9) (AtX a3 w g8 g9)
     (fun s A B row hs hg hr => ⟨hs.1, cells_kept hs.2.1 hg (fun r e => (hr r e).2), cells_kept hs.2.2.1 hg (fun r e => (hr r e).2), cells_kept hs.2.2.2.1 hg (fun r e => (hr r e).2), ownFrom_below (β := Unit) (w₀ := w) (Nat.le_refl _) hle () A B row hs.2.2.2.2.1 hg hr, Nat.le_trans hs.2.2.2.2.2 hg.size⟩)
     (fun c s A B row hs hg hr => by
      obtain ⟨hc, x, hx, h8, h9, hb⟩ := hs
      exact ⟨hc, x, hx, cells_kept h8 hg (fun r e => (hr r e).2), cells_kept h9 hg (fun r e => (hr r e).2), ownFrom_below (β := Unit) (w₀ := w) (Nat.le_refl _) hle () A B row hb hg hr⟩)
     ⟨rfl, B72.out, B82.out, B92.out, HB2.out, Nat.le_refl _⟩
     (fun x a' W => ∃ Bx, W2.heap.size ≤ Bx ∧ W.heap[Bx]? = some (.cells (arrS x.2) 29 (0, 0)) ∧ a' = { tmps := #[.slice A0 l0.length c0, .int .i64 a1, .int .i64 a2, .int .i64 a3, undef, undef, undef, .pointer (some ⟨g7, 0, none⟩), .pointer (some ⟨g8, 0, none⟩), .pointer (some ⟨g9, 0, none⟩), .int .i64 0, .int .i64 x.1, .pointer (some ⟨Bx, 0, none⟩), .slice A0 l0.length c0, .int .i64 a1, .int .i64 0, .int .i64 0, .bool false, undef, .int .i64 a2, .bool false, .bool false, .int .i64 a2, .bool false, .bool false, .int .i64 a3, .bool false, .bool false, .int .i64 a3, .int .i64 a1, .bool false, .bool false, .slice A0 l0.length c0, .int .i64 a2, .func (.func 88) #[] #[.pointer (some ⟨W1.heap.size, 0, none⟩), .pointer (some ⟨W1.heap.size + 1, 0, none⟩)], .int .i64 x.1, .agg (arrS x.2), undef, undef, undef, undef, undef, undef, undef, undef, undef, undef, undef], defers := [] })
     (fun x a' u A B row hs hg hr => by
      obtain ⟨Bx, hBx, hbx, e⟩ := hs
      exact ⟨Bx, hBx, cells_kept hbx hg (fun r e => (hr r e).2), e⟩) ?assign ?body ?done ?stop
    case assign =>
     rintro l pre x W K ⟨hm, h7, h8, h9, hB, hZ⟩ hK
     obtain ⟨i, s⟩ := x
     dsimp only [arrS]
     gi_wp2
     exact hK _ _ ((KeepsOthers.alloc _ _).from _) ⟨(Below.refl _ W).alloc hB.size _, fun cs hb => blk_alloc hb _⟩ ⟨hm, blk_alloc h7 _, blk_alloc h8 _, blk_alloc h9 _, hB.alloc hB.size _, by rw [World.size_alloc]; omega⟩ ⟨W.heap.size, hZ, blk_new _ _, rfl⟩
    case body =>
     rintro l pre x a' W hl ⟨r, hr⟩ ⟨hm, h7, h8, h9, hB, hZ⟩ ⟨Bx, hBx, hbx, rfl⟩ hlt
     obtain ⟨i, s⟩ := x
     have hc7 : W.cell? ⟨g7, 0, none⟩ = some (.int .i64 a3) := (blk_cell h7 0).trans rfl
     have hx0 : W.cell? ⟨Bx, 0, none⟩ = some (.int .i64 s.f0) := (blk_cell hbx 0).trans rfl
     have hx1 : W.cell? ⟨Bx, 1, none⟩ = some (.int .i64 s.f1) := (blk_cell hbx 1).trans rfl
     have hx2 : W.cell? ⟨Bx, 2, none⟩ = some (.int .i64 s.f2) := (blk_cell hbx 2).trans rfl
     have hx3 : W.cell? ⟨Bx, 3, none⟩ = some (.int .i64 s.f3) := (blk_cell hbx 3).trans rfl
     have hx4 : W.cell? ⟨Bx, 4, none⟩ = some (.int .i64 s.f4) := (blk_cell hbx 4).trans rfl
     have hx5 : W.cell? ⟨Bx, 5, none⟩ = some (.int .i64 s.f5) := (blk_cell hbx 5).trans rfl
     have hx6 : W.cell? ⟨Bx, 6, none⟩ = some (.int .i64 s.f6) := (blk_cell hbx 6).trans rfl
     have hmx : Try.prog.follows .mixedOrders = true := by kernel_rfl
     by_cases q1 : s.f2 ≤ a3
     ·have d1 : decide (s.f2 ≤ a3) = true := decide_eq_true q1
      dsimp only [arrS] at hbx ⊢
      gi_wp2
      gi_region_with_o (refine ⟨trivial, ?_⟩; gi_at_call 54; refine (CallsIn.inRound l (callsIn_wide.2 (staff_end.calls s.f0 s.f1 s.f2 s.f3 s.f4 s.f5 s.f6 _ _ rfl))).mono ?_; rintro e W5 ⟨rfl, hb⟩; have h75 := blk_cell (blk_below (blk_drew h7) hb); have hbx5 := blk_cell (blk_below (blk_drew hbx) hb))
      all_goals
       have h85 := blk_below (blk_drew h8) hb
       have h95 := blk_below (blk_drew h9) hb
       have h77 := blk_below (blk_drew h7) hb
       have hB5 : Below w.heap.size w W5 := below_step (below_drew1 hB) hb
       have hZ5 : W2.heap.size ≤ W5.heap.size := Nat.le_trans hZ hb.size
       have hK5 : KeepsFrom W2.heap.size W W5 := keepsFrom_below hb
       have hP5 : KpO w.heap.size (W1.heap.size + 1) W W5 := kpO_below hB.size hb
       clear h75 hbx5
       by_cases q2 : a3 < wrap64 (s.f2 + s.f3)
       ·have d2 : decide (a3 < wrap64 (s.f2 + s.f3)) = true := decide_eq_true q2
        rw [d2]
        have hc8 := blk_cell h85
        have hf8 := blk_frozen h85
        have hc9 := blk_cell h95
        have hf9 := blk_frozen h95
        clear hb
        gi_wp2
        refine ⟨hK5.trans (((KeepsOthers.setCell _ _ _).trans (KeepsOthers.setCell _ _ _)).from _), rfl, (i, s), ?_, ?_, ?_, below_set (below_set hB5 GE8.out) GE9.out⟩
        ·rw [List.find?_append, hm]; simp [hitB, d1, d2]
        ·exact blk_far (blk_put h85 0 _ rfl) hne _
        ·exact blk_put (blk_far h95 hne' _) 0 _ rfl
       ·have d2 : decide (a3 < wrap64 (s.f2 + s.f3)) = false := decide_eq_false q2
        rw [d2]
        clear hb
        gi_wp2
        exact ⟨hK5, hP5, by rw [List.find?_append, hm]; simp [hitB, d1, d2], h77, h85, h95, hB5, hZ5⟩
     ·have d1 : decide (s.f2 ≤ a3) = false := decide_eq_false q1
      dsimp only [arrS] at hbx ⊢
      gi_wp2
      gi_region_with_o (refine ⟨trivial, ?_⟩)
      all_goals gi_wp2
      all_goals exact ⟨(KeepsOthers.drew _).from _, ⟨(Below.refl _ W).drew, fun cs h => blk_drew h⟩, by rw [List.find?_append, hm]; simp [hitB, d1], blk_drew h7, blk_drew h8, blk_drew h9, below_drew1 hB, hZ⟩
    case done =>
     rintro D xs W hD rfl ⟨hm, h7, h8, h9, hB, hZ⟩ hK
     have hc8 := blk_cell h8
     have hf8 := blk_frozen h8
     have hc9 := blk_cell h9
     have hf9 := blk_frozen h9
     go_wp2
     have h2 := H2.out
     rw [hm] at h2
     obtain ⟨rfl, rfl⟩ := Prod.mk.inj h2
     exact at_leave rfl rfl (blk_far (blk_put h8 0 _ rfl) hne _) (blk_put (blk_far h9 hne' _) 0 _ rfl) (((KeepsOthers.setCell _ _ _).trans (KeepsOthers.setCell _ _ _)).same D _ hK rfl) (below_set (below_set hB GE8.out) GE9.out) (Nat.le_trans hle hD)
    case stop =>
     rintro D c pre W hD ⟨k, hk, rfl⟩ ⟨rfl, x, hx, h8, h9, hB⟩ hK
     rw [wpIn_wide]
     go_wp2
     have h2 := H2.out
     have hfull : (selP l0 a2 l0.length).find? (hitB a3) = some x := selP_find l0 a2 (hitB a3) k l0.length hk x hx
     rw [hfull] at h2
     obtain ⟨rfl, rfl⟩ := Prod.mk.inj h2
     exact at_leave rfl rfl h8 h9 hK hB (Nat.le_trans hle hD)
 ·rw [if_pos h1] at H1
  have e1 : r1 = 0 := by injection H1 with a b; exact a.symm
  have e2 : r2 = ce := by injection H1 with a b; exact b.symm
  subst e1 e2
  have hne0 : (r2 != 0) = true := bne_iff_ne.mpr h1
  clear H H1 hce h1
  go_wp2_with (first | (go_at_call 20; refine (staff_Check.calls A0 c0 l0 a1 _ _ (Kd.C_below HR.out HB.out) HC.out HQ.out).mono ?_; rintro e W1 ⟨rfl, hb⟩; have HB1 := Aside0.mk (below_step HB.out hb); have B71 := Aside0.mk (blk_below B7.out hb); have B81 := Aside0.mk (blk_below B8.out hb); have B91 := Aside0.mk (blk_below B9.out hb); have hc7 := blk_cell B71.out; have hc8 := blk_cell B81.out; have hf8 := blk_frozen B81.out; have hc9 := blk_cell B91.out; have hf9 := blk_frozen B91.out; clear hb))
  exact at_leave0 rfl rfl (blk_far (blk_put B81.out 0 _ rfl) hne _) (blk_put (blk_far B91.out hne' _) 0 _ rfl) (below_set (below_set HB1.out GE8.out) GE9.out)
end Go.Proofs.Ytdilndbanhianaa.P
end
section
set_option linter.unusedVariables false
set_option linter.unusedSimpArgs false
namespace Go.Proofs.Ytdilndbanhianaa.P
open Go.RowKit Go.Shelf Go.Proofs.YtdilndbanhianaaW.PrintWords Go.Proofs.YtdilndbanhianaaW.PrintLast Go.Proofs.YtdilndbanhianaaW.PrintMore
attribute [local go_sem] Oper.semAt_some
/-- What Column says. -/
def columnP (l : List S29) (n c : Int) : List S29 × Int :=
 if ¬ chkS l n = 0 then ([], chkS l n)
 else if c < 0 ∨ 9 ≤ c then ([], 16)
 else ((selP l c l.length).map (·.2), 0)
def staff_Column.f (l0 : List S29) (a1 a2 : Int) : Option (List S29 × Int) := some (columnP l0 a1 a2)
def cellsP (pre : List (Int × S29)) : List Value := pre.flatMap (fun x => (arrS x.2).toList)
theorem cellsP_snoc (pre : List (Int × S29)) (x : Int × S29) : cellsP (pre ++ [x]) = cellsP pre ++ (arrS x.2).toList := by simp [cellsP]
/-- A row of symbols, out of its cells. -/
theorem row_cellsP (W : World) (base : Nat) (v : Value) (pre : List (Int × S29)) (h : W.ownsRow base 29 7 v pre.length (cellsP pre)) : Kd.R k29 29 W base (fun _ => True) v (pre.map (·.2)) := by
 refine ⟨fun _ _ => trivial, cellsP pre, by rw [List.length_map]; exact h, ?_⟩
 clear h
 have key : ∀ (n : Nat) (ys : List (Int × S29)), ys.length = n → Reps (k29.M W base (fun k => True ∧ some k ≠ v.ownBlock)) 7 (ys.map (·.2)) (cellsP ys) := by
  intro n
  induction n with
  | zero =>
   intro ys h
   obtain rfl := List.length_eq_zero_iff.mp h
   exact Reps.none _ _
  | succ n ih =>
   intro ys h
   rcases List.eq_nil_or_concat ys with rfl | ⟨zs, x, rfl⟩
   ·simp at h
   ·rw [List.concat_eq_append] at h ⊢
    rw [cellsP_snoc, List.map_append]
    exact Reps.snoc (ih zs (by simpa using h)) (k29_mkM _ _ _ x.2) rfl
 exact key _ pre rfl
theorem cells_new29 (W : World) (s : S29) : ∀ j u, (arrS s).toList[j]? = some u → (W.alloc (.cells (arrS s) 29)).cell? ((⟨W.heap.size, 0, none⟩ : Addr).add j) = some u := by
 intro j u h
 have := blk_cell (blk_new W (.cells (arrS s) 29)) j
 have e : ((⟨W.heap.size, 0, none⟩ : Addr).add j) = ⟨W.heap.size, j, none⟩ := by
  simp only [Addr.add, Nat.zero_add]
  split
  ·subst j; rfl
  ·rfl
 rw [e, this]
 simpa using h
theorem kpO_appended {n₁ Bc g9 : Nat} {W w1 : World} {v v' : Value} {k : Nat} {xs : List Value} {tmp : Obj} (hrow : W.ownsRow n₁ 29 7 v k xs) (hg : (W.alloc tmp).grownBy w1 v.ownBlock) (hv1 : w1.heap[g9]? = some (.cells #[v] 22 (0, 0)))
  (hb : Below n₁ W (w1.setCell ⟨g9, 0, none⟩ v')) : KpO n₁ Bc W (w1.setCell ⟨g9, 0, none⟩ v') := by
 refine ⟨hb, fun cs h => ?_⟩
 have h1 := blk_alloc h tmp
 have h2 : w1.heap[Bc]? = some (.cells cs 3 (0, 0)) := by
  refine (hg.block Bc (blk_lt h1) (fun e => ?_)).trans h1
  rcases hrow.2 with ⟨rfl, _⟩ | ⟨g, cap, cur, rfl, _, hgb, _⟩
  ·simp [Value.ownBlock] at e
  ·obtain rfl : Bc = g := by simpa [Value.ownBlock] using e
   rw [h] at hgb; cases hgb
 refine blk_far h2 (fun e => ?_) _
 subst e
 rw [h2] at hv1; cases hv1
/-- Between two rounds. -/
def CoI (w : World) (Z g9 : Nat) (pre : List (Int × S29)) (W : World) : Prop :=
 (∃ v, Boxed W g9 22 v ∧ W.ownsRow w.heap.size 29 7 v pre.length (cellsP pre) ∧ True) ∧ Below w.heap.size w W ∧ Z ≤ W.heap.size
set_option maxHeartbeats 4000000 in
set_option maxRecDepth 100000 in
theorem staff_Column.calls (A0 : Option Addr) (c0 : Nat) (l0 : List S29) (a1 a2 : Int) (r1 : List S29) (r2 : Int) (w : World) (hr0 : Kd.C k29 w A0 l0.length l0) (hc0 : l0.length ≤ c0) (h : staff_Column.f l0 a1 a2 = some (r1, r2)) :
  Calls Try.prog 28 #[.slice A0 l0.length c0, .int .i64 a1, .int .i64 a2] w fun e w' => ∃ v0_ : Value, e = .returned (.tuple #[v0_, .int .i64 r2]) ∧ Kd.R k29 29 w' w.heap.size (fun _ => True) v0_ r1 ∧ Below w.heap.size w w' := by
 have hu29 := Try.underlying29
 have H := Aside0.mk (Option.some.inj h)
 have HR := Aside0.mk hr0
 have HC := Aside0.mk hc0
 have HB := Aside0.mk (Below.refl w.heap.size w)
 clear h hr0 hc0
 refine callsIn_wide.1 (callsIn_of_wp_marks (n := 6) Try.func28 rfl trivial ?_)
 refine wpIn_wide.2 ?_
 simp only [Try.ntmps28, List.size_toArray, List.length_cons, List.length_nil, Nat.reduceAdd, Nat.reduceSub, Array.replicate_succ, Array.replicate_zero, List.push_toArray, List.append_toArray, List.nil_append, List.cons_append]
 obtain ⟨ce, hce⟩ : ∃ ce, chkS l0 a1 = ce := ⟨_, rfl⟩
 have HQ : Aside0 (staff_Check.f l0 a1 = some ce) := ⟨congrArg some hce⟩
 have H1 := H.out
 unfold columnP at H1
 rw [hce] at H1
 by_cases h1 : ce = 0
 ·subst h1
  rw [if_neg (by decide)] at H1
  have HL := Aside0.mk (chkS_len _ _ hce)
  clear hce H
  by_cases h2 : a2 < 0 ∨ 9 ≤ a2
  ·rw [if_pos h2] at H1
   obtain ⟨rfl, rfl⟩ := Prod.mk.inj H1
   by_cases h3 : a2 < 0
   ·have e1 : decide (a2 < 0) = true := decide_eq_true h3
    clear H1 h2 h3
    go_wp2_with (first | (go_at_call 20; refine (staff_Check.calls A0 c0 l0 a1 _ _ (Kd.C_below HR.out HB.out) HC.out HQ.out).mono ?_; rintro e W1 ⟨rfl, hb⟩; have HB1 := Aside0.mk (below_step HB.out hb); clear hb))
    exact ⟨_, results_tmp2 rfl _ _ _, _, rfl, Kd.R_nil _ _ _ _ _, HB1.out⟩
   ·have e1 : decide (a2 < 0) = false := decide_eq_false h3
    have e2 : decide (9 ≤ a2) = true := decide_eq_true (by omega)
    clear H1 h2 h3
    go_wp2_with (first | (go_at_call 20; refine (staff_Check.calls A0 c0 l0 a1 _ _ (Kd.C_below HR.out HB.out) HC.out HQ.out).mono ?_; rintro e W1 ⟨rfl, hb⟩; have HB1 := Aside0.mk (below_step HB.out hb); clear hb))
    exact ⟨_, results_tmp2 rfl _ _ _, _, rfl, Kd.R_nil _ _ _ _ _, HB1.out⟩
  ·rw [if_neg h2] at H1
   have e1 : decide (a2 < 0) = false := by simp; omega
   have e2 : decide (9 ≤ a2) = false := by simp; omega
   have H2 := Aside0.mk H1
   clear H1 h2
   go_upto_region 7 with (first | (go_at_call 20; refine (staff_Check.calls A0 c0 l0 a1 _ _ (Kd.C_below HR.out HB.out) HC.out HQ.out).mono ?_; rintro e W1 ⟨rfl, hb⟩; have HB1 := Aside0.mk (below_step HB.out hb); clear hb))
   have HB3 : Aside0 (Below w.heap.size w (W1.alloc (.cells #[.slice none 0 0] 22))) := ⟨below_alloc HB1.out _⟩
   have B91 : Aside0 ((W1.alloc (.cells #[.slice none 0 0] 22)).heap[W1.heap.size]? = some (.cells #[.slice none 0 0] 22 (0, 0))) := ⟨blk_new _ _⟩
   have GE9 : Aside0 (w.heap.size ≤ W1.heap.size) := ⟨below_size HB1.out⟩
   generalize (W1.alloc (.cells #[.slice none 0 0] 22)) = W3 at HB3 B91 ⊢
   generalize W1.heap.size = g9 at B91 GE9 ⊢
   clear HB1
   go_wp2_with (first | (go_at_call 61; refine (of_call A0 c0 l0.length a2 _).mono ?_; rintro e W2 ⟨rfl, hb, hsz, hBl, hBc⟩; have HB2 := Aside0.mk (below_step HB3.out hb); have B92 := Aside0.mk (blk_below B91.out hb)))
   clear hsz
   have l9 : g9 < W3.heap.size := blk_lt B91.out
   have hle : w.heap.size ≤ W2.heap.size := below_size HB2.out
   refine (wpIn_wide (n := 6)).1 ?_
   refine wpIn_rangeFunc_ownH (F := Fence.wide) rfl (by decide) (gf := 88) (lb := #[.pointer (some ⟨W3.heap.size, 0, none⟩), .pointer (some ⟨W3.heap.size + 1, 0, none⟩)]) rfl trivial (enters_of Try.func88 (by kernel_rfl) rfl)
    (of_stops Fence.wide 5 trivial rfl (by decide) W3.heap.size (W3.heap.size + 1) A0 c0 l0 a2 w W2 HR.out HL.out HB2.out hBl hBc) kpO_t (kpO_b hle) (Below.refl _ _) (fun _ => rfl)
    (CoI w W2.heap.size g9) (fun _ _ _ => False)
    (fun s A B row hs hg hr => ⟨holdsRow_own w.heap.size g9 22 29 7 (fun pre : List (Int × S29) => pre.length) cellsP (fun _ _ => True) s A B row hs.1 hg (fun r e => (hr r e).2), ownFrom_below (β := Unit) (w₀ := w) (Nat.le_refl _) hle () A B row hs.2.1 hg hr, Nat.le_trans hs.2.2 hg.size⟩)
    (fun _ _ _ _ _ hs _ _ => hs)
    ⟨⟨_, B92.out, World.ownsRow_nil _ _ _ _, trivial⟩, HB2.out, Nat.le_refl _⟩
    (fun x a' W => ∃ Bx, W2.heap.size ≤ Bx ∧ W.heap[Bx]? = some (.cells (arrS x.2) 29 (0, 0)) ∧ a' = { tmps := #[.slice A0 l0.length c0, .int .i64 a1, .int .i64 a2, undef, undef, undef, .slice none 0 0, .int .i64 0, .int .i64 0, .pointer (some ⟨g9, 0, none⟩), undef, .pointer (some ⟨Bx, 0, none⟩), .slice A0 l0.length c0, .int .i64 a1, .int .i64 0, .int .i64 0, .bool false, undef, .int .i64 a2, .bool false, .bool false, .int .i64 a2, .bool false, .bool false, .slice A0 l0.length c0, .int .i64 a2, .func (.func 88) #[] #[.pointer (some ⟨W3.heap.size, 0, none⟩), .pointer (some ⟨W3.heap.size + 1, 0, none⟩)], .int .i64 x.1, .agg (arrS x.2), undef, undef, undef, undef, undef], defers := [] })
    (fun x a' u A B row hs hg hr => by
     obtain ⟨Bx, hBx, hbx, e⟩ := hs
     exact ⟨Bx, hBx, cells_kept hbx hg (fun r e => (hr r e).2), e⟩) ?assign ?body ?done ?stop
   case assign =>
    rintro l pre x W K ⟨⟨v, hv, hrow, _⟩, hB, hZ⟩ hK
    obtain ⟨i, s⟩ := x
    dsimp only [arrS]
    gi_wp2
    exact hK _ _ ((KeepsOthers.alloc _ _).from _) ⟨(Below.refl _ W).alloc hB.size _, fun cs hb => blk_alloc hb _⟩ ⟨⟨v, hv.alloc _, hrow.alloc _, trivial⟩, hB.alloc hB.size _, by rw [World.size_alloc]; omega⟩ ⟨W.heap.size, hZ, blk_new _ _, rfl⟩
   case body =>
    rintro l pre x a' W hl ⟨r, hr⟩ ⟨⟨v, hv, hrow, _⟩, hB, hZ⟩ ⟨Bx, hBx, hbx, rfl⟩ hlt
    obtain ⟨i, s⟩ := x
    obtain ⟨i0, hi, hz0, hz1, hz2⟩ := info_parts info29
    have hc := hv.cell
    have hlen := HL.out
    have hx0 : W.cell? ⟨Bx, 0, none⟩ = some (.int .i64 s.f0) := (blk_cell hbx 0).trans rfl
    have hx1 : W.cell? ⟨Bx, 1, none⟩ = some (.int .i64 s.f1) := (blk_cell hbx 1).trans rfl
    have hx2 : W.cell? ⟨Bx, 2, none⟩ = some (.int .i64 s.f2) := (blk_cell hbx 2).trans rfl
    have hx3 : W.cell? ⟨Bx, 3, none⟩ = some (.int .i64 s.f3) := (blk_cell hbx 3).trans rfl
    have hx4 : W.cell? ⟨Bx, 4, none⟩ = some (.int .i64 s.f4) := (blk_cell hbx 4).trans rfl
    have hx5 : W.cell? ⟨Bx, 5, none⟩ = some (.int .i64 s.f5) := (blk_cell hbx 5).trans rfl
    have hx6 : W.cell? ⟨Bx, 6, none⟩ = some (.int .i64 s.f6) := (blk_cell hbx 6).trans rfl
    gi_wp2_with (gi_at_builtin; refine wpListIn_append_own _ rfl _ _ 22 rfl w.heap.size 29 i0 (.agg #[(.int .i64 0), (.int .i64 0), (.int .i64 0), (.int .i64 0), (.int .i64 0), (.int .i64 0), (.int .i64 0)]) 7 56 Try.underlying22 hi hz0 hz1 hz2 rfl (by decide) _ _ _ rfl (hrow.alloc _) ⟨W.heap.size, 0, none⟩ 1 1 (arrS s).toList rfl rfl (cells_new29 W s) (by simp [arrS, Value.oneCell']) (by unfold maxLen; omega) (by omega) (by have := hB.size; rw [World.size_alloc]; omega) ?_; intro v' w1 hown' hgrow _; obtain ⟨g', cap', rfl⟩ := ownsRow_succ hown'; obtain ⟨hv1, hv2, hr2, hk2, hb2⟩ := hv.appended (by decide) hrow hB.size GE9.out hown' hgrow; have hc1 := hv1.cell; have hf1 := hv1.frozen)
    exact ⟨hk2.from _, kpO_appended hrow hgrow hv1 hb2, ⟨⟨_, hv2, by rw [cellsP_snoc, List.length_append]; exact hr2, trivial⟩, hB.trans hb2, Nat.le_trans hZ hk2.size⟩⟩
   case done =>
    rintro D xs W hD rfl ⟨⟨v, hv, hrow, _⟩, hB, hZ⟩ hK
    have hc := hv.cell
    have h2 := H2.out
    obtain ⟨rfl, rfl⟩ := Prod.mk.inj h2
    have hfin := row_cellsP (W.putObj D (.deferred none)) w.heap.size v _ (ownsRow_putObj hrow _ hK rfl)
    go_wp2
    refine ⟨by simp, .inl ⟨_, _, rfl, run_takeDeferred hK, ?_⟩⟩
    exact ⟨_, results_tmp2 rfl _ _ _, v, rfl, hfin, hB.trans (belowK_b (w := w) (Nat.le_refl _) W D _ _ (Nat.le_trans hle hD) hK rfl rfl)⟩
   case stop =>
    rintro D c pre W hD _ h _
    exact h.elim
 ·rw [if_pos h1] at H1
  obtain ⟨rfl, rfl⟩ := Prod.mk.inj H1
  have hne0 : (ce != 0) = true := bne_iff_ne.mpr h1
  clear H H1 hce h1
  go_wp2_with (first | (go_at_call 20; refine (staff_Check.calls A0 c0 l0 a1 _ _ (Kd.C_below HR.out HB.out) HC.out HQ.out).mono ?_; rintro e W1 ⟨rfl, hb⟩; have HB1 := Aside0.mk (below_step HB.out hb); clear hb))
  exact ⟨_, results_tmp2 rfl _ _ _, _, rfl, Kd.R_nil _ _ _ _ _, HB1.out⟩
end Go.Proofs.Ytdilndbanhianaa.P
end
section
set_option linter.unusedVariables false
set_option linter.unusedSimpArgs false
namespace Go.Proofs.Ytdilndbanhianaa.P
open Go.RowKit Go.Shelf Go.Proofs.YtdilndbanhianaaW.PrintWords Go.Proofs.YtdilndbanhianaaW.PrintLast Go.Proofs.YtdilndbanhianaaW.PrintMore
attribute [local go_sem] Oper.semAt_some
def hitP (s : S29) (x : Int × S29) : Bool := decide (x.2.f2 < wrap64 (s.f2 + s.f3)) && decide (s.f2 < wrap64 (x.2.f2 + x.2.f3))
/-- What Put says. -/
def putP (l : List S29) (n : Int) (s : S29) : List S29 × Int :=
 if ¬ chkS l n = 0 then ([], chkS l n)
 else if ¬ chkO s = 0 then ([], chkO s)
 else if n < wrap64 (s.f2 + s.f3) then ([], 1)
 else if ((selP l s.f1 l.length).find? (hitP s)).isSome = true then ([], 17)
 else if l.length = 256 then ([], 3)
 else (l.take (placeN l s) ++ [s] ++ l.drop (placeN l s), 0)
def staff_Put.f (l0 : List S29) (a1 b0 b1 b2 b3 b4 b5 b6 : Int) : Option (List S29 × Int) := some (putP l0 a1 ⟨b0, b1, b2, b3, b4, b5, b6⟩)
theorem chkS_ord (l : List S29) (n : Int) (h : chkS l n = 0) : ordS l = true := by
 unfold chkS at h
 split at h
 ·cases h
 ·split at h
  ·cases h
  ·split at h
   ·rename_i h1; exact absurd h h1
   ·split at h
    ·cases h
    ·rename_i h2; exact Bool.not_eq_false _ ▸ h2
def PuI (s : S29) (w : World) (Z g5 g6 g7 : Nat) (pre : List (Int × S29)) (W : World) : Prop :=
 pre.find? (hitP s) = none ∧ W.heap[g5]? = some (.cells #[.int .i64 s.f0, .int .i64 s.f1, .int .i64 s.f2, .int .i64 s.f3, .int .i64 s.f4, .int .i64 s.f5, .int .i64 s.f6] 29 (0, 0)) ∧ W.heap[g6]? = some (.cells #[.slice none 0 0] 22 (0, 0)) ∧ W.heap[g7]? = some (.cells #[.int .i64 0] 24 (0, 0)) ∧ Below w.heap.size w W ∧ Z ≤ W.heap.size
def PuX (s : S29) (w : World) (g6 g7 : Nat) (c : Code) (pre : List (Int × S29)) (W : World) : Prop :=
 c = .ret ∧ (pre.find? (hitP s)).isSome = true ∧ W.heap[g6]? = some (.cells #[.slice none 0 0] 22 (0, 0)) ∧ W.heap[g7]? = some (.cells #[.int .i64 17] 24 (0, 0)) ∧ Below w.heap.size w W
theorem put_results {tmps : Array Value} {g6 g7 : Nat} {v : Value} {r2 : Int} {W6 : World} (ht6 : tmps[6]?.getD undef = .pointer (some ⟨g6, 0, none⟩)) (ht7 : tmps[7]?.getD undef = .pointer (some ⟨g7, 0, none⟩))
  (h6 : W6.heap[g6]? = some (.cells #[v] 22 (0, 0))) (h7 : W6.heap[g7]? = some (.cells #[.int .i64 r2] 24 (0, 0))) : (results Try.f23 tmps).run Try.prog W6 = .ok (.tuple #[v, .int .i64 r2]) W6 := by
 have hc8 : W6.cell? ⟨g6, 0, none⟩ = some v := (blk_cell h6 0).trans rfl
 have hc9 : W6.cell? ⟨g7, 0, none⟩ = some (.int .i64 r2) := (blk_cell h7 0).trans rfl
 simp [results, Try.f23, go_sem, ht6, ht7, hc8, hc9]
theorem put_leave0 {tmps : Array Value} {g6 g7 : Nat} {v : Value} {r1 : List S29} {r2 : Int} {w W6 : World} (ht6 : tmps[6]?.getD undef = .pointer (some ⟨g6, 0, none⟩)) (ht7 : tmps[7]?.getD undef = .pointer (some ⟨g7, 0, none⟩))
  (h6 : W6.heap[g6]? = some (.cells #[v] 22 (0, 0))) (h7 : W6.heap[g7]? = some (.cells #[.int .i64 r2] 24 (0, 0))) (hR : Kd.R k29 29 W6 w.heap.size (fun _ => True) v r1) (hB : Below w.heap.size w W6) :
  bodyPostM Fence.wide 6 Try.prog Try.f23 (fun e w' => ∃ v0_ : Value, e = .returned (.tuple #[v0_, .int .i64 r2]) ∧ Kd.R k29 29 w' w.heap.size (fun _ => True) v0_ r1 ∧ Below w.heap.size w w') Exit.ret { tmps := tmps, defers := [] } W6 :=
 ⟨_, put_results ht6 ht7 h6 h7, _, rfl, hR, hB⟩
theorem put_leave {tmps : Array Value} {g6 g7 D : Nat} {v : Value} {r1 : List S29} {r2 : Int} {w W6 : World} (ht6 : tmps[6]?.getD undef = .pointer (some ⟨g6, 0, none⟩)) (ht7 : tmps[7]?.getD undef = .pointer (some ⟨g7, 0, none⟩))
  (h6 : W6.heap[g6]? = some (.cells #[v] 22 (0, 0))) (h7 : W6.heap[g7]? = some (.cells #[.int .i64 r2] 24 (0, 0))) (hK : W6.heap[D]? = some (.deferred (some []))) (hR : Kd.R k29 29 W6 w.heap.size (fun k => k ≠ D) v r1) (hB : Below w.heap.size w W6) (hD : w.heap.size ≤ D) :
  bodyPostM Fence.wide 6 Try.prog Try.f23 (fun e w' => ∃ v0_ : Value, e = .returned (.tuple #[v0_, .int .i64 r2]) ∧ Kd.R k29 29 w' w.heap.size (fun _ => True) v0_ r1 ∧ Below w.heap.size w w') Exit.ret { tmps := tmps, defers := [{ target := .collected D, args := #[] }] } W6 := by
 refine ⟨by simp, .inl ⟨_, _, rfl, run_takeDeferred hK, ?_⟩⟩
 exact ⟨_, put_results ht6 ht7 (cells_kept h6 (grownBy_putObj' _ D _) (fun r e => by cases e; exact ⟨_, hK, rfl⟩)) (cells_kept h7 (grownBy_putObj' _ D _) (fun r e => by cases e; exact ⟨_, hK, rfl⟩)), _, rfl,
  Kd.R_mono (Kd.R_step hR (fun k hk _ => World.putObj_heap_other hk)) (fun _ _ => trivial), hB.trans (belowK_b (w := w) (Nat.le_refl _) W6 D _ _ hD hK rfl rfl)⟩
set_option maxHeartbeats 8000000 in
set_option maxRecDepth 100000 in
theorem staff_Put.calls (A0 : Option Addr) (c0 : Nat) (l0 : List S29) (a1 b0 b1 b2 b3 b4 b5 b6 : Int) (r1 : List S29) (r2 : Int) (w : World) (hr0 : Kd.C k29 w A0 l0.length l0) (hc0 : l0.length ≤ c0) (h : staff_Put.f l0 a1 b0 b1 b2 b3 b4 b5 b6 = some (r1, r2)) :
  Calls Try.prog 23 #[.slice A0 l0.length c0, .int .i64 a1, .agg #[.int .i64 b0, .int .i64 b1, .int .i64 b2, .int .i64 b3, .int .i64 b4, .int .i64 b5, .int .i64 b6]] w fun e w' => ∃ v0_ : Value, e = .returned (.tuple #[v0_, .int .i64 r2]) ∧ Kd.R k29 29 w' w.heap.size (fun _ => True) v0_ r1 ∧ Below w.heap.size w w' := by
 have hu29 := Try.underlying29
 unfold staff_Put.f at h
 obtain ⟨s, hs⟩ : ∃ s : S29, (⟨b0, b1, b2, b3, b4, b5, b6⟩ : S29) = s := ⟨_, rfl⟩
 rw [hs] at h
 have e0 : b0 = s.f0 := by rw [← hs]
 have e1 : b1 = s.f1 := by rw [← hs]
 have e2 : b2 = s.f2 := by rw [← hs]
 have e3 : b3 = s.f3 := by rw [← hs]
 have e4 : b4 = s.f4 := by rw [← hs]
 have e5 : b5 = s.f5 := by rw [← hs]
 have e6 : b6 = s.f6 := by rw [← hs]
 clear hs
 subst e0 e1 e2 e3 e4 e5 e6
 have H := Aside0.mk (Option.some.inj h)
 have HR := Aside0.mk hr0
 have HC := Aside0.mk hc0
 have hz1 : (w.alloc (.cells #[.int .i64 s.f0, .int .i64 s.f1, .int .i64 s.f2, .int .i64 s.f3, .int .i64 s.f4, .int .i64 s.f5, .int .i64 s.f6] 29)).heap.size = w.heap.size + 1 := by rw [World.size_alloc]
 have hz2 : ((w.alloc (.cells #[.int .i64 s.f0, .int .i64 s.f1, .int .i64 s.f2, .int .i64 s.f3, .int .i64 s.f4, .int .i64 s.f5, .int .i64 s.f6] 29)).alloc (.cells #[.slice none 0 0] 22)).heap.size = w.heap.size + 2 := by rw [World.size_alloc, World.size_alloc]
 have b5 : (((w.alloc (.cells #[.int .i64 s.f0, .int .i64 s.f1, .int .i64 s.f2, .int .i64 s.f3, .int .i64 s.f4, .int .i64 s.f5, .int .i64 s.f6] 29)).alloc (.cells #[.slice none 0 0] 22)).alloc (.cells #[.int .i64 0] 24)).heap[w.heap.size]? = some (.cells #[.int .i64 s.f0, .int .i64 s.f1, .int .i64 s.f2, .int .i64 s.f3, .int .i64 s.f4, .int .i64 s.f5, .int .i64 s.f6] 29 (0, 0)) := blk_alloc (blk_alloc (blk_new _ _) _) _
 have b6 : (((w.alloc (.cells #[.int .i64 s.f0, .int .i64 s.f1, .int .i64 s.f2, .int .i64 s.f3, .int .i64 s.f4, .int .i64 s.f5, .int .i64 s.f6] 29)).alloc (.cells #[.slice none 0 0] 22)).alloc (.cells #[.int .i64 0] 24)).heap[w.heap.size + 1]? = some (.cells #[.slice none 0 0] 22 (0, 0)) := blk_alloc (by rw [← hz1]; exact blk_new _ _) _
 have b7 : (((w.alloc (.cells #[.int .i64 s.f0, .int .i64 s.f1, .int .i64 s.f2, .int .i64 s.f3, .int .i64 s.f4, .int .i64 s.f5, .int .i64 s.f6] 29)).alloc (.cells #[.slice none 0 0] 22)).alloc (.cells #[.int .i64 0] 24)).heap[w.heap.size + 2]? = some (.cells #[.int .i64 0] 24 (0, 0)) := by rw [← hz2]; exact blk_new _ _
 have hb0 : Below w.heap.size w (((w.alloc (.cells #[.int .i64 s.f0, .int .i64 s.f1, .int .i64 s.f2, .int .i64 s.f3, .int .i64 s.f4, .int .i64 s.f5, .int .i64 s.f6] 29)).alloc (.cells #[.slice none 0 0] 22)).alloc (.cells #[.int .i64 0] 24)) := below_alloc (below_alloc (below_alloc (Below.refl _ _) _) _) _
 clear h hr0 hc0
 refine callsIn_wide.1 (callsIn_of_wp_marks (n := 6) Try.func23 rfl trivial ?_)
 refine wpIn_wide.2 ?_
 simp only [Try.ntmps23, List.size_toArray, List.length_cons, List.length_nil, Nat.reduceAdd, Nat.reduceSub, Array.replicate_succ, Array.replicate_zero, List.push_toArray, List.append_toArray, List.nil_append, List.cons_append]
 go_upto_region 1 with (fail)
 generalize (((w.alloc (.cells #[.int .i64 s.f0, .int .i64 s.f1, .int .i64 s.f2, .int .i64 s.f3, .int .i64 s.f4, .int .i64 s.f5, .int .i64 s.f6] 29)).alloc (.cells #[.slice none 0 0] 22)).alloc (.cells #[.int .i64 0] 24)) = W0 at b5 b6 b7 hb0 ⊢
 clear hz1 hz2
 have h56 : w.heap.size ≠ w.heap.size + 1 := by omega
 have h57 : w.heap.size ≠ w.heap.size + 2 := by omega
 have hne67 : w.heap.size + 1 ≠ w.heap.size + 2 := by omega
 have GE6 : Aside0 (w.heap.size ≤ w.heap.size + 1) := ⟨by omega⟩
 have GE7 : Aside0 (w.heap.size ≤ w.heap.size + 2) := ⟨by omega⟩
 have GE5 : Aside0 (w.heap.size ≤ w.heap.size) := ⟨by omega⟩
 have hall : ∃ g5 g6 g7, w.heap.size = g5 ∧ w.heap.size + 1 = g6 ∧ w.heap.size + 2 = g7 := ⟨_, _, _, rfl, rfl, rfl⟩
 obtain ⟨g5, g6, g7, hg5, hg6, hg7⟩ := hall
 have b5' : W0.heap[g5]? = some (.cells #[.int .i64 s.f0, .int .i64 s.f1, .int .i64 s.f2, .int .i64 s.f3, .int .i64 s.f4, .int .i64 s.f5, .int .i64 s.f6] 29 (0, 0)) := by rw [← hg5]; exact b5
 have hptr : Value.pointer (some { block := w.heap.size, off := 0 }) = Value.pointer (some { block := g5, off := 0 }) := by rw [hg5]
 rw [hptr]
 rw [hg6] at b6 GE6 hne67 h56
 rw [hg7] at b7 GE7 hne67 h57
 rw [hg5] at h56 h57
 rw [hg6, hg7]
 have hne76 : g7 ≠ g6 := Ne.symm hne67
 clear hg6 hg7 hptr b5 GE5
 have hg5' := Aside0.mk hg5
 clear hg5
 have B5 := Aside0.mk b5'
 have B6 := Aside0.mk b6
 have B7 := Aside0.mk b7
 have HB := Aside0.mk hb0
 clear b5' b6 b7 hb0
 obtain ⟨ce, hce⟩ : ∃ ce, chkS l0 a1 = ce := ⟨_, rfl⟩
 have HQ : Aside0 (staff_Check.f l0 a1 = some ce) := ⟨congrArg some hce⟩
 obtain ⟨co, hco⟩ : ∃ co, chkO s = co := ⟨_, rfl⟩
 have HO : Aside0 (symbol_Check.f 2 s.f0 s.f1 s.f2 s.f3 s.f4 s.f5 s.f6 = some co) := ⟨by rw [symCheck_eq 0, ← hco]; rfl⟩
 obtain ⟨es, hes⟩ : ∃ es, wrap64 (s.f2 + s.f3) = es := ⟨_, rfl⟩
 have HE : Aside0 (staff_end.f s.f0 s.f1 s.f2 s.f3 s.f4 s.f5 s.f6 = some es) := ⟨by rw [← hes]; rfl⟩
 have HES := Aside0.mk hes
 have H1 := H.out
 unfold putP at H1
 rw [hce, hco, hes] at H1
 by_cases h1 : ce = 0
 ·subst h1
  rw [if_neg (by decide)] at H1
  have HL := Aside0.mk (chkS_len _ _ hce)
  have HOR := Aside0.mk (chkS_ord _ _ hce)
  clear hce H
  by_cases h2 : co = 0
  ·subst h2
   rw [if_neg (by decide)] at H1
   clear hco
   by_cases h3 : a1 < es
   ·rw [if_pos h3] at H1
    obtain ⟨rfl, rfl⟩ := Prod.mk.inj H1
    have d3 : decide (a1 < es) = true := decide_eq_true h3
    clear H1 h3 hes
    go_wp2_with (first | (go_at_call 20; refine (staff_Check.calls A0 c0 l0 a1 _ _ (Kd.C_below HR.out HB.out) HC.out HQ.out).mono ?_; rintro e W1 ⟨rfl, hb⟩; have B5_ := Aside0.mk (blk_below B5.out hb); have B6_ := Aside0.mk (blk_below B6.out hb); have B7_ := Aside0.mk (blk_below B7.out hb); clear B5 B6 B7; have B5 := B5_; have B6 := B6_; have B7 := B7_; clear B5_ B6_ B7_; have hc5 := blk_cell B5.out; have hf5 := blk_frozen B5.out; have hc6 := blk_cell B6.out; have hf6 := blk_frozen B6.out; have hc7 := blk_cell B7.out; have hf7 := blk_frozen B7.out; have HB_ := Aside0.mk (below_step HB.out hb); clear HB; have HB := HB_; clear HB_ hb) | (go_at_call 52; refine (symbol_Check.calls _ s.f0 s.f1 s.f2 s.f3 s.f4 s.f5 s.f6 _ _ HO.out).mono ?_; rintro e W1b ⟨rfl, hb⟩; have B5_ := Aside0.mk (blk_below B5.out hb); have B6_ := Aside0.mk (blk_below B6.out hb); have B7_ := Aside0.mk (blk_below B7.out hb); clear B5 B6 B7; have B5 := B5_; have B6 := B6_; have B7 := B7_; clear B5_ B6_ B7_; have hc5 := blk_cell B5.out; have hf5 := blk_frozen B5.out; have hc6 := blk_cell B6.out; have hf6 := blk_frozen B6.out; have hc7 := blk_cell B7.out; have hf7 := blk_frozen B7.out; have HB_ := Aside0.mk (below_step HB.out hb); clear HB; have HB := HB_; clear HB_ hb) | (go_at_call 54; refine (staff_end.calls s.f0 s.f1 s.f2 s.f3 s.f4 s.f5 s.f6 _ _ HE.out).mono ?_; rintro e W1c ⟨rfl, hb⟩; have B5_ := Aside0.mk (blk_below B5.out hb); have B6_ := Aside0.mk (blk_below B6.out hb); have B7_ := Aside0.mk (blk_below B7.out hb); clear B5 B6 B7; have B5 := B5_; have B6 := B6_; have B7 := B7_; clear B5_ B6_ B7_; have hc5 := blk_cell B5.out; have hf5 := blk_frozen B5.out; have hc6 := blk_cell B6.out; have hf6 := blk_frozen B6.out; have hc7 := blk_cell B7.out; have hf7 := blk_frozen B7.out; have HB_ := Aside0.mk (below_step HB.out hb); clear HB; have HB := HB_; clear HB_ hb))
    exact put_leave0 rfl rfl (blk_far (blk_put B6.out 0 _ rfl) hne67 _) (blk_put (blk_far B7.out hne76 _) 0 _ rfl) (Kd.R_nil _ _ _ _ _) (below_set (below_set HB.out GE6.out) GE7.out)
   ·rw [if_neg h3] at H1
    have d3 : decide (a1 < es) = false := decide_eq_false h3
    have H2 := Aside0.mk H1
    clear H1 h3 hes
    go_wp2_with (first | (go_at_call 20; refine (staff_Check.calls A0 c0 l0 a1 _ _ (Kd.C_below HR.out HB.out) HC.out HQ.out).mono ?_; rintro e W1 ⟨rfl, hb⟩; have B5_ := Aside0.mk (blk_below B5.out hb); have B6_ := Aside0.mk (blk_below B6.out hb); have B7_ := Aside0.mk (blk_below B7.out hb); clear B5 B6 B7; have B5 := B5_; have B6 := B6_; have B7 := B7_; clear B5_ B6_ B7_; have hc5 := blk_cell B5.out; have hf5 := blk_frozen B5.out; have hc6 := blk_cell B6.out; have hf6 := blk_frozen B6.out; have hc7 := blk_cell B7.out; have hf7 := blk_frozen B7.out; have HB_ := Aside0.mk (below_step HB.out hb); clear HB; have HB := HB_; clear HB_ hb) | (go_at_call 52; refine (symbol_Check.calls _ s.f0 s.f1 s.f2 s.f3 s.f4 s.f5 s.f6 _ _ HO.out).mono ?_; rintro e W1b ⟨rfl, hb⟩; have B5_ := Aside0.mk (blk_below B5.out hb); have B6_ := Aside0.mk (blk_below B6.out hb); have B7_ := Aside0.mk (blk_below B7.out hb); clear B5 B6 B7; have B5 := B5_; have B6 := B6_; have B7 := B7_; clear B5_ B6_ B7_; have hc5 := blk_cell B5.out; have hf5 := blk_frozen B5.out; have hc6 := blk_cell B6.out; have hf6 := blk_frozen B6.out; have hc7 := blk_cell B7.out; have hf7 := blk_frozen B7.out; have HB_ := Aside0.mk (below_step HB.out hb); clear HB; have HB := HB_; clear HB_ hb) | (go_at_call 54; refine (staff_end.calls s.f0 s.f1 s.f2 s.f3 s.f4 s.f5 s.f6 _ _ HE.out).mono ?_; rintro e W1c ⟨rfl, hb⟩; have B5_ := Aside0.mk (blk_below B5.out hb); have B6_ := Aside0.mk (blk_below B6.out hb); have B7_ := Aside0.mk (blk_below B7.out hb); clear B5 B6 B7; have B5 := B5_; have B6 := B6_; have B7 := B7_; clear B5_ B6_ B7_; have hc5 := blk_cell B5.out; have hf5 := blk_frozen B5.out; have hc6 := blk_cell B6.out; have hf6 := blk_frozen B6.out; have hc7 := blk_cell B7.out; have hf7 := blk_frozen B7.out; have HB_ := Aside0.mk (below_step HB.out hb); clear HB; have HB := HB_; clear HB_ hb) | (go_at_call 61; refine (of_call A0 c0 l0.length s.f1 _).mono ?_; rintro e W2 ⟨rfl, hb, hsz, hBl, hBc⟩; have B5_ := Aside0.mk (blk_below B5.out hb); have B6_ := Aside0.mk (blk_below B6.out hb); have B7_ := Aside0.mk (blk_below B7.out hb); clear B5 B6 B7; have B5 := B5_; have B6 := B6_; have B7 := B7_; clear B5_ B6_ B7_; have hc5 := blk_cell B5.out; have hf5 := blk_frozen B5.out; have hc6 := blk_cell B6.out; have hf6 := blk_frozen B6.out; have hc7 := blk_cell B7.out; have hf7 := blk_frozen B7.out; have HB_ := Aside0.mk (below_step HB.out hb); clear HB; have HB := HB_; clear HB_ hb))
    clear hsz hc5 hf5 hc6 hf6 hc7 hf7
    have hle : w.heap.size ≤ W2.heap.size := below_size HB.out
    refine (wpIn_wide (n := 6)).1 ?_
    refine wpIn_rangeFunc_ownH (F := Fence.wide) rfl (by decide) (gf := 88) (lb := #[.pointer (some ⟨W1c.heap.size, 0, none⟩), .pointer (some ⟨W1c.heap.size + 1, 0, none⟩)]) rfl trivial (enters_of Try.func88 (by kernel_rfl) rfl)
     (of_stops Fence.wide 5 trivial rfl (by decide) W1c.heap.size (W1c.heap.size + 1) A0 c0 l0 s.f1 w W2 HR.out HL.out HB.out hBl hBc) kpO_t (kpO_b hle) (Below.refl _ _) (fun _ => rfl)
     (PuI s w W2.heap.size g5 g6 g7) (PuX s w g6 g7)
     (fun q A B row hs hg hr => ⟨hs.1, cells_kept hs.2.1 hg (fun r e => (hr r e).2), cells_kept hs.2.2.1 hg (fun r e => (hr r e).2), cells_kept hs.2.2.2.1 hg (fun r e => (hr r e).2), ownFrom_below (β := Unit) (w₀ := w) (Nat.le_refl _) hle () A B row hs.2.2.2.2.1 hg hr, Nat.le_trans hs.2.2.2.2.2 hg.size⟩)
     (fun c q A B row hs hg hr => by
      obtain ⟨hc, hx, h8, h9, hb⟩ := hs
      exact ⟨hc, hx, cells_kept h8 hg (fun r e => (hr r e).2), cells_kept h9 hg (fun r e => (hr r e).2), ownFrom_below (β := Unit) (w₀ := w) (Nat.le_refl _) hle () A B row hb hg hr⟩)
     ⟨rfl, B5.out, B6.out, B7.out, HB.out, Nat.le_refl _⟩
     (fun x a' W => ∃ Bx, W2.heap.size ≤ Bx ∧ W.heap[Bx]? = some (.cells (arrS x.2) 29 (0, 0)) ∧ a' = { tmps := #[.slice A0 l0.length c0, .int .i64 a1, .agg #[.int .i64 s.f0, .int .i64 s.f1, .int .i64 s.f2, .int .i64 s.f3, .int .i64 s.f4, .int .i64 s.f5, .int .i64 s.f6], undef, undef, .pointer (some ⟨g5, 0, none⟩), .pointer (some ⟨g6, 0, none⟩), .pointer (some ⟨g7, 0, none⟩), .int .i64 0, .int .i64 0, undef, .pointer (some ⟨Bx, 0, none⟩), undef, undef, .slice A0 l0.length c0, .int .i64 a1, .int .i64 0, .int .i64 0, .bool false, undef, .agg #[.int .i64 s.f0, .int .i64 s.f1, .int .i64 s.f2, .int .i64 s.f3, .int .i64 s.f4, .int .i64 s.f5, .int .i64 s.f6], .int .i64 0, .int .i64 0, .bool false, undef, .agg #[.int .i64 s.f0, .int .i64 s.f1, .int .i64 s.f2, .int .i64 s.f3, .int .i64 s.f4, .int .i64 s.f5, .int .i64 s.f6], .int .i64 es, .int .i64 a1, .bool false, .slice A0 l0.length c0, .pointer (some ⟨g5, 1, none⟩), .int .i64 s.f1, .func (.func 88) #[] #[.pointer (some ⟨W1c.heap.size, 0, none⟩), .pointer (some ⟨W1c.heap.size + 1, 0, none⟩)], .int .i64 x.1, .agg (arrS x.2), undef, undef, undef, undef, undef, undef, undef, undef, undef, undef, undef, undef, undef, undef, undef, undef, undef, undef, undef, undef, undef, undef, undef, undef, undef, undef, undef, undef, undef, undef, undef, undef, undef, undef, undef, undef], defers := [] })
     (fun x a' u A B row hs hg hr => by
      obtain ⟨Bx, hBx, hbx, e⟩ := hs
      exact ⟨Bx, hBx, cells_kept hbx hg (fun r e => (hr r e).2), e⟩) ?assign ?body ?done ?stop
    case assign =>
     rintro l pre x W K ⟨hm, h5, h6, h7, hB, hZ⟩ hK
     obtain ⟨i, x⟩ := x
     dsimp only [arrS]
     gi_wp2
     exact hK _ _ ((KeepsOthers.alloc _ _).from _) ⟨(Below.refl _ W).alloc hB.size _, fun cs hb => blk_alloc hb _⟩ ⟨hm, blk_alloc h5 _, blk_alloc h6 _, blk_alloc h7 _, hB.alloc hB.size _, by rw [World.size_alloc]; omega⟩ ⟨W.heap.size, hZ, blk_new _ _, rfl⟩
    case body =>
     rintro l pre x a' W hl ⟨r, hr⟩ ⟨hm, h5, h6, h7, hB, hZ⟩ ⟨Bx, hBx, hbx, rfl⟩ hlt
     obtain ⟨i, x⟩ := x
     dsimp only [arrS] at hbx ⊢
     have hc5 := blk_cell h5
     have hcx := blk_cell hbx
     have hmx : Try.prog.follows .mixedOrders = true := by kernel_rfl
     obtain ⟨ex, hex⟩ : ∃ ex, wrap64 (x.f2 + x.f3) = ex := ⟨_, rfl⟩
     have HEX : Aside0 (staff_end.f x.f0 x.f1 x.f2 x.f3 x.f4 x.f5 x.f6 = some ex) := ⟨by rw [← hex]; rfl⟩
     have HX := Aside0.mk hex
     clear hex
     have hit : hitP s (i, x) = (decide (x.f2 < es) && decide (s.f2 < ex)) := by unfold hitP; rw [← HX.out, ← HES.out]
     have HIT := Aside0.mk hit
     clear hit
     by_cases q1 : x.f2 < es
     ·have d1 : decide (x.f2 < es) = true := decide_eq_true q1
      gi_wp2
      refine wpIn_mono (Q := fun e a' W5 => e = .normal ∧ a' = { tmps := #[.slice A0 l0.length c0, .int .i64 a1, .agg #[.int .i64 s.f0, .int .i64 s.f1, .int .i64 s.f2, .int .i64 s.f3, .int .i64 s.f4, .int .i64 s.f5, .int .i64 s.f6], undef, undef, .pointer (some ⟨g5, 0, none⟩), .pointer (some ⟨g6, 0, none⟩), .pointer (some ⟨g7, 0, none⟩), .int .i64 0, .int .i64 0, undef, .pointer (some ⟨Bx, 0, none⟩), undef, undef, .slice A0 l0.length c0, .int .i64 a1, .int .i64 0, .int .i64 0, .bool false, undef, .agg #[.int .i64 s.f0, .int .i64 s.f1, .int .i64 s.f2, .int .i64 s.f3, .int .i64 s.f4, .int .i64 s.f5, .int .i64 s.f6], .int .i64 0, .int .i64 0, .bool false, undef, .agg #[.int .i64 s.f0, .int .i64 s.f1, .int .i64 s.f2, .int .i64 s.f3, .int .i64 s.f4, .int .i64 s.f5, .int .i64 s.f6], .int .i64 es, .int .i64 a1, .bool false, .slice A0 l0.length c0, .pointer (some ⟨g5, 1, none⟩), .int .i64 s.f1, .func (.func 88) #[] #[.pointer (some ⟨W1c.heap.size, 0, none⟩), .pointer (some ⟨W1c.heap.size + 1, 0, none⟩)], .int .i64 i, .agg #[.int .i64 x.f0, .int .i64 x.f1, .int .i64 x.f2, .int .i64 x.f3, .int .i64 x.f4, .int .i64 x.f5, .int .i64 x.f6], .pointer (some ⟨Bx, 2, none⟩), .int .i64 x.f2, .agg #[.int .i64 s.f0, .int .i64 s.f1, .int .i64 s.f2, .int .i64 s.f3, .int .i64 s.f4, .int .i64 s.f5, .int .i64 s.f6], .int .i64 es, .bool true, .bool true, .pointer (some ⟨g5, 2, none⟩), .int .i64 s.f2, .agg #[.int .i64 x.f0, .int .i64 x.f1, .int .i64 x.f2, .int .i64 x.f3, .int .i64 x.f4, .int .i64 x.f5, .int .i64 x.f6], .int .i64 ex, .bool (decide (s.f2 < ex)), .bool (decide (s.f2 < ex)), undef, undef, undef, undef, undef, undef, undef, undef, undef, undef, undef, undef, undef, undef, undef, undef, undef, undef, undef, undef, undef, undef, undef, undef], defers := [] } ∧ Below W.drew.heap.size W.drew W5) ?_ ?_
      ·(try clear HIT); (try clear HX); (try clear H2); (try clear HL); (try clear HOR); (try clear HES); (try clear HO); (try clear HQ); (try clear B5); (try clear B6); (try clear B7); (try clear HB); (try clear hm); (try clear hB); (try clear hZ); (try clear hr); (try clear hl); (try clear hlt); (try clear h6); (try clear h7); (try clear hle); (try clear HR); (try clear HC); (try clear d3); (try clear hBl); (try clear hBc); (try clear GE6); (try clear GE7); (try clear hne67); (try clear hne76); (try clear h56); (try clear h57); (try clear hg5'); (try clear q1); (try clear hb_)
       gi_region_with_o (first | (refine ⟨trivial, ?_⟩; gi_at_call 54; refine (CallsIn.inRound l (callsIn_wide.2 (staff_end.calls s.f0 s.f1 s.f2 s.f3 s.f4 s.f5 s.f6 _ _ HE.out))).mono ?_; rintro e W5 ⟨rfl, hb⟩; have hc55 := blk_cell (blk_below (blk_drew h5) hb); have hcx5 := blk_cell (blk_below (blk_drew hbx) hb)) | (refine ⟨trivial, ?_⟩; gi_at_call 54; refine (CallsIn.inRound l (callsIn_wide.2 (staff_end.calls x.f0 x.f1 x.f2 x.f3 x.f4 x.f5 x.f6 _ _ HEX.out))).mono ?_; rintro e W6 ⟨rfl, hb6⟩; have hc56 := blk_cell (blk_below (blk_below (blk_drew h5) hb) hb6); have hcx6 := blk_cell (blk_below (blk_below (blk_drew hbx) hb) hb6)))
       all_goals exact ⟨rfl, rfl, below_step hb hb6⟩
      ·rintro e a' W5 ⟨rfl, rfl, hb⟩
       have h55 := blk_below (blk_drew h5) hb
       have h65 := blk_below (blk_drew h6) hb
       have h75 := blk_below (blk_drew h7) hb
       have hB5 : Below w.heap.size w W5 := below_step (below_drew1 hB) hb
       have hZ5 : W2.heap.size ≤ W5.heap.size := Nat.le_trans hZ hb.size
       have hK5 : KeepsFrom W2.heap.size W W5 := keepsFrom_below hb
       have hP5 : KpO w.heap.size (W1c.heap.size + 1) W W5 := kpO_below hB.size hb
       by_cases q2 : s.f2 < ex
       ·have d2 : decide (s.f2 < ex) = true := decide_eq_true q2
        rw [d2]
        have hc6 := blk_cell h65
        have hf6 := blk_frozen h65
        have hc7 := blk_cell h75
        have hf7 := blk_frozen h75
        clear hb
        gi_wp2
        exact ⟨hK5.trans (((KeepsOthers.setCell _ _ _).trans (KeepsOthers.setCell _ _ _)).from _), rfl, by rw [List.find?_append, hm]; simp [HIT.out, d1, d2], blk_far (blk_put h65 0 _ rfl) hne67 _, blk_put (blk_far h75 hne76 _) 0 _ rfl, below_set (below_set hB5 GE6.out) GE7.out⟩
       ·have d2 : decide (s.f2 < ex) = false := decide_eq_false q2
        rw [d2]
        clear hb
        gi_wp2
        exact ⟨hK5, hP5, by rw [List.find?_append, hm]; simp [HIT.out, d1, d2], h55, h65, h75, hB5, hZ5⟩
     ·have d1 : decide (x.f2 < es) = false := decide_eq_false q1
      gi_wp2
      refine wpIn_mono (Q := fun e a' W5 => e = .normal ∧ a' = { tmps := #[.slice A0 l0.length c0, .int .i64 a1, .agg #[.int .i64 s.f0, .int .i64 s.f1, .int .i64 s.f2, .int .i64 s.f3, .int .i64 s.f4, .int .i64 s.f5, .int .i64 s.f6], undef, undef, .pointer (some ⟨g5, 0, none⟩), .pointer (some ⟨g6, 0, none⟩), .pointer (some ⟨g7, 0, none⟩), .int .i64 0, .int .i64 0, undef, .pointer (some ⟨Bx, 0, none⟩), undef, undef, .slice A0 l0.length c0, .int .i64 a1, .int .i64 0, .int .i64 0, .bool false, undef, .agg #[.int .i64 s.f0, .int .i64 s.f1, .int .i64 s.f2, .int .i64 s.f3, .int .i64 s.f4, .int .i64 s.f5, .int .i64 s.f6], .int .i64 0, .int .i64 0, .bool false, undef, .agg #[.int .i64 s.f0, .int .i64 s.f1, .int .i64 s.f2, .int .i64 s.f3, .int .i64 s.f4, .int .i64 s.f5, .int .i64 s.f6], .int .i64 es, .int .i64 a1, .bool false, .slice A0 l0.length c0, .pointer (some ⟨g5, 1, none⟩), .int .i64 s.f1, .func (.func 88) #[] #[.pointer (some ⟨W1c.heap.size, 0, none⟩), .pointer (some ⟨W1c.heap.size + 1, 0, none⟩)], .int .i64 i, .agg #[.int .i64 x.f0, .int .i64 x.f1, .int .i64 x.f2, .int .i64 x.f3, .int .i64 x.f4, .int .i64 x.f5, .int .i64 x.f6], .pointer (some ⟨Bx, 2, none⟩), .int .i64 x.f2, .agg #[.int .i64 s.f0, .int .i64 s.f1, .int .i64 s.f2, .int .i64 s.f3, .int .i64 s.f4, .int .i64 s.f5, .int .i64 s.f6], .int .i64 es, .bool false, .bool false, undef, undef, undef, undef, undef, .bool false, undef, undef, undef, undef, undef, undef, undef, undef, undef, undef, undef, undef, undef, undef, undef, undef, undef, undef, undef, undef, undef, undef, undef, undef], defers := [] } ∧ Below W.drew.heap.size W.drew W5) ?_ ?_
      ·(try clear HIT); (try clear HX); (try clear H2); (try clear HL); (try clear HOR); (try clear HES); (try clear HO); (try clear HQ); (try clear B5); (try clear B6); (try clear B7); (try clear HB); (try clear hm); (try clear hB); (try clear hZ); (try clear hr); (try clear hl); (try clear hlt); (try clear h6); (try clear h7); (try clear hle); (try clear HR); (try clear HC); (try clear d3); (try clear hBl); (try clear hBc); (try clear GE6); (try clear GE7); (try clear hne67); (try clear hne76); (try clear h56); (try clear h57); (try clear hg5'); (try clear q1); (try clear hb_)
       gi_region_with_o (first | (refine ⟨trivial, ?_⟩; gi_at_call 54; refine (CallsIn.inRound l (callsIn_wide.2 (staff_end.calls s.f0 s.f1 s.f2 s.f3 s.f4 s.f5 s.f6 _ _ HE.out))).mono ?_; rintro e W5 ⟨rfl, hb⟩; have hc55 := blk_cell (blk_below (blk_drew h5) hb); have hcx5 := blk_cell (blk_below (blk_drew hbx) hb)) | (refine ⟨trivial, ?_⟩))
       all_goals exact ⟨rfl, rfl, hb⟩
      ·rintro e a' W5 ⟨rfl, rfl, hb⟩
       have h55 := blk_below (blk_drew h5) hb
       have h65 := blk_below (blk_drew h6) hb
       have h75 := blk_below (blk_drew h7) hb
       have hB5 : Below w.heap.size w W5 := below_step (below_drew1 hB) hb
       have hZ5 : W2.heap.size ≤ W5.heap.size := Nat.le_trans hZ hb.size
       have hK5 : KeepsFrom W2.heap.size W W5 := keepsFrom_below hb
       have hP5 : KpO w.heap.size (W1c.heap.size + 1) W W5 := kpO_below hB.size hb
       clear hb
       gi_wp2
       exact ⟨hK5, hP5, by rw [List.find?_append, hm]; simp [HIT.out, d1], h55, h65, h75, hB5, hZ5⟩
    case done =>
     rintro D xs W hD rfl ⟨hm, h5, h6, h7, hB, hZ⟩ hK
     have HK := Aside0.mk hK
     have h2 := H2.out
     rw [hm, if_neg (by decide)] at h2
     have hlen := HL.out
     by_cases h4 : l0.length = 256
     ·rw [if_pos h4] at h2
      obtain ⟨rfl, rfl⟩ := Prod.mk.inj h2
      have d4 : ((l0.length : Int) == 256) = true := by simp; omega
      have hc6 := blk_cell h6
      have hf6 := blk_frozen h6
      have hc7 := blk_cell h7
      have hf7 := blk_frozen h7
      clear h2
      go_wp2
      exact put_leave rfl rfl (blk_far (blk_put h6 0 _ rfl) hne67 _) (blk_put (blk_far h7 hne76 _) 0 _ rfl) (((KeepsOthers.setCell _ _ _).trans (KeepsOthers.setCell _ _ _)).same D _ hK rfl) (Kd.R_nil _ _ _ _ _) (below_set (below_set hB GE6.out) GE7.out) (Nat.le_trans hle hD)
     ·rw [if_neg h4] at h2
      obtain ⟨rfl, rfl⟩ := Prod.mk.inj h2
      have d4 : ((l0.length : Int) == 256) = false := by simp; omega
      have hN := (place_at l0 s HOR.out).1
      have HPL : Aside0 (staff_place.f l0 s.f0 s.f1 s.f2 s.f3 s.f4 s.f5 s.f6 = some (placeN l0 s : Int)) := ⟨by unfold staff_place.f; rw [if_pos ⟨HOR.out, hlen⟩]⟩
      obtain ⟨N, hNe⟩ : ∃ N, placeN l0 s = N := ⟨_, rfl⟩
      rw [hNe] at hN HPL
      have HNE := Aside0.mk hNe
      clear hNe
      have hc5 := blk_cell h5
      clear h2
      go_upto_region 16 with (first | (go_at_call 62; refine (staff_place.calls A0 c0 l0 s.f0 s.f1 s.f2 s.f3 s.f4 s.f5 s.f6 _ _ (Kd.C_below HR.out hB) HC.out HPL.out).mono ?_; rintro e W4 ⟨rfl, hb⟩; have HB4 := Aside0.mk (below_step hB hb); have G5 := Aside0.mk (blk_below h5 hb); have G6 := Aside0.mk (blk_below h6 hb); have G7 := Aside0.mk (blk_below h7 hb); have GK : Aside0 (W4.heap[D]? = some (.deferred (some []))) := ⟨(hb.block D (Array.getElem?_eq_some_iff.1 hK).1).trans hK⟩))
      obtain ⟨nc, hnc⟩ : ∃ nc : Int, wrap64 ((l0.length : Int) + 1) = nc := ⟨_, rfl⟩
      have hncv : nc = (l0.length : Int) + 1 := by rw [← hnc, wrap_in _ (by omega) (by omega)]
      have p0 : 0 ≤ nc := by omega
      have p1 : nc.toNat * 56 ≤ 281474976710656 := by omega
      obtain ⟨i0, hi0, hzz0, hsz0, _⟩ := info_parts info29
      have hcut1 : ∀ W' : World, (Instr.slice 22 (.slice A0 l0.length c0) none (some (.int .i64 (N : Int))) none).run Try.prog W' = .ok (.slice A0 N c0) W' := by
       intro W'
       have := cut_to (P := Try.prog) 22 29 .i64 Try.underlying22 hi0 A0 l0.length c0 (N : Int) (by omega) (by omega) HC.out W'
       rw [Int.toNat_natCast] at this
       exact this
      have hC1 : Kd.C k29 w A0 N (l0.take N) := by
       have := Kd.C_take (m := N) HR.out hN
       rwa [List.length_take, Nat.min_eq_left hN] at this
      obtain ⟨A3, hA3⟩ : ∃ A3, (if c0 = N then A0 else A0.map (·.add (N * 7))) = A3 := ⟨_, rfl⟩
      have hcut2 : ∀ W' : World, (Instr.slice 22 (.slice A0 l0.length c0) (some (.int .i64 (N : Int))) none none).run Try.prog W' = .ok (.slice A3 (l0.length - N) (c0 - N)) W' := by
       intro W'
       have := cut_from (P := Try.prog) 22 29 .i64 Try.underlying22 hi0 7 hsz0 A0 l0.length c0 (N : Int) (by omega) (by omega) W'
       rw [Int.toNat_natCast, hA3] at this
       exact this
      have hC2 : Kd.C k29 w A3 (l0.length - N) (l0.drop N) := by
       have := Kd.C_drop (c := c0) (m := N) HR.out hN HC.out
       rw [List.length_drop] at this
       rw [← hA3]
       exact this
      have l4 : D < W4.heap.size := (Array.getElem?_eq_some_iff.1 GK.out).1
      have l6 : g6 < W4.heap.size := blk_lt G6.out
      have l7 : g7 < W4.heap.size := blk_lt G7.out
      have hle4 : w.heap.size ≤ W4.heap.size := below_size HB4.out
      have hC1' := Aside0.mk hC1
      have hC2' := Aside0.mk hC2
      have hl1 : (l0.take N).length = N := by rw [List.length_take]; omega
      clear hc5 h5 h6 h7 hm hC1 hC2 hK HK hB
      go_wp2_with (first | ((with_reducible refine gate_dst (N := 56) rfl ?_); refine Kd.R_makecap k29 _ 29 rfl (N := 56) rfl 22 _ _ rfl _ rfl rfl Try.underlying22 (.agg #[(.int .i64 0), (.int .i64 0), (.int .i64 0), (.int .i64 0), (.int .i64 0), (.int .i64 0), (.int .i64 0)]) 56 info29 rfl (by decide) (by omega) z29 (ok := fun _ => True) (okp := fun _ => True) (k29_mkM _ _ _ z29) (fun _ hk => hk) trivial (by first | (rw [hnc]; exact p0) | exact p0 | omega) (by first | (rw [hnc]; exact p1) | exact p1 | omega) (Below.refl W4.heap.size W4) (Nat.le_refl _) ?_; intro v1 w5 ho1 hb1 hg1 hnew1; clear hg1 hnew1) | ((with_reducible refine gate_builtin (b := .append) (xs := #[.tmp 57, .tmp 60]) rfl ?_); at_builtin; refine Kd.R_append_rows k29 (w0 := W4) W4.heap.size rfl (.tmp 57) (.tmp 60) 22 29 (.agg #[(.int .i64 0), (.int .i64 0), (.int .i64 0), (.int .i64 0), (.int .i64 0), (.int .i64 0), (.int .i64 0)]) 56 rfl Try.underlying22 info29 rfl (by decide) (by omega) v1 ([] : List S29) (l0.take N) _ _ _ (fun _ => True) (fun _ => False) rfl rfl ho1 (Kd.C_below hC1'.out (below_step HB4.out hb1)) (fun _ _ h => h) (fun _ h => h.elim) (fun _ _ => trivial) hb1 (below_size hb1) (by simp only [List.length_nil]; omega) ?_; intro v2 w6 ho2 hb2 hg2 hat2; rw [List.nil_append] at ho2; have hc52 := blk_cell (blk_below G5.out hb2); clear hg2 hat2) | ((with_reducible refine gate_builtin (b := .append) (xs := #[.tmp 62, .tmp 64]) rfl ?_); at_builtin; refine Kd.R_append k29 (w0 := W4) W4.heap.size rfl (.tmp 62) (.tmp 64) 22 29 (.agg #[(.int .i64 0), (.int .i64 0), (.int .i64 0), (.int .i64 0), (.int .i64 0), (.int .i64 0), (.int .i64 0)]) 56 rfl Try.underlying22 info29 rfl (by decide) (by omega) v2 (l0.take N) s [.int .i64 s.f0, .int .i64 s.f1, .int .i64 s.f2, .int .i64 s.f3, .int .i64 s.f4, .int .i64 s.f5, .int .i64 s.f6] (fun _ => True) (fun _ => False) rfl (by first | (go_simp; done) | (go_simp; rfl)) (k29_mkM _ _ _ s) (fun _ hk => hk.elim) (fun _ _ => trivial) ho2 hb2 (below_size hb2) (by omega) ?_; intro v3 w7 ho3 hb3 hg3 hat3; clear hg3 hat3) | ((with_reducible refine gate_builtin (b := .append) (xs := #[.tmp 66, .tmp 69]) rfl ?_); at_builtin; refine Kd.R_append_rows k29 (w0 := W4) W4.heap.size rfl (.tmp 66) (.tmp 69) 22 29 (.agg #[(.int .i64 0), (.int .i64 0), (.int .i64 0), (.int .i64 0), (.int .i64 0), (.int .i64 0), (.int .i64 0)]) 56 rfl Try.underlying22 info29 rfl (by decide) (by omega) v3 (l0.take N ++ [s]) (l0.drop N) _ _ _ (fun _ => True) (fun _ => False) rfl rfl ho3 (Kd.C_below hC2'.out (below_step HB4.out hb3)) (fun _ _ h => h) (fun _ h => h.elim) (fun _ _ => trivial) hb3 (below_size hb3) (by rw [List.length_append, hl1]; simp only [List.length_cons, List.length_nil]; omega) ?_; intro v4 w8 ho4 hb4 hg4 hat4; obtain ⟨A4, c4, he4⟩ := Kd.R_slice ho4; obtain ⟨m4, hm4⟩ : ∃ m, (l0.take N ++ [s] ++ l0.drop N).length = m := ⟨_, rfl⟩; rw [hm4] at he4; clear hm4; subst he4; have h68 := blk_below G6.out hb4; have h78 := blk_below G7.out hb4; have hc6 := blk_cell h68; have hf6 := blk_frozen h68; have hc7 := blk_cell h78; have hf7 := blk_frozen h78; clear hg4 hat4))
      rw [← HNE.out] at ho4
      have hr4 := Kd.R_mono (ok' := fun k => W4.heap.size ≤ k) (Kd.R_bound ho4) (fun _ hk => hk.2.1)
      have hk8 : w8.heap[D]? = some (.deferred (some [])) := (hb4.block D l4).trans GK.out
      exact put_leave rfl rfl (blk_far (blk_put h68 0 _ rfl) hne67 _) (blk_put (blk_far h78 hne76 _) 0 _ rfl) (((KeepsOthers.setCell _ _ _).trans (KeepsOthers.setCell _ _ _)).same D _ hk8 rfl)
       (Kd.R_mono (Kd.R_lower (Kd.R_far (p := ⟨g7, 0, none⟩) (Kd.R_far (p := ⟨g6, 0, none⟩) hr4 (fun k hk => by show k ≠ g6; omega) _) (fun k hk => by show k ≠ g7; omega) _) hle4) (fun k hk => by omega)) (below_set (below_set (below_step HB4.out hb4) GE6.out) GE7.out) (Nat.le_trans hle hD)
    case stop =>
     rintro D c pre W hD ⟨k, hk, rfl⟩ ⟨rfl, hx, h8, h9, hB⟩ hK
     rw [wpIn_wide]
     go_wp2
     have h2 := H2.out
     obtain ⟨x, hx'⟩ := Option.isSome_iff_exists.mp hx
     have hfull := selP_find l0 s.f1 (hitP s) k l0.length hk x hx'
     rw [hfull, if_pos (show (some x).isSome = true from rfl)] at h2
     obtain ⟨rfl, rfl⟩ := Prod.mk.inj h2
     exact put_leave rfl rfl h8 h9 hK (Kd.R_nil _ _ _ _ _) hB (Nat.le_trans hle hD)
  ·rw [if_pos h2] at H1
   obtain ⟨rfl, rfl⟩ := Prod.mk.inj H1
   have hne0 : (co != 0) = true := bne_iff_ne.mpr h2
   clear H1 h2 hco hes
   go_wp2_with (first | (go_at_call 20; refine (staff_Check.calls A0 c0 l0 a1 _ _ (Kd.C_below HR.out HB.out) HC.out HQ.out).mono ?_; rintro e W1 ⟨rfl, hb⟩; have B5_ := Aside0.mk (blk_below B5.out hb); have B6_ := Aside0.mk (blk_below B6.out hb); have B7_ := Aside0.mk (blk_below B7.out hb); clear B5 B6 B7; have B5 := B5_; have B6 := B6_; have B7 := B7_; clear B5_ B6_ B7_; have hc5 := blk_cell B5.out; have hf5 := blk_frozen B5.out; have hc6 := blk_cell B6.out; have hf6 := blk_frozen B6.out; have hc7 := blk_cell B7.out; have hf7 := blk_frozen B7.out; have HB_ := Aside0.mk (below_step HB.out hb); clear HB; have HB := HB_; clear HB_ hb) | (go_at_call 52; refine (symbol_Check.calls _ s.f0 s.f1 s.f2 s.f3 s.f4 s.f5 s.f6 _ _ HO.out).mono ?_; rintro e W1b ⟨rfl, hb⟩; have B5_ := Aside0.mk (blk_below B5.out hb); have B6_ := Aside0.mk (blk_below B6.out hb); have B7_ := Aside0.mk (blk_below B7.out hb); clear B5 B6 B7; have B5 := B5_; have B6 := B6_; have B7 := B7_; clear B5_ B6_ B7_; have hc5 := blk_cell B5.out; have hf5 := blk_frozen B5.out; have hc6 := blk_cell B6.out; have hf6 := blk_frozen B6.out; have hc7 := blk_cell B7.out; have hf7 := blk_frozen B7.out; have HB_ := Aside0.mk (below_step HB.out hb); clear HB; have HB := HB_; clear HB_ hb))
   exact put_leave0 rfl rfl (blk_far (blk_put B6.out 0 _ rfl) hne67 _) (blk_put (blk_far B7.out hne76 _) 0 _ rfl) (Kd.R_nil _ _ _ _ _) (below_set (below_set HB.out GE6.out) GE7.out)
 ·rw [if_pos h1] at H1
  obtain ⟨rfl, rfl⟩ := Prod.mk.inj H1
  have hne0 : (ce != 0) = true := bne_iff_ne.mpr h1
  clear H H1 hce h1 hco hes
  go_wp2_with (first | (go_at_call 20; refine (staff_Check.calls A0 c0 l0 a1 _ _ (Kd.C_below HR.out HB.out) HC.out HQ.out).mono ?_; rintro e W1 ⟨rfl, hb⟩; have B5_ := Aside0.mk (blk_below B5.out hb); have B6_ := Aside0.mk (blk_below B6.out hb); have B7_ := Aside0.mk (blk_below B7.out hb); clear B5 B6 B7; have B5 := B5_; have B6 := B6_; have B7 := B7_; clear B5_ B6_ B7_; have hc5 := blk_cell B5.out; have hf5 := blk_frozen B5.out; have hc6 := blk_cell B6.out; have hf6 := blk_frozen B6.out; have hc7 := blk_cell B7.out; have hf7 := blk_frozen B7.out; have HB_ := Aside0.mk (below_step HB.out hb); clear HB; have HB := HB_; clear HB_ hb))
  exact put_leave0 rfl rfl (blk_far (blk_put B6.out 0 _ rfl) hne67 _) (blk_put (blk_far B7.out hne76 _) 0 _ rfl) (Kd.R_nil _ _ _ _ _) (below_set (below_set HB.out GE6.out) GE7.out)
end Go.Proofs.Ytdilndbanhianaa.P
end
