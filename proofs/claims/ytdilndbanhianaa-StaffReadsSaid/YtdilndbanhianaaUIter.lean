/- staff.of: the function that it hands back gives the symbols of a column with their indices, in order; no condition. -/
import Derived.RangeFuncNested
import Derived.RangeFuncBound
import Derived.RangeFuncCalls
import Derived.RangeFuncLeaves
import Derived.Shelf.Abstract
import Derived.Shelf.RegionOpen
import Derived.WalkKit
import Derived.OwnWalkIn
import Derived.TacticsInMore
import Derived.LoopNIn
import Derived.LoopIn
import Derived.Test.YtdilndbanhianaaUMB
set_option linter.unusedVariables false
set_option linter.unusedSimpArgs false
namespace Go.Proofs.Ytdilndbanhianaa.P
open Go.RowKit Go.Shelf Go.Proofs.YtdilndbanhianaaW.PrintWords Go.Proofs.YtdilndbanhianaaW.PrintLast Go.Proofs.YtdilndbanhianaaW.PrintMore
attribute [local go_sem] Oper.semAt_some
def arrS (s : S29) : Array Value := #[.int .i64 s.f0, .int .i64 s.f1, .int .i64 s.f2, .int .i64 s.f3, .int .i64 s.f4, .int .i64 s.f5, .int .i64 s.f6]
/-- The first k symbols' share of a column, with their indices. -/
def selP (l : List S29) (col : Int) : Nat → List (Int × S29)
  | 0 => []
  | k + 1 => selP l col k ++ (if h : k < l.length then (if l[k].f1 = col then [((k : Int), l[k])] else []) else [])
theorem selP_len (l : List S29) (col : Int) : ∀ k, (selP l col k).length ≤ k
  | 0 => Nat.le_refl _
  | k + 1 => by
    have := selP_len l col k
    simp only [selP, List.length_append]
    split
    · split <;> simp <;> omega
    · simp; omega
theorem selP_hit (l : List S29) (col : Int) (k : Nat) (h : k < l.length) (hc : l[k].f1 = col) : selP l col (k + 1) = selP l col k ++ [((k : Int), l[k])] := by
  simp only [selP, dif_pos h, if_pos hc]
theorem selP_miss (l : List S29) (col : Int) (k : Nat) (h : k < l.length) (hc : ¬ l[k].f1 = col) : selP l col (k + 1) = selP l col k := by
  simp only [selP, dif_pos h, if_neg hc, List.append_nil]
/-- What is found in the first share is found. -/
theorem selP_find (l : List S29) (col : Int) (f : Int × S29 → Bool) (k : Nat) : ∀ n, k ≤ n → ∀ x, (selP l col k).find? f = some x → (selP l col n).find? f = some x := by
  intro n hn
  induction n with
  | zero => intro x hx; have : k = 0 := by omega
            subst this; exact hx
  | succ n ih =>
    intro x hx
    by_cases e : k = n + 1
    · subst e; exact hx
    · simp only [selP]
      rw [List.find?_append, ih (by omega) x hx]; rfl
/-- What a round that goes on keeps: what lay below n₁, and the variable in Bc. -/
def KpO (n₁ Bc : Nat) (W W' : World) : Prop := Below n₁ W W' ∧ ∀ cs, W.heap[Bc]? = some (.cells cs 3 (0, 0)) → W'.heap[Bc]? = some (.cells cs 3 (0, 0))
theorem cells_kept {W W' : World} {row : Option Nat} {k : Nat} {cs : Array Value} {t : TypeId} (h : W.heap[k]? = some (.cells cs t (0, 0))) (hg : W.grownBy W' row) (hr : ∀ r, row = some r → ∃ o : Obj, W.heap[r]? = some o ∧ o.isCells = false) : W'.heap[k]? = some (.cells cs t (0, 0)) :=
  (hg.block k (blk_lt h) (fun e => by obtain ⟨o, ho, hc⟩ := hr k e.symm; rw [h] at ho; cases ho; cases hc)).trans h
theorem kpO_t {n₁ Bc : Nat} {A B C : World} (h : KpO n₁ Bc A B) (k : KpO n₁ Bc B C) : KpO n₁ Bc A C := ⟨h.1.trans k.1, fun cs hb => k.2 cs (h.2 cs hb)⟩
theorem kpO_b {n₁ Bc : Nat} {w : World} (hn : n₁ ≤ w.heap.size) (W : World) (l : Nat) (o o' : Obj) (hl : w.heap.size ≤ l) (h : W.heap[l]? = some o) (hc : o.isCells = false) (hw : o.isWalk = false) : KpO n₁ Bc W (W.putObj l o') :=
  ⟨belowK_b hn W l o o' hl h hc hw, fun cs hb => cells_kept hb (grownBy_putObj' W l o') (fun r e => by cases e; exact ⟨o, h, hc⟩)⟩
set_option maxRecDepth 100000 in
set_option maxHeartbeats 4000000 in
theorem of1_in (F : Fence) (n : Nat) (hF : F.fn 88) (hro : F.round = none) (hn : 1 ≤ n) (lq Bl Bc : Nat) (A0 : Option Addr) (c0 : Nat) (l : List S29) (col : Int) (w : World) (hr0 : Kd.C k29 w A0 l.length l) (hlen : l.length ≤ 256)
    (W : World) (hwW : Below w.heap.size w W) (hBl : W.heap[Bl]? = some (.cells #[.slice A0 l.length c0] 22 (0, 0))) (hBc : W.heap[Bc]? = some (.cells #[.int .i64 col] 3 (0, 0)))
    (J Jx : List (Int × S29) → World → Prop) (hJ : AbidesFrom W.heap.size J)
    (hY : ∀ pre x W1, J pre W1 → pre.length < l.length → YieldAt F (n - 1) Try.prog lq #[.int .i64 x.1, .agg (arrS x.2)] W1 fun e W' =>
      (e = .returned (.bool true) ∧ J (pre ++ [x]) W' ∧ KpO w.heap.size Bc W1 W') ∨ (e = .returned (.bool false) ∧ Jx (pre ++ [x]) W'))
    (h0 : J [] W) :
    CallsIn F n Try.prog 88 #[.func (.yield lq) #[] #[], .pointer (some ⟨Bl, 0, none⟩), .pointer (some ⟨Bc, 0, none⟩)] W fun e W' => (∃ v, e = .returned v) ∧
      ((∃ ys, ys = selP l col l.length ∧ J ys W') ∨ (∃ pre, (∃ k, k ≤ l.length ∧ pre = selP l col k) ∧ Jx pre W')) := by
  have hu29 := Try.underlying29
  refine callsIn_of_wp Try.func88 rfl hF ?_ hro
  simp only [Try.ntmps88, List.size_toArray, List.length_cons, List.length_nil, Nat.reduceAdd, Nat.reduceSub, Array.replicate_succ, Array.replicate_zero, List.push_toArray, List.append_toArray, List.nil_append, List.cons_append]
  have hcl := (blk_cell hBl 0).trans rfl
  gi_wp2
  gi_loopw [8] (fun i wr => ∃ k : Nat, k ≤ l.length ∧ i = .int .i64 (k : Int) ∧ J (selP l col k) wr ∧ Below w.heap.size w wr ∧ wr.heap[Bc]? = some (.cells #[.int .i64 col] 3 (0, 0)))
    (fun i _ => l.length - (intOf i).toNat)
  case atStart => exact ⟨0, Nat.zero_le _, rfl, h0, hwW, hBc⟩
  case round =>
    obtain ⟨k, hk, rfl, hJs, hnx, hbc⟩ := hrel
    by_cases hlt : k < l.length
    · obtain ⟨ad, e0, hx0, hx1, hx2, hx3, hx4, hx5, hx6⟩ := at_T29 hr0 (k : Int) (by omega) (by omega)
      cases e0
      rw [Int.toNat_natCast] at hx0 hx1 hx2 hx3 hx4 hx5 hx6
      rw [rd29_at hlt] at hx0 hx1 hx2 hx3 hx4 hx5 hx6
      replace hx0 := (hnx.cell (World.block_lt_of_cell? w _ hx0)).trans hx0
      replace hx1 := (hnx.cell (World.block_lt_of_cell? w _ hx1)).trans hx1
      replace hx2 := (hnx.cell (World.block_lt_of_cell? w _ hx2)).trans hx2
      replace hx3 := (hnx.cell (World.block_lt_of_cell? w _ hx3)).trans hx3
      replace hx4 := (hnx.cell (World.block_lt_of_cell? w _ hx4)).trans hx4
      replace hx5 := (hnx.cell (World.block_lt_of_cell? w _ hx5)).trans hx5
      replace hx6 := (hnx.cell (World.block_lt_of_cell? w _ hx6)).trans hx6
      have q0 : (0 ≤ ((k : Nat) : Int)) = True := by simp
      have q1 : (((k : Nat) : Int) < (l.length : Int)) = True := by simp; exact hlt
      have d0 : decide (k < l.length) = true := decide_eq_true hlt
      have hhit := selP_hit l col k hlt
      have hmiss := selP_miss l col k hlt
      generalize l[k]'hlt = x at *
      have hbc1 : (wr.alloc (.cells #[.int .i64 x.f0, .int .i64 x.f1, .int .i64 x.f2, .int .i64 x.f3, .int .i64 x.f4, .int .i64 x.f5, .int .i64 x.f6] 29)).heap[Bc]? = some (.cells #[.int .i64 col] 3 (0, 0)) := blk_alloc hbc _
      have hbc0 : (wr.alloc (.cells #[.int .i64 x.f0, .int .i64 x.f1, .int .i64 x.f2, .int .i64 x.f3, .int .i64 x.f4, .int .i64 x.f5, .int .i64 x.f6] 29)).cell? ⟨Bc, 0, none⟩ = some (.int .i64 col) := (blk_cell hbc1 0).trans rfl
      by_cases hc : x.f1 = col
      · subst hc
        have hJ1 : J (selP l x.f1 k) (wr.alloc (.cells (arrS x) 29)) := hJ _ _ _ none hJs (World.grownBy_alloc wr _ none) (fun r e => by cases e)
        obtain ⟨fn, tmps, assign, body, hy, hR⟩ := hY _ ((k : Int), x) _ hJ1 (Nat.lt_of_le_of_lt (selP_len l x.f1 k) hlt)
        dsimp only [arrS] at hy
        have hsel := hhit rfl
        clear hhit hmiss
        gi_wp2
        refine hR.mono ?_
        rintro e W3 (⟨rfl, hJ3, hk3, hk4⟩ | ⟨rfl, hJx3⟩)
        · gi_wp2
          go_roundw
          case rel => exact ⟨k + 1, by omega, by first | (simp; done) | (simp; rw [wrap_in _ (by omega) (by omega)]), by rw [hsel]; exact hJ3, (hnx.alloc (below_size hnx) _).trans hk3, hk4 _ hbc1⟩
          case measure => simp [intOf]; omega
        · gi_wp2
          refine bodyPost_ret (results_none rfl _ _ _) rfl ?_
          exact ⟨⟨_, rfl⟩, .inr ⟨_, ⟨k + 1, by omega, hsel.symm⟩, hJx3⟩⟩
      · have hceq : (x.f1 == col) = false := by simpa using hc
        have hsel := hmiss hc
        have hJ1 : J (selP l col k) (wr.alloc (.cells #[.int .i64 x.f0, .int .i64 x.f1, .int .i64 x.f2, .int .i64 x.f3, .int .i64 x.f4, .int .i64 x.f5, .int .i64 x.f6] 29)) := hJ _ _ _ none hJs (World.grownBy_alloc wr _ none) (fun r e => by cases e)
        clear hhit hmiss
        gi_wp2
        refine ⟨fun _ h => (by cases h), ?_⟩
        gi_wp2
        go_roundw
        case rel => exact ⟨k + 1, by omega, by first | (simp; done) | (simp; rw [wrap_in _ (by omega) (by omega)]), by rw [hsel]; exact hJ1, hnx.alloc (below_size hnx) _, hbc1⟩
        case measure => simp [intOf]; omega
    · obtain rfl : k = l.length := by omega
      have d0 : decide (l.length < l.length) = false := by simp
      gi_wp2
      go_end0
      exact ⟨⟨_, rfl⟩, .inl ⟨_, rfl, hJs⟩⟩
/-- The function that staff.of hands back, for a range statement. -/
theorem of_stops (F : Fence) (n : Nat) (hF : F.fn 88) (hro : F.round = none) (hn : 1 ≤ n) (Bl Bc : Nat) (A0 : Option Addr) (c0 : Nat) (l : List S29) (col : Int) (w w0 : World) (hr0 : Kd.C k29 w A0 l.length l) (hlen : l.length ≤ 256)
    (hw : Below w.heap.size w w0) (hBl : w0.heap[Bl]? = some (.cells #[.slice A0 l.length c0] 22 (0, 0))) (hBc : w0.heap[Bc]? = some (.cells #[.int .i64 col] 3 (0, 0))) :
    SeqStopsK F n Try.prog 88 #[.pointer (some ⟨Bl, 0, none⟩), .pointer (some ⟨Bc, 0, none⟩)] (fun x : Int × S29 => #[.int .i64 x.1, .agg (arrS x.2)]) (KpO w.heap.size Bc)
      (fun ys => ys = selP l col l.length) (fun pre => ∃ k, k ≤ l.length ∧ pre = selP l col k) l.length w0 := fun lq J Jx W hW hJ hJx hY h0 =>
  of1_in F n hF hro hn lq Bl Bc A0 c0 l col w hr0 hlen W (below_step hw hW) (blk_below hBl hW) (blk_below hBc hW) J Jx hJ hY h0
set_option maxRecDepth 100000 in
set_option maxHeartbeats 1000000 in
theorem of_call (A0 : Option Addr) (c0 n : Nat) (col : Int) (w : World) :
    Calls Try.prog 61 #[.slice A0 n c0, .int .i64 col] w fun e w' => e = .returned (.func (.func 88) #[] #[.pointer (some ⟨w.heap.size, 0, none⟩), .pointer (some ⟨w.heap.size + 1, 0, none⟩)]) ∧
      Below w.heap.size w w' ∧ w'.heap.size = w.heap.size + 2 ∧ w'.heap[w.heap.size]? = some (.cells #[.slice A0 n c0] 22 (0, 0)) ∧ w'.heap[w.heap.size + 1]? = some (.cells #[.int .i64 col] 3 (0, 0)) := by
  have hz : (w.alloc (.cells #[.slice A0 n c0] 22)).heap.size = w.heap.size + 1 := by rw [World.size_alloc]
  have B2 : ((w.alloc (.cells #[.slice A0 n c0] 22)).alloc (.cells #[.int .i64 col] 3)).heap[w.heap.size + 1]? = some (.cells #[.int .i64 col] 3 (0, 0)) := by rw [← hz]; exact blk_new _ _
  go_enter Try.func61, Try.ntmps61
  go_wp2
  go_ret
  exact ⟨rfl, below_alloc (below_alloc (Below.refl _ _) _) _, by rw [World.size_alloc, World.size_alloc], blk_alloc (blk_new _ _) _, B2⟩
/-- What a call that lays memory of its own alone keeps, told of a world that has drawn ahead of it. -/
theorem keepsFrom_below {B : Nat} {W W5 : World} (hb : Below W.drew.heap.size W.drew W5) : KeepsFrom B W W5 := ⟨hb.size, fun k o _ h0 _ => (hb.block k (Array.getElem?_eq_some_iff.1 h0).1).trans h0⟩
theorem kpO_below {n₁ Bc : Nat} {W W5 : World} (hn : n₁ ≤ W.heap.size) (hb : Below W.drew.heap.size W.drew W5) : KpO n₁ Bc W W5 := ⟨((Below.refl n₁ W).drew).trans (hb.mono hn), fun cs h => blk_below (blk_drew h) hb⟩
end Go.Proofs.Ytdilndbanhianaa.P
