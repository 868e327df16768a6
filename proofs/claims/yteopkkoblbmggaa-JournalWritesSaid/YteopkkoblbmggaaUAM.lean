/- Texts of this claim in one: VRange, VFrames, VCloneE, VP12; no condition. -/
import Derived.RangeFuncNested
import Derived.RangeFuncBox
import Derived.RangeFuncCalls
import Derived.Test.YteopkkoblbmggaaUAH
import Derived.Test.YteopkkoblbmggaaUAD
import Derived.Test.YteopkkoblbmggaaUAL
import Derived.RangeFuncBound
import Derived.RangeFuncLeaves
import Derived.Shelf.Abstract
import Derived.Shelf.RegionOpen
import Derived.WalkKit
import Derived.OwnWalkIn
import Derived.TacticsInMore
import Derived.LoopNIn
import Derived.LoopIn
import Derived.Deep.Light
import Derived.WalkSpells
import Derived.Laws.Cover3
section
set_option linter.unusedVariables false
namespace Go.Proofs.Yteopkkoblbmggaa.P
open Go Go.RowKit
/-- What the iterator's call owes: each yield is made where Cx holds. -/
def SeqTold {α : Type} (F : Fence) (n : Nat) (P : Program) (g : Nat) (lb : Array Value) (encs : α → Array Value) (Cx : List α → α → World → Prop) (Kp : World → World → Prop) (S Sp : List α → Prop) (N : Nat) (w : World) : Prop :=
  ∀ (l : Nat) (J Jx : List α → World → Prop) (W : World), Below w.heap.size w W → AbidesFrom W.heap.size J → AbidesFrom W.heap.size Jx →
    (∀ pre x W1, J pre W1 → Cx pre x W1 → pre.length < N → YieldAt F (n - 1) P l (encs x) W1 fun e W' =>
      (e = .returned (.bool true) ∧ J (pre ++ [x]) W' ∧ Kp W1 W') ∨ (e = .returned (.bool false) ∧ Jx (pre ++ [x]) W')) →
    J [] W →
    CallsIn F n P g (#[.func (.yield l) #[] #[]] ++ lb) W fun e W' => (∃ v, e = .returned v) ∧ ((∃ xs, S xs ∧ J xs W') ∨ (∃ pre, Sp pre ∧ Jx pre W'))
variable {F : Fence} {n : Nat} {P : Program} {w : World}
theorem rangeFunc_told {α : Type} {g : Operand} {ps : Array Tmp} {assign body : Code} {Q : Exit → Act → World → Prop} {a : Act} {w : World}
    (hro : F.round = none) (h1 : 1 ≤ n) {gf : Nat} {lb : Array Value} (hg : a.eval g = .func (.func gf) #[] lb) (hFg : F.fn gf) (eg : ∀ args w, (callFunc gf args).run P w = .ok (.enter gf args) w)
    {encs : α → Array Value} {Kp : World → World → Prop} {S Sp : List α → Prop} {N : Nat} {w0 : World} {Cx : List α → α → World → Prop} (hseq : SeqTold F (n - 1) P gf lb encs Cx Kp S Sp N w0)
    (hKt : ∀ {A B C : World}, Kp A B → Kp B C → Kp A C) (hKb : ∀ (W : World) (l : Nat) (o o' : Obj), w.heap.size ≤ l → W.heap[l]? = some o → o.isCells = false → o.isWalk = false → Kp W (W.putObj l o')) (hb0 : Below w0.heap.size w0 w) (hps : ∀ x, (encs x).size = ps.size)
    (I : List α → World → Prop) (Ix : Code → List α → World → Prop) (hI : OwnFrom w.heap.size I) (hIx : ∀ c, OwnFrom w.heap.size (Ix c)) (h0 : I [] w) (Ax : List α → α → Act → World → Prop) (hAx : ∀ pre x a', OwnFrom w.heap.size (fun (_ : Unit) W => Ax pre x a' W))
    (hassign : ∀ (l : Nat) (pre : List α) (x : α) (W : World) (K : Act → World → Prop), I pre W → Cx pre x W → (∀ a' W', KeepsFrom w.heap.size W W' → Kp W W' → I pre W' → Ax pre x a' W' → K a' W') →
      assign.wpIn (F.inRound l) (n - 1 - 1) P (Exit.then K (fun _ _ _ => False)) { tmps := (ps.zip (encs x)).foldl (fun t (p, v) => t.setIfInBounds p v) a.tmps, defers := [] } W)
    (hbody : ∀ (l : Nat) (pre : List α) (x : α) (a' : Act) (W : World), w.heap.size ≤ l → (∃ r, W.heap[l]? = some (.loop r)) → I pre W → Ax pre x a' W → pre.length < N → body.wpIn (F.inRound l) (n - 1 - 1) P (ownPostG w.heap.size Kp I Ix (pre ++ [x]) W) a' W)
    (hdone : ∀ (D : Nat) (xs : List α) (W : World), w.heap.size ≤ D → S xs → I xs W → W.heap[D]? = some (.deferred (some [])) → Q .normal { a with defers := { target := .collected D, args := #[] } :: a.defers } W)
    (hstop : ∀ (D : Nat) (c : Code) (pre : List α) (W : World), w.heap.size ≤ D → Sp pre → Ix c pre W → W.heap[D]? = some (.deferred (some [])) → c.wpIn F n P Q { a with defers := { target := .collected D, args := #[] } :: a.defers } W) :
    (Code.rangeFunc g ps assign body).wpIn F n P Q a w := by
  refine wpIn_rangeFunc ?_
  intro fn hfn
  rw [hro]
  obtain ⟨rec, hrec⟩ : ∃ rec : LoopState → Option Code → Loop, rec = fun st pe => { state := st, pending := pe, fn, tmps := a.tmps, params := ps, assign, body, defers := w.heap.size } := ⟨_, rfl⟩
  obtain ⟨W1, hW1⟩ : ∃ W1, (w.alloc (.deferred (some []))).alloc (.loop (rec .ready none)) = W1 := ⟨_, rfl⟩
  have hL1 : W1.heap[w.heap.size + 1]? = some (.loop (rec .ready none)) := by
    rw [← hW1]; have := World.alloc_heap_new (w.alloc (.deferred (some []))) (.loop (rec .ready none)); rwa [World.size_alloc] at this
  have hK1 : W1.heap[w.heap.size]? = some (.deferred (some [])) := by
    rw [← hW1]; exact (Below.heap_alloc _ _ _ (by simp)).trans (World.alloc_heap_new w _)
  have hI1 : I [] W1 := by rw [← hW1]; exact hI.alloc _ (hI.alloc _ h0)
  have hb1 : Below w0.heap.size w0 W1 := by
    rw [← hW1]; exact hb0.trans ((((Below.refl _ w).alloc (Nat.le_refl _) _).alloc (by simp) _).mono hb0.size)
  refine ⟨w.heap.size + 1, [{ target := .collected w.heap.size, args := #[] }], W1, { target := .fn (.func gf) lb, args := #[.func (.yield (w.heap.size + 1)) #[] #[]] }, W1, gf,
    #[.func (.yield (w.heap.size + 1)) #[] #[]] ++ lb, W1, ?_, ?_, ?_, ?_, fun _ => h1, ?_⟩
  · rw [← hW1, hrec]; exact run_enterLoop_outer _ _ _ _ _
  · simp only [resolve, hg]
    simp [go_sem]
  · intro f' hf'; simp [Target.leads] at hf'; subst hf'; exact hFg
  · simp [invoke, go_sem, eg]
  ·
    have hnw : ∀ {A B : World} {row : Option Nat}, (∀ r, row = some r → W1.heap.size ≤ r ∧ ∃ o : Obj, A.heap[r]? = some o ∧ o.isWalk = true) → (∀ r, row = some r → w.heap.size ≤ r ∧ ∃ o : Obj, A.heap[r]? = some o ∧ o.isCells = false) :=
      fun hr r e => by obtain ⟨hB, o, ho, hw⟩ := hr r e; exact ⟨by rw [← hW1] at hB; simp at hB; omega, o, ho, Obj.not_cells_of_walk hw⟩
    refine (hseq (w.heap.size + 1)
      (fun pre W => I pre W ∧ W.heap[w.heap.size + 1]? = some (.loop (rec .ready none)) ∧ W.heap[w.heap.size]? = some (.deferred (some [])))
      (fun pre W => ∃ c, Ix c pre W ∧ W.heap[w.heap.size + 1]? = some (.loop (rec .done (some c))) ∧ W.heap[w.heap.size]? = some (.deferred (some [])))
      W1 hb1
      (fun s A B row hs hg' hr => ⟨hI s A B row hs.1 hg' (hnw (B := B) hr), (grownBy_keeps hg' (fun r e => (hr r e).2) hs.2.1 rfl).trans hs.2.1, (grownBy_keeps hg' (fun r e => (hr r e).2) hs.2.2 rfl).trans hs.2.2⟩)
      (fun s A B row hs hg' hr => by
        obtain ⟨c, hc, hl, hk⟩ := hs
        exact ⟨c, hIx c s A B row hc hg' (hnw (B := B) hr), (grownBy_keeps hg' (fun r e => (hr r e).2) hl rfl).trans hl, (grownBy_keeps hg' (fun r e => (hr r e).2) hk rfl).trans hk⟩)
      ?_ ⟨hI1, hL1, hK1⟩).mono ?_
    ·
      rintro pre x W ⟨hi, hl, hk⟩ hcx hlen
      have hlt : w.heap.size + 1 < W.heap.size := (Array.getElem?_eq_some_iff.1 hl).1
      have hy := run_yield (P := P) (args := encs x) hl (by rw [hrec]; exact hps x)
      rw [hrec] at hy
      refine ⟨fn, _, assign, body, hy, roundIn_of_wpIn hfn (hassign _ pre x W _ hi hcx ?_)⟩
      clear hy hcx
      intro a' Wa hkfa hkpa hia hax
      replace hl := hkfa.same _ _ (by omega) hl rfl
      replace hk := hkfa.same _ _ (Nat.le_refl _) hk rfl
      replace hlt : w.heap.size + 1 < Wa.heap.size := (Array.getElem?_eq_some_iff.1 hl).1
      replace hi := hia
      clear hia
      revert hkpa hkfa
      generalize W = Wb
      intro hkfa hkpa
      obtain ⟨W, rfl⟩ : ∃ W, W = Wa := ⟨_, rfl⟩
      refine ⟨_, run_beginRound hl (by rw [hrec]), ?_⟩
      have hl2 : (W.putObj (w.heap.size + 1) (.loop { rec .ready none with state := .busy })).heap[w.heap.size + 1]? = some (.loop { rec .ready none with state := .busy }) := World.putObj_heap_same hlt
      have hk2 : (W.putObj (w.heap.size + 1) (.loop { rec .ready none with state := .busy })).heap[w.heap.size]? = some (.deferred (some [])) := (World.putObj_heap_other (by omega)).trans hk
      have hw2 : Kp W (W.putObj (w.heap.size + 1) (.loop { rec .ready none with state := .busy })) := hKb _ _ _ _ (by omega) hl rfl rfl
      refine wpIn_mono (hbody _ pre x a' _ (by omega) ⟨_, hl2⟩ (hI.putObj _ hi (by omega) hl rfl) ((hAx pre x a').putObj (s := ()) _ hax (by omega) hl rfl) hlen) ?_
      have fin : ∀ (jump : Option Code) (W3 : World), KeepsFrom w.heap.size (W.putObj (w.heap.size + 1) (.loop { rec .ready none with state := .busy })) W3 →
          (Instr.endRound (w.heap.size + 1) jump).run P W3 = .ok (.bool jump.isNone) (W3.putObj (w.heap.size + 1) (.loop (rec (if jump.isNone then .ready else .done) jump))) ∧
          W3.heap[w.heap.size + 1]? = some (.loop { rec .ready none with state := .busy }) ∧
          (W3.putObj (w.heap.size + 1) (.loop (rec (if jump.isNone then .ready else .done) jump))).heap[w.heap.size + 1]? = some (.loop (rec (if jump.isNone then .ready else .done) jump)) ∧
          (W3.putObj (w.heap.size + 1) (.loop (rec (if jump.isNone then .ready else .done) jump))).heap[w.heap.size]? = some (.deferred (some [])) := fun jump W3 hk3 => by
        have hl3 := hk3.same _ _ (by omega) hl2 rfl
        have := run_endRound (P := P) jump hl3
        rw [hrec] at this ⊢
        exact ⟨this, by rw [hrec] at hl3; exact hl3, World.putObj_heap_same (Array.getElem?_eq_some_iff.1 hl3).1, (World.putObj_heap_other (by omega)).trans (hk3.same _ _ (Nat.le_refl _) hk2 rfl)⟩
      rintro e a3 W3 hp
      cases e with
      | normal =>
        obtain ⟨hk3, hkp3, hi3⟩ := hp
        obtain ⟨hr, hl3, hl4, hk4⟩ := fin none W3 hk3
        exact ⟨_, _, hr, .inl ⟨rfl, ⟨hI.putObj _ hi3 (by omega) hl3 rfl, hl4, hk4⟩, hKt hkpa (hKt (hKt hw2 hkp3) (hKb _ _ _ _ (by omega) hl3 rfl rfl))⟩⟩
      | ret =>
        obtain ⟨hk3, hi3⟩ := hp
        obtain ⟨hr, hl3, hl4, hk4⟩ := fin (some .ret) W3 hk3
        exact ⟨_, _, hr, .inr ⟨rfl, .ret, (hIx _).putObj _ hi3 (by omega) hl3 rfl, hl4, hk4⟩⟩
      | exit id =>
        obtain ⟨hk3, hi3⟩ := hp
        obtain ⟨hr, hl3, hl4, hk4⟩ := fin (some (.exit id)) W3 hk3
        exact ⟨_, _, hr, .inr ⟨rfl, .exit id, (hIx _).putObj _ hi3 (by omega) hl3 rfl, hl4, hk4⟩⟩
      | goto t =>
        obtain ⟨hk3, hi3⟩ := hp
        obtain ⟨hr, hl3, hl4, hk4⟩ := fin (some (.goto t)) W3 hk3
        exact ⟨_, _, hr, .inr ⟨rfl, .goto t, (hIx _).putObj _ hi3 (by omega) hl3 rfl, hl4, hk4⟩⟩
      | panic ch => exact hp.elim
      | outgrown => exact hp.elim
    ·
      rintro e W2 ⟨⟨v, rfl⟩, (⟨xs, hS, hi, hl, hk⟩ | ⟨pre, hSp, c, hi, hl, hk⟩)⟩
      · exact ⟨none, _, by have := run_endLoop (P := P) hl (by rw [hrec]; simp); rw [hrec] at this; exact this, hdone _ xs _ (Nat.le_refl _) hS (hI.putObj _ hi (by omega) hl rfl) ((World.putObj_heap_other (by omega)).trans hk)⟩
      · exact ⟨some c, _, by have := run_endLoop (P := P) hl (by rw [hrec]; simp); rw [hrec] at this; exact this, hstop _ c pre _ (Nat.le_refl _) hSp ((hIx c).putObj _ hi (by omega) hl rfl) ((World.putObj_heap_other (by omega)).trans hk)⟩
end Go.Proofs.Yteopkkoblbmggaa.P
end
section
set_option linter.unusedVariables false
set_option linter.unusedSimpArgs false
namespace Go.Proofs.Yteopkkoblbmggaa.P
open Go.RowKit Go.Shelf Go.Proofs.YteopkkoblbmggaaW.PrintWords Go.Proofs.YteopkkoblbmggaaW.PrintLast Go.Proofs.YteopkkoblbmggaaW.PrintMore
attribute [local go_sem] Oper.semAt_some
/-- The opening of a frame is defined here, and what it takes lies within the bytes. -/
def openOK (k : Nat) (l : List Int) : Bool := match crc_Open.f k l with
  | some (_, n, e) => if e = 0 then decide (0 < n ∧ n ≤ (l.length : Int)) else true
  | none => false
theorem openOK_some {k : Nat} {l : List Int} (h : openOK k l = true) : ∃ c n e, crc_Open.f k l = some (c, n, e) ∧ (e = 0 → 0 < n ∧ n ≤ (l.length : Int)) := by
  unfold openOK at h
  split at h
  · rename_i c n e heq
    refine ⟨c, n, e, heq, fun he => ?_⟩
    rw [if_pos he] at h
    exact of_decide_eq_true h
  · cases h
/-- What is yielded: the slice's address and capacity, the contents, and where the frame ends. -/
abbrev FX := (Option Addr × Nat) × (List Int × Int)
def encF (x : FX) : Array Value := #[.slice x.1.1 x.2.1.length x.1.2, .int .i64 x.2.2]
def endF : Int → List FX → Int
  | at_, [] => at_
  | _, x :: t => endF x.2.2 t
def goodF (k : Nat) (b : List Int) : Int → List FX → Prop
  | at_, [] => True
  | at_, x :: t => (∃ n, crc_Open.f k (b.drop at_.toNat) = some (x.2.1, n, 0) ∧ x.2.2 = at_ + n) ∧ goodF k b x.2.2 t
theorem endF_snoc (at_ : Int) (pre : List FX) (x : FX) : endF at_ (pre ++ [x]) = x.2.2 := by
  induction pre generalizing at_ with
  | nil => rfl
  | cons y t ih => exact ih _
theorem goodF_snoc {k : Nat} {b : List Int} {at_ : Int} {pre : List FX} {x : FX} (h : goodF k b at_ pre) (hx : ∃ n, crc_Open.f k (b.drop (endF at_ pre).toNat) = some (x.2.1, n, 0) ∧ x.2.2 = endF at_ pre + n) : goodF k b at_ (pre ++ [x]) := by
  induction pre generalizing at_ with
  | nil => exact ⟨hx, trivial⟩
  | cons y t ih => exact ⟨h.1, ih h.2 hx⟩
theorem goodF_last {k : Nat} {b : List Int} {at_ : Int} {pre : List FX} {x : FX} (h : goodF k b at_ (pre ++ [x])) : ∃ n, crc_Open.f k (b.drop (endF at_ pre).toNat) = some (x.2.1, n, 0) ∧ x.2.2 = endF at_ pre + n := by
  induction pre generalizing at_ with
  | nil => exact h.1
  | cons y t ih => exact ih h.2
/-- What is known of a frame where it is yielded. -/
def CxF (k : Nat) (b : List Int) (pre : List FX) (x : FX) (W : World) : Prop := goodF k b 0 (pre ++ [x]) ∧ Kd.C (Kd.int .u8) W x.1.1 x.2.1.length x.2.1 ∧ x.2.1.length ≤ x.1.2
/-- The frames are at an end. -/
def SF (k : Nat) (b : List Int) (xs : List FX) : Prop := goodF k b 0 xs ∧ ∃ c n e, crc_Open.f k (b.drop (endF 0 xs).toNat) = some (c, n, e) ∧ e ≠ 0
/-- What a round that goes on keeps: what lay below n₁, and the variable in Bc. -/
def KpT (n₁ Bc t : Nat) (W W' : World) : Prop := Below n₁ W W' ∧ ∀ cs, W.heap[Bc]? = some (.cells cs t (0, 0)) → W'.heap[Bc]? = some (.cells cs t (0, 0))
theorem cells_kept {W W' : World} {row : Option Nat} {k : Nat} {cs : Array Value} {t : TypeId} (h : W.heap[k]? = some (.cells cs t (0, 0))) (hg : W.grownBy W' row) (hr : ∀ r, row = some r → ∃ o : Obj, W.heap[r]? = some o ∧ o.isCells = false) : W'.heap[k]? = some (.cells cs t (0, 0)) :=
  (hg.block k (blk_lt h) (fun e => by obtain ⟨o, ho, hc⟩ := hr k e.symm; rw [h] at ho; cases ho; cases hc)).trans h
theorem kpT_t {n₁ Bc t : Nat} {A B C : World} (h : KpT n₁ Bc t A B) (k : KpT n₁ Bc t B C) : KpT n₁ Bc t A C := ⟨h.1.trans k.1, fun cs hb => k.2 cs (h.2 cs hb)⟩
theorem belowK_b {n₁ : Nat} {w : World} (hn : n₁ ≤ w.heap.size) (W : World) (l : Nat) (o o' : Obj) (hl : w.heap.size ≤ l) (h : W.heap[l]? = some o) (hc : o.isCells = false) (hw : o.isWalk = false) : Below n₁ W (W.putObj l o') :=
  (Below.refl n₁ W).grown (grownBy_putObj' W l o') (Nat.le_trans hn (by have := (Array.getElem?_eq_some_iff.1 h).1; omega)) (fun k e => by cases e; omega)
theorem kpT_b {n₁ Bc t : Nat} {w : World} (hn : n₁ ≤ w.heap.size) (W : World) (l : Nat) (o o' : Obj) (hl : w.heap.size ≤ l) (h : W.heap[l]? = some o) (hc : o.isCells = false) (hw : o.isWalk = false) : KpT n₁ Bc t W (W.putObj l o') :=
  ⟨belowK_b hn W l o o' hl h hc hw, fun cs hb => cells_kept hb (grownBy_putObj' W l o') (fun r e => by cases e; exact ⟨o, h, hc⟩)⟩
theorem abides_below {β : Type} {B : Nat} {J : β → World → Prop} (hJ : AbidesFrom B J) {s : β} {W W' : World} (h : J s W) (hb : Below W.heap.size W W') : J s W' :=
  hJ s W W' none h ⟨hb.os, hb.tape, hb.output, hb.size, fun k hk _ => hb.block k hk⟩ (fun r e => by cases e)
set_option maxRecDepth 100000 in
set_option maxHeartbeats 8000000 in
theorem frames1_in (n : Nat) (hn : 1 ≤ n) (k lq Bl : Nat) (A0 : Option Addr) (c0 : Nat) (b : List Int) (w : World) (hr0 : Kd.C (Kd.int .u8) w A0 b.length b) (hc0 : b.length ≤ c0) (hlen : b.length ≤ 1000000) (hok : ∀ i, i ≤ b.length → openOK k (b.drop i) = true)
    (W : World) (hwW : Below w.heap.size w W) (hBl : W.heap[Bl]? = some (.cells #[.slice A0 b.length c0] 60 (0, 0)))
    (J Jx : List FX → World → Prop) (hJ : AbidesFrom W.heap.size J)
    (hY : ∀ pre x W1, J pre W1 → CxF k b pre x W1 → pre.length < b.length + 1 → YieldAt Fence.wide (n - 1) Try.prog lq (encF x) W1 fun e W' =>
      (e = .returned (.bool true) ∧ J (pre ++ [x]) W' ∧ KpT w.heap.size Bl 60 W1 W') ∨ (e = .returned (.bool false) ∧ Jx (pre ++ [x]) W'))
    (h0 : J [] W) :
    CallsIn Fence.wide n Try.prog 115 #[.func (.yield lq) #[] #[], .pointer (some ⟨Bl, 0, none⟩)] W fun e W' => (∃ v, e = .returned v) ∧
      ((∃ xs, SF k b xs ∧ J xs W') ∨ (∃ pre, True ∧ Jx pre W')) := by
  refine callsIn_of_wp Try.func115 rfl trivial ?_ rfl
  simp only [Try.ntmps115, List.size_toArray, List.length_cons, List.length_nil, Nat.reduceAdd, Nat.reduceSub, Array.replicate_succ, Array.replicate_zero, List.push_toArray, List.append_toArray, List.nil_append, List.cons_append]
  have HJA := Aside0.mk hJ
  have HY := Aside0.mk hY
  have HR := Aside0.mk hr0
  have HC := Aside0.mk hc0
  have HL := Aside0.mk hlen
  have HOK := Aside0.mk hok
  have HJ0 := Aside0.mk h0
  have HBL0 := Aside0.mk hBl
  have HW0 := Aside0.mk hwW
  have HWW := Aside0.mk (Below.refl W.heap.size W)
  clear hJ hY hr0 hc0 hlen hok h0 hBl hwW
  gi_wp2
  gi_loopw [3] (fun v wr => ∃ (xs : List FX) (e : Nat), v = .int .i64 (e : Int) ∧ Aside0 (endF 0 xs = (e : Int)) ∧ Aside0 (e ≤ b.length) ∧ Aside0 (xs.length ≤ e) ∧ Aside0 (goodF k b 0 xs) ∧ Aside0 (J xs wr) ∧ Aside0 (Below w.heap.size w wr) ∧ Aside0 (wr.heap[Bl]? = some (.cells #[.slice A0 b.length c0] 60 (0, 0))))
    (fun v _ => b.length - (intOf v).toNat)
  case atStart => exact ⟨[], 0, rfl, ⟨rfl⟩, ⟨Nat.zero_le _⟩, ⟨Nat.le_refl _⟩, ⟨trivial⟩, HJ0, HW0, HBL0⟩
  case round =>
    obtain ⟨xs, e, rfl, HE, HLE, HXL, HG, HJ, HB, HBL⟩ := hrel
    clear HBL0 HW0
    obtain ⟨ct, fn, fe, ho, hn0⟩ := openOK_some (HOK.out e HLE.out)
    have h0 : (0 : Int) ≤ (e : Int) := by omega
    have h1 : (e : Int) ≤ (b.length : Int) := by have := HLE.out; omega
    obtain ⟨i0, hi0, _, hsz, _⟩ := info_parts info5
    obtain ⟨Ac, hcut, hA, hCc⟩ := print_drop_of (P := Try.prog) (Value.int .u8) 0 60 5 .i64 Try.underlying60 hi0 hsz A0 c0 b (e : Int) h0 h1 HC.out
    have HRc := Aside0.mk (Kd.C_of_reads (h1 := fun _ => rfl) (hA _ (Kd.reads_of_C HR.out)))
    have HCc := Aside0.mk hCc
    have HO : Aside0 (crc_Open.f k (b.drop (e : Int).toNat) = some (ct, fn, fe)) := ⟨by rw [Int.toNat_natCast]; exact ho⟩
    have HN := Aside0.mk hn0
    have hcall := crc_Open.calls k Ac (c0 - (e : Int).toNat) (b.drop (e : Int).toNat) ct fn fe wr (Kd.C_below HRc.out HB.out) HCc.out HO.out
    simp only [List.length_drop, Int.toNat_natCast] at hcall
    have HCALL := Aside0.mk hcall
    clear hA hCc hi0 hsz ho hn0 hcall
    have hbl := blk_cell HBL.out
    by_cases hz : fe = 0
    · subst hz
      obtain ⟨hf0, hf1⟩ := HN.out rfl
      rw [List.length_drop] at hf1
      obtain ⟨m, rfl⟩ : ∃ m : Nat, fn = (m : Int) := ⟨fn.toNat, by omega⟩
      have hm0 : 0 < m := by omega
      have hm1 : e + m ≤ b.length := by have := HLE.out; omega
      have hsm : (e : Int) + (m : Int) ≤ 1000000 := by have := HL.out; omega
      have hs0 : (0 : Int) ≤ (e : Int) + (m : Int) := by omega
      have HM0 := Aside0.mk hm0
      have HM1 := Aside0.mk hm1
      clear hf0 hf1 hm0 hm1 HN
      gi_wp2_with (fail)
      refine ⟨trivial, (callsIn_wide.2 HCALL.out).mono ?_⟩
      rintro e1 W1 ⟨v, rfl, hown, hb⟩
      obtain ⟨A1, c1, rfl⟩ := Kd.R_slice hown; have HO1 := Aside0.mk hown; have HB1 := Aside0.mk (below_step HB.out hb); have HJ1 := Aside0.mk (abides_below HJA.out HJ.out hb); have HBL1 := Aside0.mk (blk_below HBL.out hb); have HCX : Aside0 (CxF k b xs ((A1, c1), (ct, (e : Int) + (m : Int))) W1) := ⟨goodF_snoc HG.out ⟨m, by rw [HE.out]; exact HO.out, by rw [HE.out]⟩, (Kd.R_reads' hown).2.2, (Kd.R_reads' hown).2.1⟩; obtain ⟨yfn, ytmps, yassign, ybody, hy, hR⟩ := HY.out xs ((A1, c1), (ct, (e : Int) + (m : Int))) W1 HJ1.out HCX.out (by have := HXL.out; have := HLE.out; omega); dsimp only [encF] at hy; clear hown hb
      gi_wp2
      refine hR.mono ?_
      rintro e W3 (⟨rfl, hJ3, hk3, hk4⟩ | ⟨rfl, hJx3⟩)
      · gi_wp2
        go_roundw
        case rel => exact ⟨xs ++ [(((A1, c1), (ct, (e : Int) + (m : Int))) : FX)], e + m, by first | rfl | (simp; done) | go_num, ⟨by rw [endF_snoc]; simp⟩, HM1, ⟨by have := HXL.out; have := HM0.out; simp; omega⟩, ⟨HCX.out.1⟩, ⟨hJ3⟩, ⟨HB1.out.trans hk3⟩, ⟨hk4 _ HBL1.out⟩⟩
        case measure => have := HM0.out; have := HM1.out; simp [intOf]; omega
      · gi_wp2
        refine bodyPost_ret (results_none rfl _ _ _) rfl ?_
        exact ⟨⟨_, rfl⟩, .inr ⟨_, trivial, hJx3⟩⟩
    · have hz2 : (fe != 0) = true := by simp; exact hz
      have HZ := Aside0.mk hz
      clear hz HN
      gi_wp2_with (fail)
      refine ⟨trivial, (callsIn_wide.2 HCALL.out).mono ?_⟩
      rintro e1 W1 ⟨v, rfl, hown, hb⟩
      obtain ⟨A1, c1, rfl⟩ := Kd.R_slice hown
      have HJ1 := Aside0.mk (abides_below HJA.out HJ.out hb)
      clear hown hb
      gi_wp2
      refine bodyPost_ret (results_none rfl _ _ _) rfl ?_
      exact ⟨⟨_, rfl⟩, .inl ⟨xs, ⟨HG.out, _, _, _, by rw [HE.out]; exact HO.out, HZ.out⟩, HJ1.out⟩⟩
/-- The function that journal.frames hands back, for a range statement. -/
theorem frames_told (n : Nat) (hn : 1 ≤ n) (k Bl : Nat) (A0 : Option Addr) (c0 : Nat) (b : List Int) (w w0 : World) (hr0 : Kd.C (Kd.int .u8) w A0 b.length b) (hc0 : b.length ≤ c0) (hlen : b.length ≤ 1000000) (hok : ∀ i, i ≤ b.length → openOK k (b.drop i) = true)
    (hw : Below w.heap.size w w0) (hBl : w0.heap[Bl]? = some (.cells #[.slice A0 b.length c0] 60 (0, 0))) :
    SeqTold Fence.wide n Try.prog 115 #[.pointer (some ⟨Bl, 0, none⟩)] encF (CxF k b) (KpT w.heap.size Bl 60) (SF k b) (fun _ => True) (b.length + 1) w0 := fun lq J Jx W hW hJ hJx hY h0 =>
  frames1_in n hn k lq Bl A0 c0 b w hr0 hc0 hlen hok W (below_step hw hW) (blk_below hBl hW) J Jx hJ hY h0
set_option maxRecDepth 100000 in
set_option maxHeartbeats 1000000 in
theorem frames_call (A0 : Option Addr) (c0 n : Nat) (w : World) :
    Calls Try.prog 86 #[.slice A0 n c0] w fun e w' => e = .returned (.func (.func 115) #[] #[.pointer (some ⟨w.heap.size, 0, none⟩)]) ∧
      Below w.heap.size w w' ∧ w'.heap.size = w.heap.size + 1 ∧ w'.heap[w.heap.size]? = some (.cells #[.slice A0 n c0] 60 (0, 0)) := by
  go_enter Try.func86, Try.ntmps86
  go_wp2
  go_ret
  exact ⟨rfl, below_alloc (Below.refl _ _) _, by rw [World.size_alloc], blk_new _ _⟩
end Go.Proofs.Yteopkkoblbmggaa.P
end
section
set_option linter.unusedVariables false
set_option linter.unusedSimpArgs false
namespace Go.Proofs.Yteopkkoblbmggaa.P
open Go.RowKit Go.Proofs.YteopkkoblbmggaaW.PrintWords Go.Proofs.YteopkkoblbmggaaW.PrintLast Go.Proofs.YteopkkoblbmggaaW.PrintMore
theorem eqlNilE (w : World) (t e : TypeId) (a : Option Addr) (l c : Nat) (h : Try.prog.underlying t = some (.slice e)) : (binOp .eql t (.slice a l c) (.slice none 0 0)).run Try.prog w = .ok (.bool a.isNone) w := by
  simp only [binOp]
  simp [run_equal_slice_nil w t e a l c h]
def slices_Clone_edits.f (l0 : List S30) : Option (List S30) := if l0.length ≤ 1000000000000 then some l0 else none
set_option maxHeartbeats 4000000 in
set_option maxRecDepth 100000 in
theorem slices_Clone_edits.calls (A0 : Option Addr) (c0 : Nat) (l0 r : List S30) (w : World) (hr0 : Kd.C k30 w A0 l0.length l0) (hc0 : l0.length ≤ c0) (h : slices_Clone_edits.f l0 = some r) :
    Calls Try.prog 55 #[.slice A0 l0.length c0] w fun e w' => ∃ v_ : Value, e = .returned v_ ∧ Kd.R k30 30 w' w.heap.size (fun _ => True) v_ r ∧ Below w.heap.size w w' := by
  unfold slices_Clone_edits.f at h
  by_cases hl : l0.length ≤ 1000000000000
  rotate_left
  · rw [if_neg hl] at h; cases h
  rw [if_pos hl] at h
  cases h
  have HR := Aside0.mk hr0
  have HL := Aside0.mk hl
  have HB := Aside0.mk (Below.refl w.heap.size w)
  have hus := Try.underlying22
  have hen := fun (w : World) (a : Option Addr) (l c : Nat) => eqlNilE w _ _ a l c hus
  clear hl
  cases A0 with
  | none =>
    have hn : l0 = [] := by
      rcases Nat.eq_zero_or_pos l0.length with h0 | h0
      · exact List.length_eq_zero_iff.mp h0
      · obtain ⟨ad, e, _⟩ := hr0.2.2 h0
        cases e
    subst hn
    clear hr0
    go_enter Try.func55, Try.ntmps55
    go_wp2
    go_ret
    exact ⟨_, rfl, Kd.R_nil _ _ _ _ _, HB.out⟩
  | some ad =>
    clear hr0
    go_enter Try.func55, Try.ntmps55
    go_wp2_with (first | ((with_reducible refine gate_dst (N := 5) rfl ?_); refine Kd.R_lit k30 (w0 := w) w.heap.size 30 ?hg (N := 5) ?hd (xs := []) (inner := []) (ok := fun _ => True) (okp := fun _ => True) ?hr (Reps.none _ _) (fun _ hk => hk) trivial HB.out (Nat.le_refl _) (by simp) ?_; (case hd => rfl); (case hg => rfl); (case hr => first | (go_simp; done) | (go_simp; rfl)); intro v1 w1 ho hb hg_ hnew_; have HO := Aside0.mk ho; have HB1 := Aside0.mk hb; clear ho hb hg_ hnew_) | ((with_reducible refine gate_dst (N := 7) rfl ?_); at_builtin; refine Kd.R_append_rows k30 (w0 := w) w.heap.size rfl (.tmp 5) (.tmp 6) 22 30 (.agg #[(.int .i64 0), (.int .i64 0), (.int .i64 0), (.int .i64 0), (.int .i64 0), (.bool false), (.int .i64 0), (.int .i64 0), (.int .i64 0), (.int .i64 0), (.int .i64 0), (.int .i64 0), (.int .i64 0)]) 104 rfl Try.underlying22 info30 rfl (by decide) (by omega) v1 [] l0 (some ad) l0.length c0 (fun _ => True) (fun _ => False) rfl rfl HO.out (Kd.C_below HR.out HB1.out) (fun _ _ h => h) (fun _ h => h.elim) (fun _ _ => trivial) HB1.out (below_size HB1.out) (by have := HL.out; simp; omega) ?_; intro v2 w2 ho hb hg_ hnew_; have HO2 := Aside0.mk ho; have HB2 := Aside0.mk hb; clear ho hb hg_ hnew_))
    go_ret
    exact ⟨_, rfl, by have h_ := HO2.out; rw [List.nil_append] at h_; exact h_, HB2.out⟩
end Go.Proofs.Yteopkkoblbmggaa.P
end
section
namespace Go.Proofs.Yteopkkoblbmggaa.P
open Go.RowKit Go.Proofs.YteopkkoblbmggaaW.PrintWords Go.Proofs.YteopkkoblbmggaaW.PrintLast Go.Proofs.YteopkkoblbmggaaW.PrintMore
attribute [local go_sem] max2_int min2_int max_two min_two max_three min_three max_four min_four
set_option linter.unusedVariables false
set_option linter.unusedSimpArgs false
attribute [local go_sem high] eqA26
/-! ### replica_place: function 56 -/
def replica_place.l0 : Nat → List (S30) → Int → Int → Int → Option (Int × Bool)
 | 0, _, _, _, _ => none
 | k + 1, x0, x6, x128000, x128001 => if x6 < (x0.length : Int) then (if 0 ≤ x6 then ((edits_Less.f ((rd_T30 x0 x6).f0.f0) ((rd_T30 x0 x6).f0.f1) x128000 x128001).bind fun t129 => (if t129 = true then (replica_place.l0 k x0 (wrap64 (x6 + 1)) x128000 x128001) else (some (x6, (((rd_T30 x0 x6).f0.f0) == x128000 && (((rd_T30 x0 x6).f0.f1) == x128001)))))) else (none)) else (some (x6, false))
def replica_place.f (k : Nat) (l0 : List (S30)) (a1_0 : Int) (a1_1 : Int) : Option (Int × Bool) := replica_place.l0 k l0 0 a1_0 a1_1
theorem replica_place.mono_l : ∀ k, (∀ y0 y1 y2 y3, LeO (replica_place.l0 k y0 y1 y2 y3) (replica_place.l0 (k + 1) y0 y1 y2 y3))
 | 0 => fun _ _ _ _ r h => by simp [replica_place.l0] at h
 | k + 1 => by
  have ih0 := replica_place.mono_l k
  ·intro y0 y1 y2 y3
   unfold replica_place.l0
   repeat' first
   | (with_reducible exact ih0 _ _ _ _)
   | (with_reducible exact LeO.refl _)
   | (with_reducible exact LeO.none _)
   | (with_reducible refine LeO.ite ?_ ?_)
   | (with_reducible refine LeO.bind ?_ (fun _ => ?_))
   | exact ih0 _ _ _ _
   | exact LeO.none _
   | refine LeO.ite ?_ ?_
   | refine LeO.bind ?_ (fun _ => ?_)
theorem replica_place.mono : ∀ a0 a1 a2 k, LeO (replica_place.f k a0 a1 a2) (replica_place.f (k + 1) a0 a1 a2) := by
 intro a0 a1 a2 k
 have ih0 := replica_place.mono_l k
 unfold replica_place.f
 repeat' first
   | (with_reducible exact ih0 _ _ _ _)
   | (with_reducible exact LeO.refl _)
   | (with_reducible exact LeO.none _)
   | (with_reducible refine LeO.ite ?_ ?_)
   | (with_reducible refine LeO.bind ?_ (fun _ => ?_))
   | exact ih0 _ _ _ _
   | exact LeO.none _
   | refine LeO.ite ?_ ?_
   | refine LeO.bind ?_ (fun _ => ?_)
def replica_place.T2 : Bool × List (List Nat × List Nat) := (true, [([], []), ([], []), ([1], [1]), ([0, 2], [0, 2]), ([3], [3]), ([4], [4]), ([4], [4]), ([5, 6, 4], [4, 5, 6]), ([7, 4], [4, 7]), ([8, 4], [4, 8]), ([4], [4]), ([9, 10, 4, 4], [4, 9, 10]), ([4, 11], [4, 11])])
def replica_place.B2 : List Nat := [0, 0, 2, 7, 15, 31, 31, 127, 255, 511, 31, 2047, 4095]
theorem replica_place.tab2 : rtab .any (opsOf Try.f56 2) = replica_place.T2 := by kernel_rfl
theorem replica_place.bits2 : waitsOk replica_place.T2.2 replica_place.B2 = true := by kernel_rfl
def replica_place.T4 : Bool × List (List Nat × List Nat) := (true, [([], []), ([], []), ([], []), ([2], [2]), ([1, 3], [1, 3]), ([4], [4]), ([5], [5]), ([5], [5]), ([6, 7, 5], [5, 6, 7]), ([8, 5], [5, 8]), ([9, 5], [5, 9]), ([5], [5]), ([10, 11, 5], [5, 10, 11]), ([5, 12], [5, 12]), ([0, 5, 0], [0]), ([13, 14, 0, 1, 2, 3, 4, 5, 6, 7, 8, 9, 10, 11, 12, 13, 14], [13])])
def replica_place.B4 : List Nat := [0, 0, 0, 4, 14, 30, 62, 62, 254, 510, 1022, 62, 4094, 8190, 63, 32767]
theorem replica_place.tab4 : rtab .any (opsOf Try.f56 4) = replica_place.T4 := by kernel_rfl
theorem replica_place.bits4 : waitsOk replica_place.T4.2 replica_place.B4 = true := by kernel_rfl
set_option maxHeartbeats 8000000 in
set_option maxRecDepth 100000 in
theorem replica_place.calls (k : Nat) (A0 : Option Addr) (c0 : Nat) (l0 : List (S30)) (a1_0 : Int) (a1_1 : Int) (r1 : Int) (r2 : Bool) (w : World) (hr0 : Kd.C k30 w A0 l0.length l0) (hc0 : l0.length ≤ c0) (h : replica_place.f k l0 a1_0 a1_1 = some (r1, r2)) :
  Calls Try.prog 56 #[.slice A0 l0.length c0, .agg #[.int .i64 a1_0, .int .i64 a1_1]] w fun e w' => e = .returned (.tuple #[.int .i64 r1, .bool r2]) ∧ Below w.heap.size w w' := by
 have hu26 := Try.underlying26
 have HR0 := Aside0.mk hr0
 have HC0 := Aside0.mk hc0
 clear hr0 hc0
 have HB := Aside0.mk (Below.refl w.heap.size w)
 have H : (replica_place.l0 k l0 0 a1_0 a1_1) = some (r1, r2) := h
 clear h
 have H' := Aside0.mk H
 clear H
 go_enter Try.func56, Try.ntmps56
 go_wp2_with (first | ((with_reducible refine gate_dst (N := 3) rfl ?_); refine box_event ?hg (N := 3) ?hd (cs := #[.int .i64 a1_0, .int .i64 a1_1]) (t := 26) ?hr ?_; (case hd => rfl); (case hg => rfl); (case hr => first | (go_simp; done) | (go_simp; rfl)); intro gb127 hg w3 hbox hb; have n0_ := Aside0.mk (below_step (hU HB.out) hb); have n1_ := Aside0.mk (hbox); have n2_ := Aside0.mk ((by rw [hg]; exact (below_size (hU HB.out)) : w.heap.size ≤ gb127)); have n3_ := Aside0.mk ((by rw [hg]; exact (below_size (hU HB.out)) : w.heap.size ≤ gb127)); clear HB; have HB := n0_; have BK127 := n1_; have GW127 := n2_; have GE127 := n3_; clear n0_ n1_ n2_ n3_; clear hb hbox hg))
 go_loopg [6] k (fun kq v6 w' => ∃ (x6_1 : Int), v6 = .int .i64 x6_1 ∧ Aside0 (replica_place.l0 kq l0 x6_1 a1_0 a1_1 = some (r1, r2)) ∧ Aside0 (kq ≤ k) ∧ Aside0 (w'.heap[gb127]? = some (.cells #[.int .i64 a1_0, .int .i64 a1_1] 26 (0, 0))) ∧ Aside0 (Below w.heap.size w w'))
 case atStart => exact ⟨(0), (by first | rfl | (simp; done) | (simp [*]; done)), H', ⟨Nat.le_refl _⟩, ⟨by (with_reducible repeat (first | refine blk_drewN ?_ _ | refine blk_drew ?_ | refine blk_alloc ?_ _)); exact BK127.out⟩, ⟨hU HB.out⟩⟩
 case round =>
  clear H'
  try clear p2
  obtain ⟨x6_1, rfl, HA, HK1, BK127, HB⟩ := hrel
  cases gk with
  | zero => exact absurd HA.out (by simp [replica_place.l0])
  | succ k1 =>
   have H := HA.out
   clear HA
   simp only [replica_place.l0] at H
   by_cases c4 : x6_1 < (l0.length : Int)
   ·rw [if_pos c4] at H
    have c4b0 : decide (x6_1 < (l0.length : Int)) = true := decide_eq_true c4
    clear c4
    by_cases c5 : 0 ≤ x6_1
    rotate_left
    ·rw [if_neg c5] at H
     exact absurd H (by simp)
    rw [if_pos c5] at H
    have c5b0 : decide (0 ≤ x6_1) = true := decide_eq_true c5
    clear c5
    replace H := Option.bind_eq_some_iff.mp H
    obtain ⟨t129, A60, H⟩ := H
    try dsimp only at H
    have A6 := Aside0.mk A60
    clear A60
    by_cases c7 : t129 = true
    ·subst c7
     have H1 : (replica_place.l0 k1 l0 (wrap64 (x6_1 + 1)) a1_0 a1_1) = some (r1, r2) := by rw [if_pos rfl] at H; exact H
     clear H
     have H := H1
     clear H1
     have H' := Aside0.mk H
     clear H
     try go_wp2
     replace BK127 := Aside0.mk (blk_drew BK127.out)
     replace HB := Aside0.mk (below_drew1 HB.out)
     have p128 : 0 ≤ (x6_1 : Int) := of_decide_eq_true (by first | (with_reducible assumption) | assumption)
     have q128 : x6_1 < (l0.length : Int) := of_decide_eq_true (by first | (with_reducible assumption) | assumption)
     obtain ⟨ad128, e128, hx128_0, hx128_1, hx128_2, hx128_3, hx128_4, hx128_5, hx128_6, hx128_7, hx128_8, hx128_9, hx128_10, hx128_11, hx128_12⟩ := at_T30 HR0.out x6_1 p128 q128
     have hw128_12 := hx128_12
     have hw128_11 := hx128_11
     have hw128_10 := hx128_10
     have hw128_9 := hx128_9
     have hw128_8 := hx128_8
     have hw128_7 := hx128_7
     have hw128_6 := hx128_6
     have hw128_5 := hx128_5
     have hw128_4 := hx128_4
     have hw128_3 := hx128_3
     have hw128_2 := hx128_2
     have hw128_1 := hx128_1
     have hw128_0 := hx128_0
     cases e128
     replace hx128_0 := hbC HB hx128_0
     replace hx128_1 := hbC HB hx128_1
     replace hx128_2 := hbC HB hx128_2
     replace hx128_3 := hbC HB hx128_3
     replace hx128_4 := hbC HB hx128_4
     replace hx128_5 := hbC HB hx128_5
     replace hx128_6 := hbC HB hx128_6
     replace hx128_7 := hbC HB hx128_7
     replace hx128_8 := hbC HB hx128_8
     replace hx128_9 := hbC HB hx128_9
     replace hx128_10 := hbC HB hx128_10
     replace hx128_11 := hbC HB hx128_11
     replace hx128_12 := hbC HB hx128_12
     replace p128 := eq_true p128
     replace q128 := eq_true q128
     refine start_ (n := 13) (S := fun w' => w'.cell? ⟨gb127, 0, none⟩ = some (.int .i64 a1_0) ∧ w'.cell? ⟨gb127, 1, none⟩ = some (.int .i64 a1_1) ∧ w'.cell? (ad128.add ((x6_1).toNat * 13)) = some (.int .i64 ((rd_T30 l0 x6_1).f0.f0)) ∧ w'.cell? ⟨(ad128.add ((x6_1).toNat * 13)).block, (ad128.add ((x6_1).toNat * 13)).off + 1, none⟩ = some (.int .i64 ((rd_T30 l0 x6_1).f0.f1)) ∧ w'.cell? ⟨(ad128.add ((x6_1).toNat * 13)).block, (ad128.add ((x6_1).toNat * 13)).off + 2, none⟩ = some (.int .i64 ((rd_T30 l0 x6_1).f1)) ∧ w'.cell? ⟨(ad128.add ((x6_1).toNat * 13)).block, (ad128.add ((x6_1).toNat * 13)).off + 3, none⟩ = some (.int .i64 ((rd_T30 l0 x6_1).f2.f0)) ∧ w'.cell? ⟨(ad128.add ((x6_1).toNat * 13)).block, (ad128.add ((x6_1).toNat * 13)).off + 4, none⟩ = some (.int .i64 ((rd_T30 l0 x6_1).f2.f1)) ∧ w'.cell? ⟨(ad128.add ((x6_1).toNat * 13)).block, (ad128.add ((x6_1).toNat * 13)).off + 5, none⟩ = some (.bool ((rd_T30 l0 x6_1).f3)) ∧ w'.cell? ⟨(ad128.add ((x6_1).toNat * 13)).block, (ad128.add ((x6_1).toNat * 13)).off + 6, none⟩ = some (.int .i64 ((rd_T30 l0 x6_1).f4.f0)) ∧ w'.cell? ⟨(ad128.add ((x6_1).toNat * 13)).block, (ad128.add ((x6_1).toNat * 13)).off + 7, none⟩ = some (.int .i64 ((rd_T30 l0 x6_1).f4.f1)) ∧ w'.cell? ⟨(ad128.add ((x6_1).toNat * 13)).block, (ad128.add ((x6_1).toNat * 13)).off + 8, none⟩ = some (.int .i64 ((rd_T30 l0 x6_1).f4.f2)) ∧ w'.cell? ⟨(ad128.add ((x6_1).toNat * 13)).block, (ad128.add ((x6_1).toNat * 13)).off + 9, none⟩ = some (.int .i64 ((rd_T30 l0 x6_1).f4.f3)) ∧ w'.cell? ⟨(ad128.add ((x6_1).toNat * 13)).block, (ad128.add ((x6_1).toNat * 13)).off + 10, none⟩ = some (.int .i64 ((rd_T30 l0 x6_1).f4.f4)) ∧ w'.cell? ⟨(ad128.add ((x6_1).toNat * 13)).block, (ad128.add ((x6_1).toNat * 13)).off + 11, none⟩ = some (.int .i64 ((rd_T30 l0 x6_1).f4.f5)) ∧ w'.cell? ⟨(ad128.add ((x6_1).toNat * 13)).block, (ad128.add ((x6_1).toNat * 13)).off + 12, none⟩ = some (.int .i64 ((rd_T30 l0 x6_1).f4.f6))) (ds := []) #[false, false, false, false, false, false, false, false, false, false, false, false, false] (by kernel_rfl) rfl rfl ⟨(blk_cell BK127.out 0).trans rfl, (blk_cell BK127.out 1).trans rfl, (hbC HB hw128_0), (hbC HB hw128_1), (hbC HB hw128_2), (hbC HB hw128_3), (hbC HB hw128_4), (hbC HB hw128_5), (hbC HB hw128_6), (hbC HB hw128_7), (hbC HB hw128_8), (hbC HB hw128_9), (hbC HB hw128_10), (hbC HB hw128_11), (hbC HB hw128_12)⟩ (fun hHeld => ?_); refine with_tabW replica_place.tab2 replica_place.bits2 (fun HT_ HW_ => ?_)
     generalize wr.drew = w8 at BK127 HB hx128_0 hx128_1 hx128_10 hx128_11 hx128_12 hx128_2 hx128_3 hx128_4 hx128_5 hx128_6 hx128_7 hx128_8 hx128_9 hHeld ⊢
     refine puA 0 7 (bs 13 1) ?_
     refine puA 1 8 (bs 13 3) ?_
     refine puA 2 9 (bs 13 7) ?_
     refine puA 3 10 (bs 13 15) ?_
     refine puA 4 11 (bs 13 31) ?_
     refine puA 5 12 (bs 13 63) ?_
     refine puA 6 13 (bs 13 127) ?_
     refine puA 7 14 (bs 13 255) ?_
     refine puA 8 15 (bs 13 511) ?_
     refine tkA 9 16 (bs 13 1023) hHeld ?_
     refine tkA 10 17 (bs 13 2047) hHeld ?_
     refine one_ (i := 11) (N := some 18) (bs 13 4095) rfl rfl (one_of HT_.out (by kernel_rfl)) (by decide) (fun K hK => ?_)
     refine goes_ Try.func75 (by kernel_rfl) rfl #[.agg #[.int .i64 ((rd_T30 l0 x6_1).f0.f0), .int .i64 ((rd_T30 l0 x6_1).f0.f1)], .agg #[.int .i64 a1_0, .int .i64 a1_1]] (by rfl) rfl rfl (by (try simp only [List.map_toArray, List.map_cons, List.map_nil]); first | done | rfl | (simp only [List.length_drop, List.length_take]; rfl)) ?_
     with_reducible refine (edits_Less.calls ((rd_T30 l0 x6_1).f0.f0) ((rd_T30 l0 x6_1).f0.f1) a1_0 a1_1 true _ A6.out).mono ?_
     rintro e w9 ⟨rfl, hb⟩
     refine ⟨_, rfl, ?_⟩
     replace BK127 := Aside0.mk (blk_below (bU BK127.out) hb)
     replace HB := Aside0.mk (below_step (hU HB.out) hb)
     (try clear hb)
     (try clear hb2)
     (try clear hk)
     (try clear hi)
     refine hK.out _ _ ⟨(blk_cell BK127.out 0).trans rfl, (blk_cell BK127.out 1).trans rfl, (hbC HB hw128_0), (hbC HB hw128_1), (hbC HB hw128_2), (hbC HB hw128_3), (hbC HB hw128_4), (hbC HB hw128_5), (hbC HB hw128_6), (hbC HB hw128_7), (hbC HB hw128_8), (hbC HB hw128_9), (hbC HB hw128_10), (hbC HB hw128_11), (hbC HB hw128_12)⟩ (fun hHeld => ?_)
     clear hK K
     refine nmA 18 ?_
     refine puA 12 19 (bs 13 8191) ?_
     refine done_ (done_of HT_.out (by kernel_rfl)) ?_
     try go_wp2
     go_roundg k1
     case measure => have := HK1.out; omega
     case rel => exact ⟨(wrap64 (x6_1 + 1)), (by first | rfl | (simp; done) | (simp [*]; done)), H', ⟨by have := HK1.out; omega⟩, ⟨by (with_reducible repeat (first | refine blk_drewN ?_ _ | refine blk_drew ?_ | refine blk_alloc ?_ _)); exact BK127.out⟩, ⟨hU HB.out⟩⟩
    ·replace c7 := Bool.eq_false_iff.mpr c7
     subst c7
     have H1 : (some (x6_1, (((rd_T30 l0 x6_1).f0.f0) == a1_0 && (((rd_T30 l0 x6_1).f0.f1) == a1_1)))) = some (r1, r2) := by rw [if_neg (show ¬ (false = true) by decide)] at H; exact H
     clear H
     have H := H1
     clear H1
     simp only [Option.some.injEq, Prod.mk.injEq] at H
     obtain ⟨rfl, rfl⟩ := H
     try go_wp2
     replace BK127 := Aside0.mk (blk_drew BK127.out)
     replace HB := Aside0.mk (below_drew1 HB.out)
     have p128 : 0 ≤ (x6_1 : Int) := of_decide_eq_true (by first | (with_reducible assumption) | assumption)
     have q128 : x6_1 < (l0.length : Int) := of_decide_eq_true (by first | (with_reducible assumption) | assumption)
     obtain ⟨ad128, e128, hx128_0, hx128_1, hx128_2, hx128_3, hx128_4, hx128_5, hx128_6, hx128_7, hx128_8, hx128_9, hx128_10, hx128_11, hx128_12⟩ := at_T30 HR0.out x6_1 p128 q128
     have hw128_12 := hx128_12
     have hw128_11 := hx128_11
     have hw128_10 := hx128_10
     have hw128_9 := hx128_9
     have hw128_8 := hx128_8
     have hw128_7 := hx128_7
     have hw128_6 := hx128_6
     have hw128_5 := hx128_5
     have hw128_4 := hx128_4
     have hw128_3 := hx128_3
     have hw128_2 := hx128_2
     have hw128_1 := hx128_1
     have hw128_0 := hx128_0
     cases e128
     replace hx128_0 := hbC HB hx128_0
     replace hx128_1 := hbC HB hx128_1
     replace hx128_2 := hbC HB hx128_2
     replace hx128_3 := hbC HB hx128_3
     replace hx128_4 := hbC HB hx128_4
     replace hx128_5 := hbC HB hx128_5
     replace hx128_6 := hbC HB hx128_6
     replace hx128_7 := hbC HB hx128_7
     replace hx128_8 := hbC HB hx128_8
     replace hx128_9 := hbC HB hx128_9
     replace hx128_10 := hbC HB hx128_10
     replace hx128_11 := hbC HB hx128_11
     replace hx128_12 := hbC HB hx128_12
     replace p128 := eq_true p128
     replace q128 := eq_true q128
     refine start_ (n := 13) (S := fun w' => w'.cell? ⟨gb127, 0, none⟩ = some (.int .i64 a1_0) ∧ w'.cell? ⟨gb127, 1, none⟩ = some (.int .i64 a1_1) ∧ w'.cell? (ad128.add ((x6_1).toNat * 13)) = some (.int .i64 ((rd_T30 l0 x6_1).f0.f0)) ∧ w'.cell? ⟨(ad128.add ((x6_1).toNat * 13)).block, (ad128.add ((x6_1).toNat * 13)).off + 1, none⟩ = some (.int .i64 ((rd_T30 l0 x6_1).f0.f1)) ∧ w'.cell? ⟨(ad128.add ((x6_1).toNat * 13)).block, (ad128.add ((x6_1).toNat * 13)).off + 2, none⟩ = some (.int .i64 ((rd_T30 l0 x6_1).f1)) ∧ w'.cell? ⟨(ad128.add ((x6_1).toNat * 13)).block, (ad128.add ((x6_1).toNat * 13)).off + 3, none⟩ = some (.int .i64 ((rd_T30 l0 x6_1).f2.f0)) ∧ w'.cell? ⟨(ad128.add ((x6_1).toNat * 13)).block, (ad128.add ((x6_1).toNat * 13)).off + 4, none⟩ = some (.int .i64 ((rd_T30 l0 x6_1).f2.f1)) ∧ w'.cell? ⟨(ad128.add ((x6_1).toNat * 13)).block, (ad128.add ((x6_1).toNat * 13)).off + 5, none⟩ = some (.bool ((rd_T30 l0 x6_1).f3)) ∧ w'.cell? ⟨(ad128.add ((x6_1).toNat * 13)).block, (ad128.add ((x6_1).toNat * 13)).off + 6, none⟩ = some (.int .i64 ((rd_T30 l0 x6_1).f4.f0)) ∧ w'.cell? ⟨(ad128.add ((x6_1).toNat * 13)).block, (ad128.add ((x6_1).toNat * 13)).off + 7, none⟩ = some (.int .i64 ((rd_T30 l0 x6_1).f4.f1)) ∧ w'.cell? ⟨(ad128.add ((x6_1).toNat * 13)).block, (ad128.add ((x6_1).toNat * 13)).off + 8, none⟩ = some (.int .i64 ((rd_T30 l0 x6_1).f4.f2)) ∧ w'.cell? ⟨(ad128.add ((x6_1).toNat * 13)).block, (ad128.add ((x6_1).toNat * 13)).off + 9, none⟩ = some (.int .i64 ((rd_T30 l0 x6_1).f4.f3)) ∧ w'.cell? ⟨(ad128.add ((x6_1).toNat * 13)).block, (ad128.add ((x6_1).toNat * 13)).off + 10, none⟩ = some (.int .i64 ((rd_T30 l0 x6_1).f4.f4)) ∧ w'.cell? ⟨(ad128.add ((x6_1).toNat * 13)).block, (ad128.add ((x6_1).toNat * 13)).off + 11, none⟩ = some (.int .i64 ((rd_T30 l0 x6_1).f4.f5)) ∧ w'.cell? ⟨(ad128.add ((x6_1).toNat * 13)).block, (ad128.add ((x6_1).toNat * 13)).off + 12, none⟩ = some (.int .i64 ((rd_T30 l0 x6_1).f4.f6))) (ds := []) #[false, false, false, false, false, false, false, false, false, false, false, false, false] (by kernel_rfl) rfl rfl ⟨(blk_cell BK127.out 0).trans rfl, (blk_cell BK127.out 1).trans rfl, (hbC HB hw128_0), (hbC HB hw128_1), (hbC HB hw128_2), (hbC HB hw128_3), (hbC HB hw128_4), (hbC HB hw128_5), (hbC HB hw128_6), (hbC HB hw128_7), (hbC HB hw128_8), (hbC HB hw128_9), (hbC HB hw128_10), (hbC HB hw128_11), (hbC HB hw128_12)⟩ (fun hHeld => ?_); refine with_tabW replica_place.tab2 replica_place.bits2 (fun HT_ HW_ => ?_)
     generalize wr.drew = w10 at BK127 HB hx128_0 hx128_1 hx128_10 hx128_11 hx128_12 hx128_2 hx128_3 hx128_4 hx128_5 hx128_6 hx128_7 hx128_8 hx128_9 hHeld ⊢
     refine puA 0 7 (bs 13 1) ?_
     refine puA 1 8 (bs 13 3) ?_
     refine puA 2 9 (bs 13 7) ?_
     refine puA 3 10 (bs 13 15) ?_
     refine puA 4 11 (bs 13 31) ?_
     refine puA 5 12 (bs 13 63) ?_
     refine puA 6 13 (bs 13 127) ?_
     refine puA 7 14 (bs 13 255) ?_
     refine puA 8 15 (bs 13 511) ?_
     refine tkA 9 16 (bs 13 1023) hHeld ?_
     refine tkA 10 17 (bs 13 2047) hHeld ?_
     refine one_ (i := 11) (N := some 18) (bs 13 4095) rfl rfl (one_of HT_.out (by kernel_rfl)) (by decide) (fun K hK => ?_)
     refine goes_ Try.func75 (by kernel_rfl) rfl #[.agg #[.int .i64 ((rd_T30 l0 x6_1).f0.f0), .int .i64 ((rd_T30 l0 x6_1).f0.f1)], .agg #[.int .i64 a1_0, .int .i64 a1_1]] (by rfl) rfl rfl (by (try simp only [List.map_toArray, List.map_cons, List.map_nil]); first | done | rfl | (simp only [List.length_drop, List.length_take]; rfl)) ?_
     with_reducible refine (edits_Less.calls ((rd_T30 l0 x6_1).f0.f0) ((rd_T30 l0 x6_1).f0.f1) a1_0 a1_1 false _ A6.out).mono ?_
     rintro e w11 ⟨rfl, hb⟩
     refine ⟨_, rfl, ?_⟩
     replace BK127 := Aside0.mk (blk_below (bU BK127.out) hb)
     replace HB := Aside0.mk (below_step (hU HB.out) hb)
     (try clear hb)
     (try clear hb2)
     (try clear hk)
     (try clear hi)
     refine hK.out _ _ ⟨(blk_cell BK127.out 0).trans rfl, (blk_cell BK127.out 1).trans rfl, (hbC HB hw128_0), (hbC HB hw128_1), (hbC HB hw128_2), (hbC HB hw128_3), (hbC HB hw128_4), (hbC HB hw128_5), (hbC HB hw128_6), (hbC HB hw128_7), (hbC HB hw128_8), (hbC HB hw128_9), (hbC HB hw128_10), (hbC HB hw128_11), (hbC HB hw128_12)⟩ (fun hHeld => ?_)
     clear hK K
     refine nmA 18 ?_
     refine puA 12 19 (bs 13 8191) ?_
     refine done_ (done_of HT_.out (by kernel_rfl)) ?_
     try go_wp2
     replace BK127 := Aside0.mk (blk_drew BK127.out)
     replace HB := Aside0.mk (below_drew1 HB.out)
     have p130 : 0 ≤ (x6_1 : Int) := of_decide_eq_true (by first | (with_reducible assumption) | assumption)
     have q130 : x6_1 < (l0.length : Int) := of_decide_eq_true (by first | (with_reducible assumption) | assumption)
     obtain ⟨ad130, e130, hx130_0, hx130_1, hx130_2, hx130_3, hx130_4, hx130_5, hx130_6, hx130_7, hx130_8, hx130_9, hx130_10, hx130_11, hx130_12⟩ := at_T30 HR0.out x6_1 p130 q130
     have hw130_12 := hx130_12
     have hw130_11 := hx130_11
     have hw130_10 := hx130_10
     have hw130_9 := hx130_9
     have hw130_8 := hx130_8
     have hw130_7 := hx130_7
     have hw130_6 := hx130_6
     have hw130_5 := hx130_5
     have hw130_4 := hx130_4
     have hw130_3 := hx130_3
     have hw130_2 := hx130_2
     have hw130_1 := hx130_1
     have hw130_0 := hx130_0
     obtain rfl : ad128 = ad130 := (by injection e130)
     replace hx130_0 := hbC HB hx130_0
     replace hx130_1 := hbC HB hx130_1
     replace hx130_2 := hbC HB hx130_2
     replace hx130_3 := hbC HB hx130_3
     replace hx130_4 := hbC HB hx130_4
     replace hx130_5 := hbC HB hx130_5
     replace hx130_6 := hbC HB hx130_6
     replace hx130_7 := hbC HB hx130_7
     replace hx130_8 := hbC HB hx130_8
     replace hx130_9 := hbC HB hx130_9
     replace hx130_10 := hbC HB hx130_10
     replace hx130_11 := hbC HB hx130_11
     replace hx130_12 := hbC HB hx130_12
     replace p130 := eq_true p130
     replace q130 := eq_true q130
     refine start_ (n := 16) (S := fun w' => w'.cell? ⟨gb127, 0, none⟩ = some (.int .i64 a1_0) ∧ w'.cell? ⟨gb127, 1, none⟩ = some (.int .i64 a1_1) ∧ w'.cell? (ad128.add ((x6_1).toNat * 13)) = some (.int .i64 ((rd_T30 l0 x6_1).f0.f0)) ∧ w'.cell? ⟨(ad128.add ((x6_1).toNat * 13)).block, (ad128.add ((x6_1).toNat * 13)).off + 1, none⟩ = some (.int .i64 ((rd_T30 l0 x6_1).f0.f1)) ∧ w'.cell? ⟨(ad128.add ((x6_1).toNat * 13)).block, (ad128.add ((x6_1).toNat * 13)).off + 2, none⟩ = some (.int .i64 ((rd_T30 l0 x6_1).f1)) ∧ w'.cell? ⟨(ad128.add ((x6_1).toNat * 13)).block, (ad128.add ((x6_1).toNat * 13)).off + 3, none⟩ = some (.int .i64 ((rd_T30 l0 x6_1).f2.f0)) ∧ w'.cell? ⟨(ad128.add ((x6_1).toNat * 13)).block, (ad128.add ((x6_1).toNat * 13)).off + 4, none⟩ = some (.int .i64 ((rd_T30 l0 x6_1).f2.f1)) ∧ w'.cell? ⟨(ad128.add ((x6_1).toNat * 13)).block, (ad128.add ((x6_1).toNat * 13)).off + 5, none⟩ = some (.bool ((rd_T30 l0 x6_1).f3)) ∧ w'.cell? ⟨(ad128.add ((x6_1).toNat * 13)).block, (ad128.add ((x6_1).toNat * 13)).off + 6, none⟩ = some (.int .i64 ((rd_T30 l0 x6_1).f4.f0)) ∧ w'.cell? ⟨(ad128.add ((x6_1).toNat * 13)).block, (ad128.add ((x6_1).toNat * 13)).off + 7, none⟩ = some (.int .i64 ((rd_T30 l0 x6_1).f4.f1)) ∧ w'.cell? ⟨(ad128.add ((x6_1).toNat * 13)).block, (ad128.add ((x6_1).toNat * 13)).off + 8, none⟩ = some (.int .i64 ((rd_T30 l0 x6_1).f4.f2)) ∧ w'.cell? ⟨(ad128.add ((x6_1).toNat * 13)).block, (ad128.add ((x6_1).toNat * 13)).off + 9, none⟩ = some (.int .i64 ((rd_T30 l0 x6_1).f4.f3)) ∧ w'.cell? ⟨(ad128.add ((x6_1).toNat * 13)).block, (ad128.add ((x6_1).toNat * 13)).off + 10, none⟩ = some (.int .i64 ((rd_T30 l0 x6_1).f4.f4)) ∧ w'.cell? ⟨(ad128.add ((x6_1).toNat * 13)).block, (ad128.add ((x6_1).toNat * 13)).off + 11, none⟩ = some (.int .i64 ((rd_T30 l0 x6_1).f4.f5)) ∧ w'.cell? ⟨(ad128.add ((x6_1).toNat * 13)).block, (ad128.add ((x6_1).toNat * 13)).off + 12, none⟩ = some (.int .i64 ((rd_T30 l0 x6_1).f4.f6))) (ds := []) #[false, false, false, false, false, false, false, false, false, false, false, false, false, false, false, false] (by kernel_rfl) rfl rfl ⟨(blk_cell BK127.out 0).trans rfl, (blk_cell BK127.out 1).trans rfl, (hbC HB hw130_0), (hbC HB hw130_1), (hbC HB hw130_2), (hbC HB hw130_3), (hbC HB hw130_4), (hbC HB hw130_5), (hbC HB hw130_6), (hbC HB hw130_7), (hbC HB hw130_8), (hbC HB hw130_9), (hbC HB hw130_10), (hbC HB hw130_11), (hbC HB hw130_12)⟩ (fun hHeld => ?_); refine with_tabW replica_place.tab4 replica_place.bits4 (fun HT_ HW_ => ?_)
     generalize w11.drew = w12 at BK127 HB hx130_0 hx130_1 hx130_10 hx130_11 hx130_12 hx130_2 hx130_3 hx130_4 hx130_5 hx130_6 hx130_7 hx130_8 hx130_9 hHeld ⊢
     refine puA 0 22 (bs 16 1) ?_
     refine puA 1 23 (bs 16 3) ?_
     refine puA 2 24 (bs 16 7) ?_
     refine puA 3 25 (bs 16 15) ?_
     refine puA 4 26 (bs 16 31) ?_
     refine puA 5 27 (bs 16 63) ?_
     refine puA 6 28 (bs 16 127) ?_
     refine puA 7 29 (bs 16 255) ?_
     refine puA 8 30 (bs 16 511) ?_
     refine puA 9 31 (bs 16 1023) ?_
     refine puA 14 4 (bs 16 17407) ?_
     refine tkA 10 32 (bs 16 18431) hHeld ?_
     refine tkA 11 33 (bs 16 20479) hHeld ?_
     refine puA 12 34 (bs 16 24575) ?_
     refine puA 13 35 (bs 16 32767) ?_
     refine puA 15 5 (bs 16 65535) ?_
     refine done_ (done_of HT_.out (by kernel_rfl)) ?_
     try go_wp2
     go_ret2
     exact ⟨by first | rfl | (simp [errW_none, errW_some] <;> rfl) | (simp [*, errW_none, errW_some] <;> rfl), hU HB.out⟩
   ·rw [if_neg c4] at H
    have c4b0 : decide (x6_1 < (l0.length : Int)) = false := decide_eq_false c4
    clear c4
    simp only [Option.some.injEq, Prod.mk.injEq] at H
    obtain ⟨rfl, rfl⟩ := H
    try go_wp2
    replace BK127 := Aside0.mk (blk_drew BK127.out)
    replace HB := Aside0.mk (below_drew1 HB.out)
    refine start_ (n := 13) (S := fun w' => True) (ds := []) #[false, false, false, false, false, false, false, false, false, false, false, false, false] (by kernel_rfl) rfl rfl trivial (fun hHeld => ?_); refine with_tabW replica_place.tab2 replica_place.bits2 (fun HT_ HW_ => ?_)
    generalize wr.drew = w13 at BK127 HB hHeld ⊢
    refine puA 0 7 (bs 13 1) ?_
    refine puA 1 8 (bs 13 3) ?_
    refine puA 2 9 (bs 13 7) ?_
    refine puA 3 10 (bs 13 15) ?_
    refine puA 4 11 (bs 13 31) ?_
    refine skA 5 12 (bs 13 63) ?_
    refine skA 6 13 (bs 13 127) ?_
    refine skA 7 14 (bs 13 255) ?_
    refine skA 8 15 (bs 13 511) ?_
    refine skA 9 16 (bs 13 1023) ?_
    refine skA 10 17 (bs 13 2047) ?_
    refine skA 11 18 (bs 13 4095) ?_
    refine puA 12 19 (bs 13 8191) ?_
    refine done_ (done_of HT_.out (by kernel_rfl)) ?_
    try go_wp2
    replace BK127 := Aside0.mk (blk_drew BK127.out)
    replace HB := Aside0.mk (below_drew1 HB.out)
    refine start_ (n := 16) (S := fun w' => True) (ds := []) #[false, false, false, false, false, false, false, false, false, false, false, false, false, false, false, false] (by kernel_rfl) rfl rfl trivial (fun hHeld => ?_); refine with_tabW replica_place.tab4 replica_place.bits4 (fun HT_ HW_ => ?_)
    generalize w13.drew = w14 at BK127 HB hHeld ⊢
    refine puA 0 22 (bs 16 1) ?_
    refine puA 1 23 (bs 16 3) ?_
    refine puA 2 24 (bs 16 7) ?_
    refine puA 3 25 (bs 16 15) ?_
    refine puA 4 26 (bs 16 31) ?_
    refine puA 5 27 (bs 16 63) ?_
    refine skA 6 28 (bs 16 127) ?_
    refine skA 7 29 (bs 16 255) ?_
    refine skA 8 30 (bs 16 511) ?_
    refine skA 9 31 (bs 16 1023) ?_
    refine skA 10 32 (bs 16 2047) ?_
    refine skA 11 33 (bs 16 4095) ?_
    refine skA 12 34 (bs 16 8191) ?_
    refine puA 13 35 (bs 16 16383) ?_
    refine puA 14 4 (bs 16 32767) ?_
    refine puA 15 5 (bs 16 65535) ?_
    refine done_ (done_of HT_.out (by kernel_rfl)) ?_
    try go_wp2
    go_ret2
    exact ⟨by first | rfl | (simp [errW_none, errW_some] <;> rfl) | (simp [*, errW_none, errW_some] <;> rfl), hU HB.out⟩
end Go.Proofs.Yteopkkoblbmggaa.P
end
