/- Texts of this claim in one: VJWrite, VMapT, VJComp; no condition. -/
import Derived.Test.YteopkkoblbmggaaUAD
import Derived.Test.YteopkkoblbmggaaUAI
import Derived.Test.YteopkkoblbmggaaUAJ
import Derived.Test.YteopkkoblbmggaaUAH
import Derived.Deep.Light
import Derived.WalkSpells
import Derived.Sort.Walk0
import Derived.Shelf.Abstract
import Derived.Maps.OwnSet
import Derived.Maps.OwnOps
import Derived.DeepKeys4
section
set_option linter.unusedVariables false
set_option linter.unusedSimpArgs false
namespace Go.Proofs.Yteopkkoblbmggaa.P
open Go.RowKit Go.Shelf Go.Proofs.YteopkkoblbmggaaW.PrintWords Go.Proofs.YteopkkoblbmggaaW.PrintLast Go.Proofs.YteopkkoblbmggaaW.PrintMore
/-- What written says of the edits from number i on, behind what is written. -/
def wrP (k : Nat) (kp : Nat → Bool) : Nat → List S30 → List Int → Option (List Int × Int)
  | _, [], out => some (out, 0)
  | i, x :: t, out => if kp i = true then (journal_Append.f k out x.f0.f0 x.f0.f1 x.f1 x.f2.f0 x.f2.f1 x.f3 x.f4.f0 x.f4.f1 x.f4.f2 x.f4.f3 x.f4.f4 x.f4.f5 x.f4.f6).bind fun r => if r.2 = 0 then wrP k kp (i + 1) t r.1 else some ([], r.2) else wrP k kp (i + 1) t out
theorem append_mono (k : Nat) (out : List Int) (x : S30) : LeO (journal_Append.f k out x.f0.f0 x.f0.f1 x.f1 x.f2.f0 x.f2.f1 x.f3 x.f4.f0 x.f4.f1 x.f4.f2 x.f4.f3 x.f4.f4 x.f4.f5 x.f4.f6) (journal_Append.f (k + 1) out x.f0.f0 x.f0.f1 x.f1 x.f2.f0 x.f2.f1 x.f3 x.f4.f0 x.f4.f1 x.f4.f2 x.f4.f3 x.f4.f4 x.f4.f5 x.f4.f6) := journal_Append.mono _ _ _ _ _ _ _ _ _ _ _ _ _ _ k
theorem wrP_mono (k : Nat) (kp : Nat → Bool) : ∀ (l : List S30) (i : Nat) (out : List Int), LeO (wrP k kp i l out) (wrP (k + 1) kp i l out)
  | [], i, out => fun r h => h
  | x :: t, i, out => fun r h => by
    unfold wrP at h ⊢
    by_cases hk : kp i = true
    · rw [if_pos hk] at h ⊢
      obtain ⟨a, ha, h2⟩ := Option.bind_eq_some_iff.mp h
      rw [append_mono k out x a ha, Option.bind_some]
      by_cases hz : a.2 = 0
      · rw [if_pos hz] at h2 ⊢
        exact wrP_mono k kp t (i + 1) a.1 r h2
      · rw [if_neg hz] at h2 ⊢
        exact h2
    · rw [if_neg hk] at h ⊢
      exact wrP_mono k kp t (i + 1) out r h
/-- The replica's error, or what is written. -/
def wrA (k : Nat) (kp : Nat → Bool) (d : Int) (l : List S30) : Option (List Int × Int) :=
  if ∀ e ∈ l, okE30 e then (if rchkP d l = 0 then wrP k kp 0 l [] else some ([], rchkP d l)) else none
theorem wrA_mono (k : Nat) (kp : Nat → Bool) (d : Int) (l : List S30) : LeO (wrA k kp d l) (wrA (k + 1) kp d l) := fun r h => by
  unfold wrA at h ⊢
  split at h
  · rename_i hv
    rw [if_pos hv]
    split at h
    · rename_i hz
      rw [if_pos hz]
      exact wrP_mono k kp l 0 [] r h
    · rename_i hz
      rw [if_neg hz]
      exact h
  · cases h
theorem rchk_len2 {d : Int} {l : List S30} (h : rchkP d l = 0) : l.length ≤ 512 := by
  unfold rchkP at h
  split at h
  · cases h
  · split at h
    · cases h
    · omega
set_option maxHeartbeats 16000000 in
set_option maxRecDepth 100000 in
theorem written_calls (gf : FuncId) (eg : ∀ args w, (callFunc gf args).run Try.prog w = .ok (.enter gf args) w) (cb : Array Value) (k : Nat) (kp : Nat → Bool) (a0 : Int) (A1 : Option Addr) (c1 : Nat) (l1 : List S30) (r0 : List Int) (r1 : Int) (w : World) (hr1 : Kd.C k30 w A1 l1.length l1) (hc1 : l1.length ≤ c1)
    (hf : ∀ W, Below w.heap.size w W → ∀ i (h : i < l1.length), Calls Try.prog gf (#[.int .i64 i, .agg (cE (l1[i]'h)).toArray] ++ cb) W fun e W' => e = .returned (.bool (kp i)) ∧ Below W.heap.size W W')
    (h : wrA k kp a0 l1 = some (r0, r1)) :
    Calls Try.prog 90 #[.agg #[.int .i64 a0, .slice A1 l1.length c1], .func (.func gf) #[] cb] w fun e w' => ∃ v0_ : Value, e = .returned (.tuple #[v0_, .int .i64 r1]) ∧ Kd.R (Kd.int .u8) 5 w' w.heap.size (fun _ => True) v0_ r0 ∧ Below w.heap.size w w' := by
  unfold wrA at h
  by_cases hv : ∀ e ∈ l1, okE30 e
  rotate_left
  · rw [if_neg hv] at h; cases h
  rw [if_pos hv] at h
  have HR := Aside0.mk hr1
  have HC := Aside0.mk hc1
  have HF := Aside0.mk hf
  have HB := Aside0.mk (Below.refl w.heap.size w)
  have hu24 := Try.underlying24
  have hu30 := Try.underlying30
  obtain ⟨cv, hcv⟩ : ∃ c, rchkP a0 l1 = c := ⟨_, rfl⟩
  have HQ : Aside0 (replica_Check.f a0 l1 = some cv) := ⟨by unfold replica_Check.f; rw [if_pos hv, hcv]⟩
  rw [hcv] at h
  by_cases hz : cv = 0
  rotate_left
  · rw [if_neg hz] at h
    simp only [Option.some.injEq, Prod.mk.injEq] at h
    obtain ⟨rfl, rfl⟩ := h
    have hz2 : (cv != 0) = true := by simp; exact hz
    clear hr1 hc1 hv hcv hz hf eg
    go_enter Try.func90, Try.ntmps90
    go_wp2_with (first | ((with_reducible refine gate_dst (N := 2) rfl ?_); refine box_event ?hg (N := 2) ?hd (cs := #[.int .i64 a0, .slice A1 l1.length c1]) (t := 24) ?hr ?_; (case hd => rfl); (case hg => rfl); (case hr => first | (go_simp; done) | (go_simp; rfl)); intro g2 hg W2 hbox hb; replace HB := Aside0.mk (below_step (hU HB.out) hb); have B2 := Aside0.mk hbox; clear hb hbox hg; have hc2 := blk_cell B2.out) | ((with_reducible refine gate_callee (f := 29) rfl ?_); refine goesL_ (some 13) rfl rfl Try.func29 (by kernel_rfl) rfl #[.agg #[.int .i64 a0, .slice A1 l1.length c1]] rfl (by (try simp only [List.map_toArray, List.map_cons, List.map_nil]); first | done | (go_simp; done) | rfl) ?_; refine (replica_Check.calls a0 A1 c1 l1 _ _ (Kd.C_below HR.out (hU HB.out)) HC.out HQ.out).mono ?_; rintro e w2 ⟨rfl, hb⟩; refine ⟨_, rfl, ?_⟩; replace B2 := Aside0.mk (blk_below (bU B2.out) hb); replace HB := Aside0.mk (below_step (hU HB.out) hb); clear hb hc2; have hc2 := blk_cell B2.out))
    (try rw [Exit.noGoto_ret])
    go_ret2
    exact ⟨_, rfl, Kd.R_nil _ _ _ _ _, hU HB.out⟩
  subst hz
  rw [if_pos rfl] at h
  have HL := Aside0.mk (rchk_len2 hcv)
  have HX := Aside0.mk h
  clear hr1 hc1 hv hcv hf h
  go_enter Try.func90, Try.ntmps90
  go_wp2_with (first | ((with_reducible refine gate_dst (N := 2) rfl ?_); refine box_event ?hg (N := 2) ?hd (cs := #[.int .i64 a0, .slice A1 l1.length c1]) (t := 24) ?hr ?_; (case hd => rfl); (case hg => rfl); (case hr => first | (go_simp; done) | (go_simp; rfl)); intro g2 hg W2 hbox hb; replace HB := Aside0.mk (below_step (hU HB.out) hb); have B2 := Aside0.mk hbox; clear hb hbox hg; have hc2 := blk_cell B2.out) | ((with_reducible refine gate_callee (f := 29) rfl ?_); refine goesL_ (some 13) rfl rfl Try.func29 (by kernel_rfl) rfl #[.agg #[.int .i64 a0, .slice A1 l1.length c1]] rfl (by (try simp only [List.map_toArray, List.map_cons, List.map_nil]); first | done | (go_simp; done) | rfl) ?_; refine (replica_Check.calls a0 A1 c1 l1 _ _ (Kd.C_below HR.out (hU HB.out)) HC.out HQ.out).mono ?_; rintro e w2 ⟨rfl, hb⟩; refine ⟨_, rfl, ?_⟩; replace B2 := Aside0.mk (blk_below (bU B2.out) hb); replace HB := Aside0.mk (below_step (hU HB.out) hb); clear hb hc2; have hc2 := blk_cell B2.out))
  go_loopg [7, 20] l1.length (fun kq v7 v20 W => ∃ (i : Nat) (out : List Int) (Ao : Option Addr) (co : Nat), v7 = .slice Ao out.length co ∧ v20 = .int .i64 (i : Int) ∧ Aside0 (i + kq = l1.length) ∧ Aside0 (wrP k kp i (l1.drop i) out = some (r0, r1)) ∧ Aside0 (Kd.R (Kd.int .u8) 5 W w.heap.size (fun _ => True) (.slice Ao out.length co) out) ∧ Aside0 (Below w.heap.size w W))
  case atStart => exact ⟨0, [], none, 0, rfl, rfl, ⟨by omega⟩, ⟨by rw [List.drop_zero]; exact HX.out⟩, ⟨Kd.R_nil _ _ _ _ _⟩, HB⟩
  case round =>
    clear HB B2 hc2 HX
    obtain ⟨i, out, Ao, co, rfl, rfl, HK, HX, HO, HB⟩ := hrel
    cases gk with
    | zero =>
      have hi : i = l1.length := by have := HK.out; omega
      have hlt : decide (i < l1.length) = false := by simp; omega
      have hx := HX.out
      rw [hi, List.drop_length] at hx
      simp only [wrP, Option.some.injEq, Prod.mk.injEq] at hx
      obtain ⟨rfl, rfl⟩ := hx
      clear hi HX
      go_wp2
      go_ret2
      exact ⟨_, rfl, HO.out, hU HB.out⟩
    | succ k1 =>
      have hi : i < l1.length := by have := HK.out; omega
      have hlt : decide (i < l1.length) = true := by simp; exact hi
      obtain ⟨adx, e0x, hx0, hx1, hx2, hx3, hx4, hx5, hx6, hx7, hx8, hx9, hx10, hx11, hx12⟩ := at_T30 HR.out (i : Int) (by omega) (by omega)
      cases e0x
      rw [Int.toNat_natCast] at hx0 hx1 hx2 hx3 hx4 hx5 hx6 hx7 hx8 hx9 hx10 hx11 hx12
      rw [rd30_at hi] at hx0 hx1 hx2 hx3 hx4 hx5 hx6 hx7 hx8 hx9 hx10 hx11 hx12
      replace hx0 := (HB.out.cell (World.block_lt_of_cell? w _ hx0)).trans hx0
      replace hx1 := (HB.out.cell (World.block_lt_of_cell? w _ hx1)).trans hx1
      replace hx2 := (HB.out.cell (World.block_lt_of_cell? w _ hx2)).trans hx2
      replace hx3 := (HB.out.cell (World.block_lt_of_cell? w _ hx3)).trans hx3
      replace hx4 := (HB.out.cell (World.block_lt_of_cell? w _ hx4)).trans hx4
      replace hx5 := (HB.out.cell (World.block_lt_of_cell? w _ hx5)).trans hx5
      replace hx6 := (HB.out.cell (World.block_lt_of_cell? w _ hx6)).trans hx6
      replace hx7 := (HB.out.cell (World.block_lt_of_cell? w _ hx7)).trans hx7
      replace hx8 := (HB.out.cell (World.block_lt_of_cell? w _ hx8)).trans hx8
      replace hx9 := (HB.out.cell (World.block_lt_of_cell? w _ hx9)).trans hx9
      replace hx10 := (HB.out.cell (World.block_lt_of_cell? w _ hx10)).trans hx10
      replace hx11 := (HB.out.cell (World.block_lt_of_cell? w _ hx11)).trans hx11
      replace hx12 := (HB.out.cell (World.block_lt_of_cell? w _ hx12)).trans hx12
      have q0 : (0 ≤ ((i : Nat) : Int)) = True := by simp
      have q1 : (((i : Nat) : Int) < (l1.length : Int)) = True := by simp; exact hi
      have hx := HX.out
      rw [List.drop_eq_getElem_cons hi] at hx
      have hcall := fun W hb => HF.out W hb i hi
      generalize l1[i]'hi = x at hx0 hx1 hx2 hx3 hx4 hx5 hx6 hx7 hx8 hx9 hx10 hx11 hx12 hx hcall
      have HI := Aside0.mk hi
      have HCL := Aside0.mk hcall
      have HX2 := Aside0.mk hx
      clear hi hcall hx HX
      go_upto_region 8 with (fail)
      have HB1 : Aside0 (Below w.heap.size w (wr.alloc (.cells #[.int .i64 x.f0.f0, .int .i64 x.f0.f1, .int .i64 x.f1, .int .i64 x.f2.f0, .int .i64 x.f2.f1, .bool x.f3, .int .i64 x.f4.f0, .int .i64 x.f4.f1, .int .i64 x.f4.f2, .int .i64 x.f4.f3, .int .i64 x.f4.f4, .int .i64 x.f4.f5, .int .i64 x.f4.f6] 30))) := ⟨below_alloc HB.out _⟩
      have B9 : Aside0 ((wr.alloc (.cells #[.int .i64 x.f0.f0, .int .i64 x.f0.f1, .int .i64 x.f1, .int .i64 x.f2.f0, .int .i64 x.f2.f1, .bool x.f3, .int .i64 x.f4.f0, .int .i64 x.f4.f1, .int .i64 x.f4.f2, .int .i64 x.f4.f3, .int .i64 x.f4.f4, .int .i64 x.f4.f5, .int .i64 x.f4.f6] 30)).heap[wr.heap.size]? = some (.cells #[.int .i64 x.f0.f0, .int .i64 x.f0.f1, .int .i64 x.f1, .int .i64 x.f2.f0, .int .i64 x.f2.f1, .bool x.f3, .int .i64 x.f4.f0, .int .i64 x.f4.f1, .int .i64 x.f4.f2, .int .i64 x.f4.f3, .int .i64 x.f4.f4, .int .i64 x.f4.f5, .int .i64 x.f4.f6] 30 (0, 0))) := ⟨blk_new _ _⟩
      have HO1 : Aside0 (Kd.R (Kd.int .u8) 5 (wr.alloc (.cells #[.int .i64 x.f0.f0, .int .i64 x.f0.f1, .int .i64 x.f1, .int .i64 x.f2.f0, .int .i64 x.f2.f1, .bool x.f3, .int .i64 x.f4.f0, .int .i64 x.f4.f1, .int .i64 x.f4.f2, .int .i64 x.f4.f3, .int .i64 x.f4.f4, .int .i64 x.f4.f5, .int .i64 x.f4.f6] 30)) w.heap.size (fun _ => True) (.slice Ao out.length co) out) := ⟨Kd.R_alloc HO.out _⟩
      generalize (wr.alloc (.cells #[.int .i64 x.f0.f0, .int .i64 x.f0.f1, .int .i64 x.f1, .int .i64 x.f2.f0, .int .i64 x.f2.f1, .bool x.f3, .int .i64 x.f4.f0, .int .i64 x.f4.f1, .int .i64 x.f4.f2, .int .i64 x.f4.f3, .int .i64 x.f4.f4, .int .i64 x.f4.f5, .int .i64 x.f4.f6] 30)) = W1 at HB1 B9 HO1 ⊢
      generalize wr.heap.size = g9 at B9 ⊢
      clear HB HO hx0 hx1 hx2 hx3 hx4 hx5 hx6 hx7 hx8 hx9 hx10 hx11 hx12
      have hc9 := blk_cell B9.out
      have HC1 := Aside0.mk (HCL.out W1 HB1.out)
      have hx := HX2.out
      clear HX2
      unfold wrP at hx
      obtain ⟨kb, hkb⟩ : ∃ kb, kp i = kb := ⟨_, rfl⟩
      rw [hkb] at hx HC1
      clear hkb
      cases kb
      · rw [if_neg (by decide)] at hx
        have HX3 := Aside0.mk hx
        clear hx
        go_wp2_with (go_at_fn gf; refine HC1.out.mono ?_; rintro e w5 ⟨rfl, hb⟩; have HB2 := Aside0.mk (below_step (hU HB1.out) hb); have HO2 := Aside0.mk (Kd.R_below HO1.out hb); clear hb)
        go_roundg k1
        case measure => have := HK.out; omega
        case rel => exact ⟨i + 1, out, Ao, co, rfl, by first | (simp; done) | (simp; unfold wrap64; have := HL.out; have := HI.out; omega), ⟨by have := HK.out; omega⟩, HX3, HO2, HB2⟩
      · rw [if_pos rfl] at hx
        obtain ⟨⟨o2, e2⟩, ha, hx⟩ := Option.bind_eq_some_iff.mp hx
        have HA := Aside0.mk ha
        clear ha
        dsimp only at hx
        by_cases hz : e2 = 0
        · subst hz
          rw [if_pos rfl] at hx
          have HX3 := Aside0.mk hx
          clear hx
          go_wp2_with (first | (go_at_fn gf; refine HC1.out.mono ?_; rintro e w5 ⟨rfl, hb⟩; have HB2 := Aside0.mk (below_step (hU HB1.out) hb); have HO2 := Aside0.mk (Kd.R_below HO1.out hb); have B92 := Aside0.mk (blk_below (bU B9.out) hb); clear hb hc9; have hc9 := blk_cell B92.out) | ((with_reducible refine gate_callee (f := 38) rfl ?_); refine goesL_ (some 33) rfl rfl Try.func38 (by kernel_rfl) rfl #[.slice Ao out.length co, .agg #[.int .i64 x.f0.f0, .int .i64 x.f0.f1, .int .i64 x.f1, .int .i64 x.f2.f0, .int .i64 x.f2.f1, .bool x.f3, .int .i64 x.f4.f0, .int .i64 x.f4.f1, .int .i64 x.f4.f2, .int .i64 x.f4.f3, .int .i64 x.f4.f4, .int .i64 x.f4.f5, .int .i64 x.f4.f6]] rfl (by (try simp only [List.map_toArray, List.map_cons, List.map_nil]); first | done | (go_simp; done) | rfl) ?_; refine (journal_Append.calls k Ao co out _ _ _ _ _ _ _ _ _ _ _ _ _ _ _ _ (Kd.R_reads' HO2.out).2.2 (Kd.R_reads' HO2.out).2.1 HA.out).mono ?_; rintro e w6 ⟨v3, rfl, ho, hb⟩; refine ⟨_, rfl, ?_⟩; have HO3 := Aside0.mk (Kd.R_lower ho (below_size (hU HB2.out))); have HB3 := Aside0.mk (below_step (hU HB2.out) hb); clear hb ho; obtain ⟨A3, c3, rfl⟩ := Kd.R_slice HO3.out))
          go_roundg k1
          case measure => have := HK.out; omega
          case rel => exact ⟨i + 1, o2, A3, c3, rfl, by first | (simp; done) | (simp; unfold wrap64; have := HL.out; have := HI.out; omega), ⟨by have := HK.out; omega⟩, HX3, HO3, HB3⟩
        · rw [if_neg hz] at hx
          simp only [Option.some.injEq, Prod.mk.injEq] at hx
          obtain ⟨rfl, rfl⟩ := hx
          have hz2 : (e2 != 0) = true := by simp; exact hz
          clear hz
          go_wp2_with (first | (go_at_fn gf; refine HC1.out.mono ?_; rintro e w5 ⟨rfl, hb⟩; have HB2 := Aside0.mk (below_step (hU HB1.out) hb); have HO2 := Aside0.mk (Kd.R_below HO1.out hb); have B92 := Aside0.mk (blk_below (bU B9.out) hb); clear hb hc9; have hc9 := blk_cell B92.out) | ((with_reducible refine gate_callee (f := 38) rfl ?_); refine goesL_ (some 33) rfl rfl Try.func38 (by kernel_rfl) rfl #[.slice Ao out.length co, .agg #[.int .i64 x.f0.f0, .int .i64 x.f0.f1, .int .i64 x.f1, .int .i64 x.f2.f0, .int .i64 x.f2.f1, .bool x.f3, .int .i64 x.f4.f0, .int .i64 x.f4.f1, .int .i64 x.f4.f2, .int .i64 x.f4.f3, .int .i64 x.f4.f4, .int .i64 x.f4.f5, .int .i64 x.f4.f6]] rfl (by (try simp only [List.map_toArray, List.map_cons, List.map_nil]); first | done | (go_simp; done) | rfl) ?_; refine (journal_Append.calls k Ao co out _ _ _ _ _ _ _ _ _ _ _ _ _ _ _ _ (Kd.R_reads' HO2.out).2.2 (Kd.R_reads' HO2.out).2.1 HA.out).mono ?_; rintro e w6 ⟨v3, rfl, ho, hb⟩; refine ⟨_, rfl, ?_⟩; have HO3 := Aside0.mk (Kd.R_lower ho (below_size (hU HB2.out))); have HB3 := Aside0.mk (below_step (hU HB2.out) hb); clear hb ho; obtain ⟨A3, c3, rfl⟩ := Kd.R_slice HO3.out))
          (try rw [Exit.noGoto_ret])
          go_ret2
          exact ⟨_, rfl, Kd.R_nil _ _ _ _ _, hU HB3.out⟩
/-- journal.Write. -/
def journal_Write.f (k : Nat) (a0 : Int) (l1 : List S30) : Option (List Int × Int) := wrA k (fun _ => true) a0 l1
theorem journal_Write.mono : ∀ a0 a1 k, LeO (journal_Write.f k a0 a1) (journal_Write.f (k + 1) a0 a1) := fun a0 a1 k => wrA_mono k _ a0 a1
set_option maxHeartbeats 4000000 in
set_option maxRecDepth 100000 in
theorem write1_calls (i : Nat) (x : S30) (W : World) : Calls Try.prog 91 (#[.int .i64 i, .agg (cE x).toArray] ++ #[]) W fun e W' => e = .returned (.bool true) ∧ Below W.heap.size W W' := by
  show Calls Try.prog 91 #[.int .i64 i, .agg #[.int .i64 x.f0.f0, .int .i64 x.f0.f1, .int .i64 x.f1, .int .i64 x.f2.f0, .int .i64 x.f2.f1, .bool x.f3, .int .i64 x.f4.f0, .int .i64 x.f4.f1, .int .i64 x.f4.f2, .int .i64 x.f4.f3, .int .i64 x.f4.f4, .int .i64 x.f4.f5, .int .i64 x.f4.f6]] W _
  go_enter Try.func91, Try.ntmps91
  go_wp2
  go_ret
  exact ⟨rfl, by first | exact Below.refl _ _ | exact below_alloc (Below.refl _ _) _⟩
theorem eg_of {f : FuncId} {fn : Func} (hf : Try.prog.funcs[f]? = some fn) (hname : (fn.name == "runtime.NumGoroutine") = false) (hb : fn.body.isSome = true) : ∀ args w, (callFunc f args).run Try.prog w = .ok (.enter f args) w := fun args w => enters_ hf hname hb args w
set_option maxHeartbeats 4000000 in
set_option maxRecDepth 100000 in
theorem journal_Write.calls (k : Nat) (a0 : Int) (A1 : Option Addr) (c1 : Nat) (l1 : List S30) (r0 : List Int) (r1 : Int) (w : World) (hr1 : Kd.C k30 w A1 l1.length l1) (hc1 : l1.length ≤ c1) (h : journal_Write.f k a0 l1 = some (r0, r1)) :
    Calls Try.prog 44 #[.agg #[.int .i64 a0, .slice A1 l1.length c1]] w fun e w' => ∃ v0_ : Value, e = .returned (.tuple #[v0_, .int .i64 r1]) ∧ Kd.R (Kd.int .u8) 5 w' w.heap.size (fun _ => True) v0_ r0 ∧ Below w.heap.size w w' := by
  have HR := Aside0.mk hr1
  have HC := Aside0.mk hc1
  have HH := Aside0.mk h
  have HB := Aside0.mk (Below.refl w.heap.size w)
  have hu24 := Try.underlying24
  clear hr1 hc1 h
  go_enter Try.func44, Try.ntmps44
  go_wp2_with (first | ((with_reducible refine gate_dst (N := 1) rfl ?_); refine box_event ?hg (N := 1) ?hd (cs := #[.int .i64 a0, .slice A1 l1.length c1]) (t := 24) ?hr ?_; (case hd => rfl); (case hg => rfl); (case hr => first | (go_simp; done) | (go_simp; rfl)); intro g2 hg W2 hbox hb; replace HB := Aside0.mk (below_step (hU HB.out) hb); have B1 := Aside0.mk hbox; clear hb hbox hg; have hc1 := blk_cell B1.out) | ((with_reducible refine gate_callee (f := 90) rfl ?_); refine goesL_ (some 5) rfl rfl Try.func90 (by kernel_rfl) rfl #[.agg #[.int .i64 a0, .slice A1 l1.length c1], .func (.func 91) #[] #[]] rfl (by (try simp only [List.map_toArray, List.map_cons, List.map_nil]); first | done | (go_simp; done) | rfl) ?_; refine (written_calls 91 (eg_of Try.func91 (by kernel_rfl) rfl) #[] k (fun _ => true) a0 A1 c1 l1 r0 r1 _ (Kd.C_below HR.out (hU HB.out)) HC.out (fun W _ i hi => write1_calls i (l1[i]'hi) W) HH.out).mono ?_; rintro e w2 ⟨v3, rfl, ho, hb⟩; refine ⟨_, rfl, ?_⟩; have HO := Aside0.mk (Kd.R_lower ho (below_size (hU HB.out))); replace HB := Aside0.mk (below_step (hU HB.out) hb); clear hb ho))
  go_ret2
  exact ⟨_, rfl, HO.out, HB.out⟩
end Go.Proofs.Yteopkkoblbmggaa.P
end
section
set_option linter.unusedVariables false
set_option linter.unusedSimpArgs false
namespace Go.Proofs.Yteopkkoblbmggaa.P
open Go.RowKit Go.Maps Go.Proofs.YteopkkoblbmggaaW.PrintWords Go.Proofs.YteopkkoblbmggaaW.PrintLast Go.Proofs.YteopkkoblbmggaaW.PrintMore
theorem rowT : (26 : TypeId) < Try.prog.types.size := of_decide_eq_true (by kernel_rfl)
theorem wideT : (match Try.prog.underlying 26 with | some (.array _ _) | some (.struct _) => true | _ => false) = true := by kernel_rfl
set_option maxRecDepth 100000 in
theorem lawT : Go.Maps.Keyed Try.prog 26 := Go.Maps.Keyed.of_law (deep_law_laid laidOutS (m := 2) (by omega) rowT (by kernel_rfl) wideT)
theorem keyTT : Try.prog.keyType 26 = true := by kernel_rfl
/-- What a stamp reads as. -/
def kT (c d : Int) : Lit := .string (keyBytes [.int .i64 c, .int .i64 d])
theorem keyOf_T {c d : Int} (h1 : okN c) (h2 : okN d) : keyOf Try.prog 26 (.agg #[.int .i64 c, .int .i64 d]) = some (kT c d) := by
  unfold okN at h1 h2
  obtain ⟨m, hm⟩ := sizeS
  unfold keyOf
  rw [Try.underlying26]
  simp only [keyTT, Value.formed, Try.underlying26, cellsT, hm]
  simp [Program.keyLits, Try.underlying26, Try.underlying3, cellsT, cellsI, h1, h2, Value.cells, kT]
theorem kT_inj {c d c' d' : Int} (h1 : okN c) (h2 : okN d) (h1' : okN c') (h2' : okN d') (h : kT c d = kT c' d') : c = c' ∧ d = d' := by
  have := lawT.inj (keyOf_T h1 h2) (h ▸ keyOf_T h1' h2')
  simp at this
  exact this
theorem zeroI (w : World) : (zeroValue 3).run Try.prog w = .ok (.int .i64 0) w := by kernel_rfl
theorem okN_small (i : Nat) (h : i ≤ 1000000) : (Lit.int .i64 (i : Int)).wf = true := by
  have e1 : IntKind.i64.min = -9223372036854775808 := rfl
  have e2 : IntKind.i64.max = 9223372036854775807 := rfl
  simp only [Lit.wf, e1, e2, Bool.and_eq_true, decide_eq_true_eq]
  omega
/-- What a map of ints says of a stamp. -/
def SaysI (D : DataW Unit) (f : Int → Int → Option Nat) : Prop := ∀ c d, okN c → okN d → D.atKey (kT c d) (.lit (.int .i64 0)) = .lit (.int .i64 (((f c d).getD 0 : Nat) : Int)) ∧ Maps.has D (kT c d) = (f c d).isSome
theorem saysI_empty : SaysI (.map []) (fun _ _ => none) := fun _ _ _ _ => ⟨rfl, rfl⟩
theorem saysI_put {D : DataW Unit} {f : Int → Int → Option Nat} (h : SaysI D f) (hD : IsMap D) {c d : Int} (h1 : okN c) (h2 : okN d) (v : Nat) :
    SaysI (D.put (kT c d) (.lit (.int .i64 (v : Int)))) (fun c' d' => if c' = c ∧ d' = d then some v else f c' d') := by
  intro c' d' g1 g2
  by_cases e : c' = c ∧ d' = d
  · obtain ⟨rfl, rfl⟩ := e
    rw [atKey_put_same hD (lawT.key (keyOf_T h1 h2)), has_put_same hD (lawT.key (keyOf_T h1 h2))]
    simp
  · have hne : kT c' d' ≠ kT c d := fun q => e (kT_inj g1 g2 h1 h2 q)
    rw [atKey_put_other hne, has_put_other hne]
    simp only [if_neg e]
    exact h c' d' g1 g2
section
variable {P : Program} {ops : Array Oper} {rest : List Oper} {o : Oper} {a : Act} {Q : Exit → Act → World → Prop}
/-- 'm[k]' at a map of ints. -/
theorem wpList_lookup_I {H : Type} (w : World) (hg : o.guard = none) (m x : Operand) (t : TypeId) (hop : o.op = Op.lookup t m x false)
    (k e : TypeId) (K : Keyed P k) (ht : P.underlying t = some (.map k e)) (he : P.underlying e = some (.int .i64)) (hz : (zeroValue e).run P w = .ok (.int .i64 0) w) (b n : Nat) (D : DataW H)
    (hm : a.eval m = .map (some b)) (hown : w.ownsMap P k (plainElem P e) b n D) (key : Value) (kl : Lit) (hx : a.eval x = key) (hkey : keyOf P k key = some kl) (r : Int) (hr : D.atKey kl (.lit (.int .i64 0)) = .lit (.int .i64 r))
    (hK : wpList P ops Q rest (a.put o.dst (.int .i64 r)) w) : wpList P ops Q (o :: rest) a w :=
  wpList_lookup_own_int w hg m x t hop k e .i64 K ht he hz b n D hm hown key kl hx hkey (fun c hc _ => by
    have : c = r := by
      have := hc.symm.trans hr
      simpa using this
    subst this
    exact hK)
/-- 'v, ok := m[k]' at a map of ints. -/
theorem wpList_lookup_okI {H : Type} (w : World) (hg : o.guard = none) (m x : Operand) (t : TypeId) (hop : o.op = Op.lookup t m x true)
    (k e : TypeId) (K : Keyed P k) (ht : P.underlying t = some (.map k e)) (he : P.underlying e = some (.int .i64)) (hz : (zeroValue e).run P w = .ok (.int .i64 0) w) (b n : Nat) (D : DataW H)
    (hm : a.eval m = .map (some b)) (hown : w.ownsMap P k (plainElem P e) b n D) (key : Value) (kl : Lit) (hx : a.eval x = key) (hkey : keyOf P k key = some kl) (r : Int) (hr : D.atKey kl (.lit (.int .i64 0)) = .lit (.int .i64 r)) (s : Bool) (hs : Maps.has D kl = s)
    (hK : wpList P ops Q rest (a.put o.dst (.tuple #[.int .i64 r, .bool s])) w) : wpList P ops Q (o :: rest) a w :=
  wpList_lookup_own_ok_int w hg m x t hop k e .i64 K ht he hz b n D hm hown key kl hx hkey (fun c hc _ => by
    have : c = r := by
      have := hc.symm.trans hr
      simpa using this
    subst this
    subst hs
    exact hK)
theorem gate_upd {W : World} {t : TypeId} {m x : Tmp} {v : Operand} (_ho : o.op = .mapUpdate t (.tmp m) (.tmp x) v) (h : wpList P ops Q (o :: rest) a W) : wpList P ops Q (o :: rest) a W := h
/-- make(map[K]V). -/
theorem map_event {W : World} (k : TypeId) (R : Value → Option (DataW Unit × List MemPlace)) (hgd : o.guard = none)
    (hrun : (execOp a.eval o).run P W = .ok (.value (.map (some W.heap.size))) (W.alloc (.map #[] 0)))
    (h : ∀ m, m = W.heap.size → ∀ w1, w1.ownsMap P k R m 0 (.map []) → Below W.heap.size W w1 → wpList P ops Q rest (a.put o.dst (.map (some m))) w1) : wpList P ops Q (o :: rest) a W :=
  Kd.event_run hgd hrun (h _ rfl _ (World.ownsMap_made _ _ _ _) (below_alloc (Below.refl _ _) _))
end
/-- A block of cells is not a map's. -/
theorem ne_map {W : World} {P : Program} {k : TypeId} {R : Value → Option (DataW Unit × List MemPlace)} {m n g t : Nat} {cs : Array Value} {D : DataW Unit} (ho : W.ownsMap P k R m n D) (h : W.heap[g]? = some (.cells cs t (0, 0))) : g ≠ m := by
  rintro rfl
  obtain ⟨es, clock, hb, _⟩ := ho
  rw [h] at hb; cases hb
theorem blk_map {W w1 : World} {P : Program} {k : TypeId} {R : Value → Option (DataW Unit × List MemPlace)} {m n g t : Nat} {cs : Array Value} {D : DataW Unit} (h : W.heap[g]? = some (.cells cs t (0, 0))) (ho : W.ownsMap P k R m n D) (hg : W.grownBy w1 (some m)) : w1.heap[g]? = some (.cells cs t (0, 0)) :=
  (hg.block g (blk_lt h) (fun e => ne_map ho h (Option.some.inj e))).trans h
theorem ownsMap_below {W w1 : World} {P : Program} {k : TypeId} {R : Value → Option (DataW Unit × List MemPlace)} {m n : Nat} {D : DataW Unit} (h : W.ownsMap P k R m n D) (hb : Below W.heap.size W w1) : w1.ownsMap P k R m n D := by
  have hlt := h.lt
  obtain ⟨es, clock, hbk, F, hs, hD⟩ := h
  exact ⟨es, clock, (hb.block m hlt).trans hbk, F, hs, hD⟩
end Go.Proofs.Yteopkkoblbmggaa.P
end
section
set_option linter.unusedVariables false
set_option linter.unusedSimpArgs false
namespace Go.Proofs.Yteopkkoblbmggaa.P
open Go.RowKit Go.Shelf Go.Maps Go.Proofs.YteopkkoblbmggaaW.PrintWords Go.Proofs.YteopkkoblbmggaaW.PrintLast Go.Proofs.YteopkkoblbmggaaW.PrintMore
/-- The first and the last of the first j edits that are of a sign. -/
def fstF (l : List S30) : Nat → Int → Int → Option Nat
  | 0, _, _ => none
  | j + 1, c, d => match fstF l j c d with
    | some i => some i
    | none => if h : j < l.length then (if l[j].f2.f0 = c ∧ l[j].f2.f1 = d then some j else none) else none
def lstF (l : List S30) : Nat → Int → Int → Option Nat
  | 0, _, _ => none
  | j + 1, c, d => if h : j < l.length then (if l[j].f2.f0 = c ∧ l[j].f2.f1 = d then some j else lstF l j c d) else lstF l j c d
theorem fst_new {l : List S30} {j : Nat} (h : j < l.length) (hn : fstF l j l[j].f2.f0 l[j].f2.f1 = none) : (fun c d => if c = l[j].f2.f0 ∧ d = l[j].f2.f1 then some j else fstF l j c d) = fstF l (j + 1) := by
  funext c d
  simp only [fstF, dif_pos h]
  by_cases e : c = l[j].f2.f0 ∧ d = l[j].f2.f1
  · obtain ⟨rfl, rfl⟩ := e
    rw [hn]
    (try simp)
  · rw [if_neg e]
    have e2 : ¬ (l[j].f2.f0 = c ∧ l[j].f2.f1 = d) := fun q => e ⟨q.1.symm, q.2.symm⟩
    rw [if_neg e2]
    cases fstF l j c d <;> rfl
theorem fst_old {l : List S30} {j : Nat} (h : j < l.length) (hn : (fstF l j l[j].f2.f0 l[j].f2.f1).isSome = true) : fstF l j = fstF l (j + 1) := by
  funext c d
  simp only [fstF, dif_pos h]
  by_cases e : l[j].f2.f0 = c ∧ l[j].f2.f1 = d
  · obtain ⟨rfl, rfl⟩ := e
    cases hq : fstF l j l[j].f2.f0 l[j].f2.f1 with
    | none => rw [hq] at hn; cases hn
    | some i => rfl
  · rw [if_neg e]
    cases fstF l j c d <;> rfl
theorem lst_new {l : List S30} {j : Nat} (h : j < l.length) : (fun c d => if c = l[j].f2.f0 ∧ d = l[j].f2.f1 then some j else lstF l j c d) = lstF l (j + 1) := by
  funext c d
  simp only [lstF, dif_pos h]
  by_cases e : c = l[j].f2.f0 ∧ d = l[j].f2.f1
  · rw [if_pos e, if_pos ⟨e.1.symm, e.2.symm⟩]
  · rw [if_neg e, if_neg (fun q => e ⟨q.1.symm, q.2.symm⟩)]
/-- Which edits Compact keeps. -/
def kpC (l : List S30) (i : Nat) : Bool := if h : i < l.length then ((((fstF l l.length l[i].f2.f0 l[i].f2.f1).getD 0 : Nat) : Int) == (i : Int) || (((lstF l l.length l[i].f2.f0 l[i].f2.f1).getD 0 : Nat) : Int) == (i : Int)) else false
def journal_Compact.f (k : Nat) (a0 : Int) (l1 : List S30) : Option (List Int × Int) := if l1.length ≤ 1000000 then wrA k (kpC l1) a0 l1 else none
theorem journal_Compact.mono : ∀ a0 a1 k, LeO (journal_Compact.f k a0 a1) (journal_Compact.f (k + 1) a0 a1) := fun a0 a1 k r h => by
  unfold journal_Compact.f at h ⊢
  split at h
  · rename_i hl
    rw [if_pos hl]
    exact wrA_mono k _ a0 a1 r h
  · cases h
set_option maxHeartbeats 16000000 in
set_option maxRecDepth 100000 in
/-- The function that Compact hands on. -/
theorem compact1_calls (i : Nat) (x : S30) (hx : okE30 x) (p4 p5 m4 m5 n : Nat) (D4 D5 : DataW Unit) (v4 v5 : Int) (W : World) (hp4 : W.heap[p4]? = some (.cells #[.map (some m4)] 121 (0, 0))) (hp5 : W.heap[p5]? = some (.cells #[.map (some m5)] 121 (0, 0)))
    (ho4 : World.ownsMap (H := Unit) W Try.prog 26 (plainElem Try.prog 3) m4 n D4) (ho5 : World.ownsMap (H := Unit) W Try.prog 26 (plainElem Try.prog 3) m5 n D5)
    (hv4 : D4.atKey (kT x.f2.f0 x.f2.f1) (.lit (.int .i64 0)) = .lit (.int .i64 v4)) (hv5 : D5.atKey (kT x.f2.f0 x.f2.f1) (.lit (.int .i64 0)) = .lit (.int .i64 v5)) :
    Calls Try.prog 92 (#[.int .i64 i, .agg (cE x).toArray] ++ #[.pointer (some ⟨p4, 0, none⟩), .pointer (some ⟨p5, 0, none⟩)]) W fun e W' => e = .returned (.bool (v4 == (i : Int) || v5 == (i : Int))) ∧ Below W.heap.size W W' := by
  show Calls Try.prog 92 #[.int .i64 i, .agg #[.int .i64 x.f0.f0, .int .i64 x.f0.f1, .int .i64 x.f1, .int .i64 x.f2.f0, .int .i64 x.f2.f1, .bool x.f3, .int .i64 x.f4.f0, .int .i64 x.f4.f1, .int .i64 x.f4.f2, .int .i64 x.f4.f3, .int .i64 x.f4.f4, .int .i64 x.f4.f5, .int .i64 x.f4.f6], .pointer (some ⟨p4, 0, none⟩), .pointer (some ⟨p5, 0, none⟩)] W _
  have HB := Aside0.mk (Below.refl W.heap.size W)
  have B4 := Aside0.mk hp4
  have B5 := Aside0.mk hp5
  have O4 := Aside0.mk ho4
  have O5 := Aside0.mk ho5
  have V4 := Aside0.mk hv4
  have V5 := Aside0.mk hv5
  have HE := Aside0.mk hx
  have hu30 := Try.underlying30
  clear hp4 hp5 ho4 ho5 hv4 hv5 hx
  obtain ⟨b4, hb4⟩ : ∃ b, (v4 == (i : Int)) = b := ⟨_, rfl⟩
  cases b4
  · obtain ⟨b5, hb5⟩ : ∃ b, (v5 == (i : Int)) = b := ⟨_, rfl⟩
    go_enter Try.func92, Try.ntmps92
    go_wp2_with (first | ((with_reducible refine gate_dst (N := 5) rfl ?_); refine box_event ?hg (N := 5) ?hd (cs := #[.int .i64 x.f0.f0, .int .i64 x.f0.f1, .int .i64 x.f1, .int .i64 x.f2.f0, .int .i64 x.f2.f1, .bool x.f3, .int .i64 x.f4.f0, .int .i64 x.f4.f1, .int .i64 x.f4.f2, .int .i64 x.f4.f3, .int .i64 x.f4.f4, .int .i64 x.f4.f5, .int .i64 x.f4.f6]) (t := 30) ?hr ?_; (case hd => rfl); (case hg => rfl); (case hr => first | (go_simp; done) | (go_simp; rfl)); intro g5 hg W5 hbox hb; replace B4 := Aside0.mk (blk_below (bU B4.out) hb); replace B5 := Aside0.mk (blk_below (bU B5.out) hb); replace O4 := Aside0.mk (ownsMap_below O4.out hb); replace O5 := Aside0.mk (ownsMap_below O5.out hb); replace HB := Aside0.mk (below_step (hU HB.out) hb); have hcx := blk_cell hbox; have hc4 := blk_cell B4.out; have hc5 := blk_cell B5.out; clear hb hbox hg) | ((with_reducible refine gate_dst (N := 10) rfl ?_); refine wpList_lookup_I _ rfl _ _ 121 rfl 26 3 lawT Try.underlying121 Try.underlying3 (zeroI _) m4 n D4 rfl O4.out (.agg #[.int .i64 x.f2.f0, .int .i64 x.f2.f1]) _ rfl (keyOf_T HE.out.2.1 HE.out.2.2) v4 V4.out ?_) | ((with_reducible refine gate_dst (N := 17) rfl ?_); refine gate_guard (by rfl) ?_; refine wpList_lookup_I _ rfl _ _ 121 rfl 26 3 lawT Try.underlying121 Try.underlying3 (zeroI _) m5 n D5 rfl O5.out (.agg #[.int .i64 x.f2.f0, .int .i64 x.f2.f1]) _ rfl (keyOf_T HE.out.2.1 HE.out.2.2) v5 V5.out ?_))
    go_ret
    exact ⟨by rw [hb4, hb5]; rfl, hU HB.out⟩
  · go_enter Try.func92, Try.ntmps92
    go_wp2_with (first | ((with_reducible refine gate_dst (N := 5) rfl ?_); refine box_event ?hg (N := 5) ?hd (cs := #[.int .i64 x.f0.f0, .int .i64 x.f0.f1, .int .i64 x.f1, .int .i64 x.f2.f0, .int .i64 x.f2.f1, .bool x.f3, .int .i64 x.f4.f0, .int .i64 x.f4.f1, .int .i64 x.f4.f2, .int .i64 x.f4.f3, .int .i64 x.f4.f4, .int .i64 x.f4.f5, .int .i64 x.f4.f6]) (t := 30) ?hr ?_; (case hd => rfl); (case hg => rfl); (case hr => first | (go_simp; done) | (go_simp; rfl)); intro g5 hg W5 hbox hb; replace B4 := Aside0.mk (blk_below (bU B4.out) hb); replace B5 := Aside0.mk (blk_below (bU B5.out) hb); replace O4 := Aside0.mk (ownsMap_below O4.out hb); replace O5 := Aside0.mk (ownsMap_below O5.out hb); replace HB := Aside0.mk (below_step (hU HB.out) hb); have hcx := blk_cell hbox; have hc4 := blk_cell B4.out; have hc5 := blk_cell B5.out; clear hb hbox hg) | ((with_reducible refine gate_dst (N := 10) rfl ?_); refine wpList_lookup_I _ rfl _ _ 121 rfl 26 3 lawT Try.underlying121 Try.underlying3 (zeroI _) m4 n D4 rfl O4.out (.agg #[.int .i64 x.f2.f0, .int .i64 x.f2.f1]) _ rfl (keyOf_T HE.out.2.1 HE.out.2.2) v4 V4.out ?_))
    go_ret
    exact ⟨by rw [hb4]; rfl, hU HB.out⟩
set_option maxHeartbeats 16000000 in
set_option maxRecDepth 100000 in
theorem journal_Compact.calls (k : Nat) (a0 : Int) (A1 : Option Addr) (c1 : Nat) (l1 : List S30) (r0 : List Int) (r1 : Int) (w : World) (hr1 : Kd.C k30 w A1 l1.length l1) (hc1 : l1.length ≤ c1) (h : journal_Compact.f k a0 l1 = some (r0, r1)) :
    Calls Try.prog 46 #[.agg #[.int .i64 a0, .slice A1 l1.length c1]] w fun e w' => ∃ v0_ : Value, e = .returned (.tuple #[v0_, .int .i64 r1]) ∧ Kd.R (Kd.int .u8) 5 w' w.heap.size (fun _ => True) v0_ r0 ∧ Below w.heap.size w w' := by
  unfold journal_Compact.f at h
  by_cases hl : l1.length ≤ 1000000
  rotate_left
  · rw [if_neg hl] at h; cases h
  rw [if_pos hl] at h
  have hv : ∀ e ∈ l1, okE30 e := by
    unfold wrA at h
    by_cases hv : ∀ e ∈ l1, okE30 e
    · exact hv
    · rw [if_neg hv] at h; cases h
  have HR := Aside0.mk hr1
  have HC := Aside0.mk hc1
  have HL := Aside0.mk hl
  have HV := Aside0.mk hv
  have HH := Aside0.mk h
  have HB := Aside0.mk (Below.refl w.heap.size w)
  have hu24 := Try.underlying24
  have hu30 := Try.underlying30
  have hmm := @run_makeMap Try.prog
  clear hr1 hc1 hl hv h
  go_enter Try.func46, Try.ntmps46
  go_upto_region 2 with (first | ((with_reducible refine gate_dst (N := 1) rfl ?_); refine box_event ?hg (N := 1) ?hd (cs := #[.int .i64 a0, .slice A1 l1.length c1]) (t := 24) ?hr ?_; (case hd => rfl); (case hg => rfl); (case hr => first | (go_simp; done) | (go_simp; rfl)); intro g1 hg W1 hbox hb; have hge_ := below_size (hU HB.out); rw [← hg] at hge_; have G1 := Aside0.mk hge_; clear hge_; replace HB := Aside0.mk (below_step (hU HB.out) hb); have B1 := Aside0.mk hbox; clear hb hbox hg) | ((with_reducible refine gate_dst (N := 10) rfl ?_); refine map_event (P := Try.prog) 26 (plainElem Try.prog 3) ?hg ?hr ?_; (case hg => rfl); (case hr => first | (go_simp; done) | (go_simp; rfl)); intro m4 hg V4 hown hb; have hge_ := below_size (hU HB.out); rw [← hg] at hge_; have GM4 := Aside0.mk hge_; clear hge_; replace B1 := Aside0.mk (blk_below (bU B1.out) hb); replace HB := Aside0.mk (below_step (hU HB.out) hb); have O4 := Aside0.mk hown; clear hb hown hg) | ((with_reducible refine gate_dst (N := 11) rfl ?_); refine map_event (P := Try.prog) 26 (plainElem Try.prog 3) ?hg ?hr ?_; (case hg => rfl); (case hr => first | (go_simp; done) | (go_simp; rfl)); intro m5 hg V5 hown hb; have hlt_ := O4.out.lt; rw [← hg] at hlt_; have NM := Aside0.mk (Nat.ne_of_lt hlt_); clear hlt_; have hge_ := below_size (hU HB.out); rw [← hg] at hge_; have GM5 := Aside0.mk hge_; clear hge_; replace B1 := Aside0.mk (blk_below (bU B1.out) hb); replace O4 := Aside0.mk (ownsMap_below O4.out hb); replace HB := Aside0.mk (below_step (hU HB.out) hb); have O5 := Aside0.mk hown; clear hb hown hg) | ((with_reducible refine gate_dst (N := 4) rfl ?_); refine box_event ?hg (N := 4) ?hd (cs := #[.map none]) (t := 121) ?hr ?_; (case hd => rfl); (case hg => rfl); (case hr => first | (go_simp; done) | (go_simp; rfl)); intro g4 hg W4 hbox hb; have hne_ := Nat.ne_of_lt (blk_lt (bU B1.out)); rw [← hg] at hne_; have N1_4 := Aside0.mk hne_; clear hne_; replace B1 := Aside0.mk (blk_below (bU B1.out) hb); replace O4 := Aside0.mk (ownsMap_below O4.out hb); replace O5 := Aside0.mk (ownsMap_below O5.out hb); have hge_ := below_size (hU HB.out); rw [← hg] at hge_; have G4 := Aside0.mk hge_; clear hge_; replace HB := Aside0.mk (below_step (hU HB.out) hb); have B4 := Aside0.mk hbox; clear hb hbox hg) | ((with_reducible refine gate_dst (N := 5) rfl ?_); refine box_event ?hg (N := 5) ?hd (cs := #[.map none]) (t := 121) ?hr ?_; (case hd => rfl); (case hg => rfl); (case hr => first | (go_simp; done) | (go_simp; rfl)); intro g5 hg W5 hbox hb; have hne_ := Nat.ne_of_lt (blk_lt (bU B1.out)); rw [← hg] at hne_; have N1_5 := Aside0.mk hne_; clear hne_; replace B1 := Aside0.mk (blk_below (bU B1.out) hb); have hne_ := Nat.ne_of_lt (blk_lt (bU B4.out)); rw [← hg] at hne_; have N4_5 := Aside0.mk hne_; clear hne_; replace B4 := Aside0.mk (blk_below (bU B4.out) hb); replace O4 := Aside0.mk (ownsMap_below O4.out hb); replace O5 := Aside0.mk (ownsMap_below O5.out hb); have hge_ := below_size (hU HB.out); rw [← hg] at hge_; have G5 := Aside0.mk hge_; clear hge_; replace HB := Aside0.mk (below_step (hU HB.out) hb); have B5 := Aside0.mk hbox; clear hb hbox hg; have hc1 := blk_cell B1.out; have hc4 := blk_cell B4.out; have hf4 := blk_frozen B4.out; have hc5 := blk_cell B5.out; have hf5 := blk_frozen B5.out; have n45 := N4_5.out; have n54 := Ne.symm N4_5.out))
  have b4 := blk_far (p := ⟨g5, 0, none⟩) (blk_put (cs' := #[.map (some m4)]) B4.out 0 (.map (some m4)) rfl) N4_5.out (.map (some m5))
  have b5 := blk_put (cs' := #[.map (some m5)]) (blk_far (p := ⟨g4, 0, none⟩) B5.out N4_5.out.symm (.map (some m4))) 0 (.map (some m5)) rfl
  have b1 := blk_far (p := ⟨g5, 0, none⟩) (blk_far (p := ⟨g4, 0, none⟩) B1.out N1_4.out (.map (some m4))) N1_5.out (.map (some m5))
  have hm4 := (O4.out.setCell (a := ⟨g4, 0, none⟩) (Ne.symm (ne_map O4.out B4.out)) (.map (some m4))).setCell (a := ⟨g5, 0, none⟩) (Ne.symm (ne_map O4.out B5.out)) (.map (some m5))
  have hm5 := (O5.out.setCell (a := ⟨g4, 0, none⟩) (Ne.symm (ne_map O5.out B4.out)) (.map (some m4))).setCell (a := ⟨g5, 0, none⟩) (Ne.symm (ne_map O5.out B5.out)) (.map (some m5))
  have hbb := (HB.out.setCell (p := ⟨g4, 0, none⟩) G4.out (.map (some m4))).setCell (p := ⟨g5, 0, none⟩) G5.out (.map (some m5))
  generalize ((W5.setCell ⟨g4, 0, none⟩ (.map (some m4))).setCell ⟨g5, 0, none⟩ (.map (some m5))) = W6 at b4 b5 b1 hm4 hm5 hbb ⊢
  clear B1 B4 B5 O4 O5 HB hc1 hc4 hf4 hc5 hf5
  have B1 := Aside0.mk b1
  have B4 := Aside0.mk b4
  have B5 := Aside0.mk b5
  have O4 := Aside0.mk hm4
  have O5 := Aside0.mk hm5
  have HB := Aside0.mk hbb
  clear b1 b4 b5 hm4 hm5 hbb n45 n54
  have hc1 := blk_cell B1.out
  go_wp2
  go_loopg [15] l1.length (fun kq v15 W => ∃ (i : Nat) (D4 D5 : DataW Unit), v15 = .int .i64 (i : Int) ∧ Aside0 (i + kq = l1.length) ∧ Aside0 (World.ownsMap W Try.prog 26 (plainElem Try.prog 3) m4 i D4) ∧ Aside0 (World.ownsMap W Try.prog 26 (plainElem Try.prog 3) m5 i D5) ∧ Aside0 (SaysI D4 (fstF l1 i)) ∧ Aside0 (SaysI D5 (lstF l1 i)) ∧ Aside0 (W.heap[g1]? = some (.cells #[.int .i64 a0, .slice A1 l1.length c1] 24 (0, 0))) ∧ Aside0 (W.heap[g4]? = some (.cells #[.map (some m4)] 121 (0, 0))) ∧ Aside0 (W.heap[g5]? = some (.cells #[.map (some m5)] 121 (0, 0))) ∧ Aside0 (Below w.heap.size w W))
  case atStart => exact ⟨0, _, _, rfl, ⟨by omega⟩, O4, O5, ⟨saysI_empty⟩, ⟨saysI_empty⟩, B1, B4, B5, HB⟩
  case round =>
    clear HB B1 B4 B5 O4 O5 hc1
    obtain ⟨i, D4, D5, rfl, HK, O4, O5, S4, S5, B1, B4, B5, HB⟩ := hrel
    cases gk with
    | zero =>
      have hi : i = l1.length := by have := HK.out; omega
      have hlt : decide (i < l1.length) = false := by simp; omega
      have hc1 := blk_cell B1.out
      have hs4 := S4.out
      have hs5 := S5.out
      rw [hi] at hs4 hs5
      have T4 := Aside0.mk hs4
      have T5 := Aside0.mk hs5
      have HF : Aside0 (∀ W, Below wr.heap.size wr W → ∀ j (h : j < l1.length), Calls Try.prog 92 (#[.int .i64 j, .agg (cE (l1[j]'h)).toArray] ++ #[.pointer (some ⟨g4, 0, none⟩), .pointer (some ⟨g5, 0, none⟩)]) W fun e W' => e = .returned (.bool (kpC l1 j)) ∧ Below W.heap.size W W') := ⟨fun W hb j hj => by
        have hok := HV.out _ (List.getElem_mem hj)
        have := compact1_calls j (l1[j]'hj) hok g4 g5 m4 m5 i D4 D5 _ _ W (blk_below B4.out hb) (blk_below B5.out hb) (ownsMap_below O4.out hb) (ownsMap_below O5.out hb) (T4.out _ _ hok.2.1 hok.2.2).1 (T5.out _ _ hok.2.1 hok.2.2).1
        unfold kpC
        rw [dif_pos hj]
        exact this⟩
      clear hi hs4 hs5
      go_wp2_with (first | ((with_reducible refine gate_callee (f := 90) rfl ?_); refine goesL_ (some 40) rfl rfl Try.func90 (by kernel_rfl) rfl #[.agg #[.int .i64 a0, .slice A1 l1.length c1], .func (.func 92) #[] #[.pointer (some ⟨g4, 0, none⟩), .pointer (some ⟨g5, 0, none⟩)]] rfl (by (try simp only [List.map_toArray, List.map_cons, List.map_nil]); first | done | (go_simp; done) | rfl) ?_; refine (written_calls 92 (eg_of Try.func92 (by kernel_rfl) rfl) #[.pointer (some ⟨g4, 0, none⟩), .pointer (some ⟨g5, 0, none⟩)] k (kpC l1) a0 A1 c1 l1 r0 r1 _ (Kd.C_below HR.out (hU HB.out)) HC.out HF.out HH.out).mono ?_; rintro e w2 ⟨v3, rfl, ho, hb⟩; refine ⟨_, rfl, ?_⟩; have HO := Aside0.mk (Kd.R_lower ho (below_size (hU HB.out))); replace HB := Aside0.mk (below_step (hU HB.out) hb); clear hb ho))
      go_ret2
      exact ⟨_, rfl, HO.out, hU HB.out⟩
    | succ k1 =>
      have hi : i < l1.length := by have := HK.out; omega
      have hlt : decide (i < l1.length) = true := by simp; exact hi
      obtain ⟨adx, e0x, hx0, hx1, hx2, hx3, hx4, hx5, hx6, hx7, hx8, hx9, hx10, hx11, hx12⟩ := at_T30 HR.out (i : Int) (by omega) (by omega)
      cases e0x
      rw [Int.toNat_natCast] at hx0 hx1 hx2 hx3 hx4 hx5 hx6 hx7 hx8 hx9 hx10 hx11 hx12
      rw [rd30_at hi] at hx0 hx1 hx2 hx3 hx4 hx5 hx6 hx7 hx8 hx9 hx10 hx11 hx12
      replace hx0 := (HB.out.cell (World.block_lt_of_cell? w _ hx0)).trans hx0
      replace hx1 := (HB.out.cell (World.block_lt_of_cell? w _ hx1)).trans hx1
      replace hx2 := (HB.out.cell (World.block_lt_of_cell? w _ hx2)).trans hx2
      replace hx3 := (HB.out.cell (World.block_lt_of_cell? w _ hx3)).trans hx3
      replace hx4 := (HB.out.cell (World.block_lt_of_cell? w _ hx4)).trans hx4
      replace hx5 := (HB.out.cell (World.block_lt_of_cell? w _ hx5)).trans hx5
      replace hx6 := (HB.out.cell (World.block_lt_of_cell? w _ hx6)).trans hx6
      replace hx7 := (HB.out.cell (World.block_lt_of_cell? w _ hx7)).trans hx7
      replace hx8 := (HB.out.cell (World.block_lt_of_cell? w _ hx8)).trans hx8
      replace hx9 := (HB.out.cell (World.block_lt_of_cell? w _ hx9)).trans hx9
      replace hx10 := (HB.out.cell (World.block_lt_of_cell? w _ hx10)).trans hx10
      replace hx11 := (HB.out.cell (World.block_lt_of_cell? w _ hx11)).trans hx11
      replace hx12 := (HB.out.cell (World.block_lt_of_cell? w _ hx12)).trans hx12
      have q0 : (0 ≤ ((i : Nat) : Int)) = True := by simp
      have q1 : (((i : Nat) : Int) < (l1.length : Int)) = True := by simp; exact hi
      have HE := Aside0.mk (HV.out _ (List.getElem_mem hi))
      have hn := @fst_new l1 i hi
      have ho := @fst_old l1 i hi
      have hln := @lst_new l1 i hi
      generalize l1[i]'hi = x at hx0 hx1 hx2 hx3 hx4 hx5 hx6 hx7 hx8 hx9 hx10 hx11 hx12 HE hn ho hln
      have HI := Aside0.mk hi
      have FN := Aside0.mk hn
      have FO := Aside0.mk ho
      have LN := Aside0.mk hln
      clear hi hn ho hln
      go_upto_region 5 with (fail)
      have HB1 : Aside0 (Below w.heap.size w (wr.alloc (.cells #[.int .i64 x.f0.f0, .int .i64 x.f0.f1, .int .i64 x.f1, .int .i64 x.f2.f0, .int .i64 x.f2.f1, .bool x.f3, .int .i64 x.f4.f0, .int .i64 x.f4.f1, .int .i64 x.f4.f2, .int .i64 x.f4.f3, .int .i64 x.f4.f4, .int .i64 x.f4.f5, .int .i64 x.f4.f6] 30))) := ⟨below_alloc HB.out _⟩
      have B7 : Aside0 ((wr.alloc (.cells #[.int .i64 x.f0.f0, .int .i64 x.f0.f1, .int .i64 x.f1, .int .i64 x.f2.f0, .int .i64 x.f2.f1, .bool x.f3, .int .i64 x.f4.f0, .int .i64 x.f4.f1, .int .i64 x.f4.f2, .int .i64 x.f4.f3, .int .i64 x.f4.f4, .int .i64 x.f4.f5, .int .i64 x.f4.f6] 30)).heap[wr.heap.size]? = some (.cells #[.int .i64 x.f0.f0, .int .i64 x.f0.f1, .int .i64 x.f1, .int .i64 x.f2.f0, .int .i64 x.f2.f1, .bool x.f3, .int .i64 x.f4.f0, .int .i64 x.f4.f1, .int .i64 x.f4.f2, .int .i64 x.f4.f3, .int .i64 x.f4.f4, .int .i64 x.f4.f5, .int .i64 x.f4.f6] 30 (0, 0))) := ⟨blk_new _ _⟩
      have B11 : Aside0 ((wr.alloc (.cells #[.int .i64 x.f0.f0, .int .i64 x.f0.f1, .int .i64 x.f1, .int .i64 x.f2.f0, .int .i64 x.f2.f1, .bool x.f3, .int .i64 x.f4.f0, .int .i64 x.f4.f1, .int .i64 x.f4.f2, .int .i64 x.f4.f3, .int .i64 x.f4.f4, .int .i64 x.f4.f5, .int .i64 x.f4.f6] 30)).heap[g1]? = some (.cells #[.int .i64 a0, .slice (some adx) l1.length c1] 24 (0, 0))) := ⟨blk_alloc B1.out _⟩
      have B41 : Aside0 ((wr.alloc (.cells #[.int .i64 x.f0.f0, .int .i64 x.f0.f1, .int .i64 x.f1, .int .i64 x.f2.f0, .int .i64 x.f2.f1, .bool x.f3, .int .i64 x.f4.f0, .int .i64 x.f4.f1, .int .i64 x.f4.f2, .int .i64 x.f4.f3, .int .i64 x.f4.f4, .int .i64 x.f4.f5, .int .i64 x.f4.f6] 30)).heap[g4]? = some (.cells #[.map (some m4)] 121 (0, 0))) := ⟨blk_alloc B4.out _⟩
      have B51 : Aside0 ((wr.alloc (.cells #[.int .i64 x.f0.f0, .int .i64 x.f0.f1, .int .i64 x.f1, .int .i64 x.f2.f0, .int .i64 x.f2.f1, .bool x.f3, .int .i64 x.f4.f0, .int .i64 x.f4.f1, .int .i64 x.f4.f2, .int .i64 x.f4.f3, .int .i64 x.f4.f4, .int .i64 x.f4.f5, .int .i64 x.f4.f6] 30)).heap[g5]? = some (.cells #[.map (some m5)] 121 (0, 0))) := ⟨blk_alloc B5.out _⟩
      have O41 : Aside0 (World.ownsMap (H := Unit) (wr.alloc (.cells #[.int .i64 x.f0.f0, .int .i64 x.f0.f1, .int .i64 x.f1, .int .i64 x.f2.f0, .int .i64 x.f2.f1, .bool x.f3, .int .i64 x.f4.f0, .int .i64 x.f4.f1, .int .i64 x.f4.f2, .int .i64 x.f4.f3, .int .i64 x.f4.f4, .int .i64 x.f4.f5, .int .i64 x.f4.f6] 30)) Try.prog 26 (plainElem Try.prog 3) m4 i D4) := ⟨O4.out.alloc _⟩
      have O51 : Aside0 (World.ownsMap (H := Unit) (wr.alloc (.cells #[.int .i64 x.f0.f0, .int .i64 x.f0.f1, .int .i64 x.f1, .int .i64 x.f2.f0, .int .i64 x.f2.f1, .bool x.f3, .int .i64 x.f4.f0, .int .i64 x.f4.f1, .int .i64 x.f4.f2, .int .i64 x.f4.f3, .int .i64 x.f4.f4, .int .i64 x.f4.f5, .int .i64 x.f4.f6] 30)) Try.prog 26 (plainElem Try.prog 3) m5 i D5) := ⟨O5.out.alloc _⟩
      generalize (wr.alloc (.cells #[.int .i64 x.f0.f0, .int .i64 x.f0.f1, .int .i64 x.f1, .int .i64 x.f2.f0, .int .i64 x.f2.f1, .bool x.f3, .int .i64 x.f4.f0, .int .i64 x.f4.f1, .int .i64 x.f4.f2, .int .i64 x.f4.f3, .int .i64 x.f4.f4, .int .i64 x.f4.f5, .int .i64 x.f4.f6] 30)) = W1 at HB1 B7 B11 B41 B51 O41 O51 ⊢
      generalize wr.heap.size = g7 at B7 ⊢
      clear HB B1 B4 B5 O4 O5 hx0 hx1 hx2 hx3 hx4 hx5 hx6 hx7 hx8 hx9 hx10 hx11 hx12
      have hc7 := blk_cell B7.out
      have hc4 := blk_cell B41.out
      have hc5 := blk_cell B51.out
      obtain ⟨sb, hsb⟩ : ∃ sb, fstF l1 i x.f2.f0 x.f2.f1 = sb := ⟨_, rfl⟩
      have HAT : Aside0 (D4.atKey (kT x.f2.f0 x.f2.f1) (.lit (.int .i64 0)) = .lit (.int .i64 ((sb.getD 0 : Nat) : Int)) ∧ Maps.has D4 (kT x.f2.f0 x.f2.f1) = sb.isSome) := ⟨by have := S4.out _ _ HE.out.2.1 HE.out.2.2; rw [hsb] at this; exact this⟩
      have HP5 : Aside0 (SaysI (D5.put (kT x.f2.f0 x.f2.f1) (.lit (.int .i64 (i : Int)))) (lstF l1 (i + 1))) := ⟨by have := saysI_put S5.out O51.out.isMap HE.out.2.1 HE.out.2.2 i; rw [LN.out] at this; exact this⟩
      cases sb with
      | none =>
        have HP4 : Aside0 (SaysI (D4.put (kT x.f2.f0 x.f2.f1) (.lit (.int .i64 (i : Int)))) (fstF l1 (i + 1))) := ⟨by have := saysI_put S4.out O41.out.isMap HE.out.2.1 HE.out.2.2 i; rw [FN.out hsb] at this; exact this⟩
        clear hsb
        have HA1 := Aside0.mk (show D4.atKey (kT x.f2.f0 x.f2.f1) (.lit (.int .i64 0)) = .lit (.int .i64 0) from HAT.out.1)
        have HA2 := Aside0.mk (show Maps.has D4 (kT x.f2.f0 x.f2.f1) = false from HAT.out.2)
        go_wp2_with (first | ((with_reducible refine gate_dst (N := 24) rfl ?_); refine wpList_lookup_okI _ rfl _ _ 121 rfl 26 3 lawT Try.underlying121 Try.underlying3 (zeroI _) m4 i D4 rfl O41.out (.agg #[.int .i64 x.f2.f0, .int .i64 x.f2.f1]) _ rfl (keyOf_T HE.out.2.1 HE.out.2.2) 0 HA1.out false HA2.out ?_) | ((with_reducible refine gate_upd (x := 31) rfl ?_); refine wpList_mapUpdate_own _ rfl _ _ _ 121 rfl 26 3 lawT Try.underlying121 _ m4 i D4 rfl O41.out (by unfold maxLen; have := HL.out; have := HI.out; omega) (.agg #[.int .i64 x.f2.f0, .int .i64 x.f2.f1]) (.int .i64 (i : Int)) _ rfl rfl (keyOf_T HE.out.2.1 HE.out.2.2) _ [] (plainElem_int Try.underlying3 (okN_small i (by have := HL.out; have := HI.out; omega))) ?_; intro w1 hown1 hgrow1; have O42 := Aside0.mk hown1; have O51' : Aside0 (World.ownsMap (H := Unit) w1 Try.prog 26 (plainElem Try.prog 3) m5 i D5) := ⟨O51.out.kept hgrow1 (fun e => NM.out (Option.some.inj e).symm)⟩; have B12 := Aside0.mk (blk_map B11.out O41.out hgrow1); have B42 := Aside0.mk (blk_map B41.out O41.out hgrow1); have B52 := Aside0.mk (blk_map B51.out O41.out hgrow1); have HB2 := Aside0.mk (HB1.out.grown hgrow1 (below_size HB1.out) (fun j hj => by cases hj; exact GM4.out)); have B72 := Aside0.mk (blk_map B7.out O41.out hgrow1); clear hown1 hgrow1 hc7 hc4 hc5; have hc7 := blk_cell B72.out; have hc5 := blk_cell B52.out) | ((with_reducible refine gate_upd (x := 35) rfl ?_); refine wpList_mapUpdate_own _ rfl _ _ _ 121 rfl 26 3 lawT Try.underlying121 _ m5 i D5 rfl O51'.out (by unfold maxLen; have := HL.out; have := HI.out; omega) (.agg #[.int .i64 x.f2.f0, .int .i64 x.f2.f1]) (.int .i64 (i : Int)) _ rfl rfl (keyOf_T HE.out.2.1 HE.out.2.2) _ [] (plainElem_int Try.underlying3 (okN_small i (by have := HL.out; have := HI.out; omega))) ?_; intro w2 hown1 hgrow1; have O52 := Aside0.mk hown1; have B13 := Aside0.mk (blk_map B12.out O51'.out hgrow1); have B43 := Aside0.mk (blk_map B42.out O51'.out hgrow1); have B53 := Aside0.mk (blk_map B52.out O51'.out hgrow1); have HB3 := Aside0.mk (HB2.out.grown hgrow1 (below_size HB2.out) (fun j hj => by cases hj; exact GM5.out)); replace O42 := Aside0.mk (O42.out.kept hgrow1 (fun e => NM.out (Option.some.inj e))); clear hown1 hgrow1))
        go_roundg k1
        case measure => have := HK.out; omega
        case rel => exact ⟨i + 1, _, _, by first | (simp; done) | (simp; unfold wrap64; have := HL.out; have := HI.out; omega), ⟨by have := HK.out; omega⟩, O42, O52, HP4, HP5, B13, B43, B53, HB3⟩
      | some j =>
        have HP4 : Aside0 (SaysI D4 (fstF l1 (i + 1))) := ⟨by rw [← FO.out (by rw [hsb]; rfl)]; exact S4.out⟩
        clear hsb
        have HA1 := Aside0.mk (show D4.atKey (kT x.f2.f0 x.f2.f1) (.lit (.int .i64 0)) = .lit (.int .i64 (j : Int)) from HAT.out.1)
        have HA2 := Aside0.mk (show Maps.has D4 (kT x.f2.f0 x.f2.f1) = true from HAT.out.2)
        have HB2 := HB1
        have B12 := B11
        have B42 := B41
        have B52 := B51
        have O42 : Aside0 (World.ownsMap (H := Unit) W1 Try.prog 26 (plainElem Try.prog 3) m4 (i + 1) D4) := ⟨O41.out.mono (Nat.le_succ _)⟩
        have O51' := O51
        go_wp2_with (first | ((with_reducible refine gate_dst (N := 24) rfl ?_); refine wpList_lookup_okI _ rfl _ _ 121 rfl 26 3 lawT Try.underlying121 Try.underlying3 (zeroI _) m4 i D4 rfl O41.out (.agg #[.int .i64 x.f2.f0, .int .i64 x.f2.f1]) _ rfl (keyOf_T HE.out.2.1 HE.out.2.2) (j : Int) HA1.out true HA2.out ?_) | ((with_reducible refine gate_upd (x := 35) rfl ?_); refine wpList_mapUpdate_own _ rfl _ _ _ 121 rfl 26 3 lawT Try.underlying121 _ m5 i D5 rfl O51'.out (by unfold maxLen; have := HL.out; have := HI.out; omega) (.agg #[.int .i64 x.f2.f0, .int .i64 x.f2.f1]) (.int .i64 (i : Int)) _ rfl rfl (keyOf_T HE.out.2.1 HE.out.2.2) _ [] (plainElem_int Try.underlying3 (okN_small i (by have := HL.out; have := HI.out; omega))) ?_; intro w2 hown1 hgrow1; have O52 := Aside0.mk hown1; have B13 := Aside0.mk (blk_map B12.out O51'.out hgrow1); have B43 := Aside0.mk (blk_map B42.out O51'.out hgrow1); have B53 := Aside0.mk (blk_map B52.out O51'.out hgrow1); have HB3 := Aside0.mk (HB2.out.grown hgrow1 (below_size HB2.out) (fun j hj => by cases hj; exact GM5.out)); have O43 := Aside0.mk (O42.out.kept hgrow1 (fun e => NM.out (Option.some.inj e))); clear hown1 hgrow1))
        go_roundg k1
        case measure => have := HK.out; omega
        case rel => exact ⟨i + 1, _, _, by first | (simp; done) | (simp; unfold wrap64; have := HL.out; have := HI.out; omega), ⟨by have := HK.out; omega⟩, O43, O52, HP4, HP5, B13, B43, B53, HB3⟩
end Go.Proofs.Yteopkkoblbmggaa.P
end
