/- Texts of this claim in one: VTake; no condition. -/
import Derived.Test.YteopkkoblbmggaaUAD
import Derived.Test.YteopkkoblbmggaaUAL
import Derived.Test.YteopkkoblbmggaaUAF
import Derived.Deep.Light
section
set_option linter.unusedVariables false
set_option linter.unusedSimpArgs false
namespace Go.Proofs.Yteopkkoblbmggaa.P
open Go.RowKit Go.Proofs.YteopkkoblbmggaaW.PrintWords Go.Proofs.YteopkkoblbmggaaW.PrintLast Go.Proofs.YteopkkoblbmggaaW.PrintMore
theorem w64 (x : Int) (h0 : -9223372036854775808 ≤ x) (h1 : x ≤ 9223372036854775807) : IntKind.i64.wrap x = x := (i64_w x).trans (by unfold wrap64; omega)
/-- n whole numbers at the beginning of some bytes, the bytes behind them, and the error. -/
def tks (k : Nat) : Nat → List Int → Option (List Int × List Int × Int)
  | 0, l => some ([], l, 0)
  | n + 1, l => (wire_TakeInt.f k l).bind fun t => if t.2.2 = 0 then (if 0 ≤ t.2.1 then (if t.2.1 ≤ l.length then (tks k n (l.drop t.2.1.toNat)).bind fun u => some (if u.2.2 = 0 then (t.1 :: u.1, u.2.1, 0) else ([], [], u.2.2)) else none) else none) else some ([], [], t.2.2)
theorem tks_mono : ∀ n k l, LeO (tks k n l) (tks (k + 1) n l)
  | 0, _, _ => LeO.refl _
  | n + 1, k, l => by
    unfold tks
    refine LeO.bind (wire_TakeInt.mono _ _) fun t => LeO.ite (LeO.ite (LeO.ite (LeO.bind (tks_mono n k _) fun _ => LeO.refl _) (LeO.none _)) (LeO.none _)) (LeO.refl _)
theorem tks_len (k : Nat) : ∀ n l xs rest, tks k n l = some (xs, rest, 0) → xs.length = n
  | 0, l, xs, rest, h => by
    simp only [tks, Option.some.injEq, Prod.mk.injEq] at h
    rw [← h.1]; rfl
  | n + 1, l, xs, rest, h => by
    unfold tks at h
    obtain ⟨t, h1, h⟩ := Option.bind_eq_some_iff.mp h
    split at h
    · split at h
      · split at h
        · obtain ⟨⟨u1, u2, u3⟩, h2, h⟩ := Option.bind_eq_some_iff.mp h
          by_cases h3 : u3 = 0
          · subst h3
            simp only [if_true, Option.some.injEq, Prod.mk.injEq] at h
            rw [← h.1, List.length_cons, tks_len k n _ _ _ h2]
          · simp only [if_neg h3, Option.some.injEq, Prod.mk.injEq] at h
            exact absurd h.2.2 h3
        · cases h
      · cases h
    · rename_i h3
      simp only [Option.some.injEq, Prod.mk.injEq] at h
      exact absurd h.2.2 h3
theorem tks_err (k : Nat) : ∀ n l xs rest e, tks k n l = some (xs, rest, e) → e ≠ 0 → xs = [] ∧ rest = []
  | 0, l, xs, rest, e, h, he => by
    simp only [tks, Option.some.injEq, Prod.mk.injEq] at h
    exact absurd h.2.2.symm he
  | n + 1, l, xs, rest, e, h, he => by
    unfold tks at h
    obtain ⟨t, h1, h⟩ := Option.bind_eq_some_iff.mp h
    split at h
    · split at h
      · split at h
        · obtain ⟨⟨u1, u2, u3⟩, h2, h⟩ := Option.bind_eq_some_iff.mp h
          by_cases h3 : u3 = 0
          · subst h3
            simp only [if_true, Option.some.injEq, Prod.mk.injEq] at h
            exact absurd h.2.2.symm he
          · simp only [if_neg h3, Option.some.injEq, Prod.mk.injEq] at h
            exact ⟨h.1.symm, h.2.1.symm⟩
        · cases h
      · cases h
    · simp only [Option.some.injEq, Prod.mk.injEq] at h
      exact ⟨h.1.symm, h.2.1.symm⟩
/-- What the block g holds behind some stores. -/
def upd (g : Nat) (ds : List ((Nat × Nat) × Int)) (cs : Array Value) : Array Value := ds.foldl (fun cs d => if d.1.1 = g then cs.setIfInBounds d.1.2 (.int .i64 d.2) else cs) cs
theorem upd_size (g : Nat) : ∀ ds cs, (upd g ds cs).size = cs.size
  | [], _ => rfl
  | d :: ds, cs => by
    show (upd g ds (if d.1.1 = g then cs.setIfInBounds d.1.2 (.int .i64 d.2) else cs)).size = _
    rw [upd_size g ds]
    split <;> simp
theorem upd_none (g : Nat) : ∀ ds cs, (∀ d ∈ ds, d.1.1 ≠ g) → upd g ds cs = cs
  | [], _, _ => rfl
  | d :: ds, cs, h => by
    show upd g ds (if d.1.1 = g then cs.setIfInBounds d.1.2 (.int .i64 d.2) else cs) = _
    rw [if_neg (h d (by simp)), upd_none g ds cs fun d' hd => h d' (by simp [hd])]
theorem upd_snoc (g : Nat) (ds : List ((Nat × Nat) × Int)) (d : (Nat × Nat) × Int) (cs : Array Value) : upd g (ds ++ [d]) cs = if d.1.1 = g then (upd g ds cs).setIfInBounds d.1.2 (.int .i64 d.2) else upd g ds cs := by
  unfold upd
  rw [List.foldl_append]
  rfl
def places (ps : List (Nat × Nat)) : Array Value := (ps.map fun p => Value.pointer (some ⟨p.1, p.2, none⟩)).toArray
set_option maxHeartbeats 1000000 in
set_option maxRecDepth 100000 in
theorem edits_take.calls (k : Nat) (w0 : World) (ps : List (Nat × Nat)) (gp : Nat) (A0 : Option Addr) (c0 : Nat) (l0 : List Int) (xs rest : List Int) (err : Int) (w : World) (hr0 : Kd.C (Kd.int .u8) w0 A0 l0.length l0) (hc0 : l0.length ≤ c0) (hb : Below w0.heap.size w0 w) (hn : ps.length < 100)
    (hg : w0.heap.size ≤ gp) (hp : ∃ t, w.heap[gp]? = some (.cells (places ps) t (0, 0)))
    (hl : ∀ p ∈ ps, w0.heap.size ≤ p.1 ∧ p.1 ≠ gp ∧ ∃ cs t, w.heap[p.1]? = some (.cells cs t (0, 0)) ∧ p.2 < cs.size)
    (h : tks k ps.length l0 = some (xs, rest, err)) :
    Calls Try.prog 117 #[.slice A0 l0.length c0, .slice (some ⟨gp, 0, none⟩) ps.length ps.length] w fun e w' => ∃ A c, e = .returned (.tuple #[.slice A rest.length c, .int .i64 err]) ∧ rest.length ≤ c ∧ Kd.C (Kd.int .u8) w0 A rest.length rest ∧ Below w0.heap.size w0 w' ∧
      (∀ g cs t, w0.heap.size ≤ g → (∀ p ∈ ps, p.1 ≠ g) → w.heap[g]? = some (.cells cs t (0, 0)) → w'.heap[g]? = some (.cells cs t (0, 0))) ∧
      (err = 0 → ∀ g cs t, w0.heap.size ≤ g → w.heap[g]? = some (.cells cs t (0, 0)) → w'.heap[g]? = some (.cells (upd g (ps.zip xs) cs) t (0, 0))) := by
  have HR0 := Aside0.mk hr0
  have HC0 := Aside0.mk hc0
  have HB0 := Aside0.mk hb
  have HP := Aside0.mk hp
  have HL := Aside0.mk hl
  have H := Aside0.mk h
  clear hr0 hc0 hb hp hl h
  go_enter Try.func117, Try.ntmps117
  go_wp2
  go_loopg [6, 15] ps.length (fun kq v6 v15 W => ∃ (left : List Int) (A : Option Addr) (c : Nat) (ds : List ((Nat × Nat) × Int)), v6 = .slice A left.length c ∧ v15 = .int .i64 (ds.length : Int) ∧ Aside0 (ds.length + kq = ps.length) ∧ Aside0 (ds.map (·.1) = ps.take ds.length) ∧ Aside0 (left.length ≤ c) ∧ Aside0 (Kd.C (Kd.int .u8) w0 A left.length left) ∧ Aside0 (∃ u, tks k kq left = some u ∧ (xs, rest, err) = if u.2.2 = 0 then (ds.map (·.2) ++ u.1, u.2.1, 0) else ([], [], u.2.2)) ∧ Aside0 (Below w0.heap.size w0 W) ∧ Aside0 (∀ g cs t, w0.heap.size ≤ g → w.heap[g]? = some (.cells cs t (0, 0)) → W.heap[g]? = some (.cells (upd g ds cs) t (0, 0))))
  case atStart =>
    refine ⟨l0, A0, c0, [], rfl, rfl, ⟨by simp⟩, ⟨rfl⟩, HC0, HR0, ⟨_, H.out, ?_⟩, ⟨?_⟩, ⟨?_⟩⟩
    · by_cases h0 : err = 0
      · simp [h0]
      · obtain ⟨rfl, rfl⟩ := tks_err k _ _ _ _ _ H.out h0
        simp [h0]
    · exact HB0.out
    · exact fun g cs t _ hh => hh
  case round =>
    obtain ⟨left, A, c, ds, rfl, rfl, HK, HD, HC, HR, HT, HB, HW⟩ := hrel
    have HN : Aside0 (∀ (g : Nat) cs t, w0.heap.size ≤ g → (∀ p ∈ ps, p.1 ≠ g) → w.heap[g]? = some (.cells cs t (0, 0)) → wr.heap[g]? = some (.cells cs t (0, 0))) := by
      refine ⟨fun g cs t hgg hne hh => ?_⟩
      have h6 := HW.out g cs t hgg hh
      rwa [upd_none g ds _ (by
        intro d hd
        have h1 : d.1 ∈ ds.map (·.1) := List.mem_map_of_mem hd
        rw [HD.out] at h1
        exact hne d.1 (List.mem_of_mem_take h1))] at h6
    cases gk with
    | zero =>
      have hlen : (ds.length : Int) = (ps.length : Int) := by have := HK.out; omega
      have hlt : decide ((ds.length : Int) < (ps.length : Int)) = false := by simp; omega
      have hkz : ds.length = ps.length := by have := HK.out; omega
      obtain ⟨⟨u1, u2, u3⟩, hu, he⟩ := HT.out
      simp only [tks, Option.some.injEq, Prod.mk.injEq] at hu
      obtain ⟨rfl, rfl, rfl⟩ := hu
      simp only [if_true, List.append_nil, Prod.mk.injEq] at he
      obtain ⟨rfl, rfl, rfl⟩ := he
      have hz : ps.zip (ds.map (·.2)) = ds := by
        have h1 := HD.out
        rw [hkz, List.take_length] at h1
        rw [← h1, List.zip_map']
        simp
      go_wp2
      go_ret2
      refine ⟨A, c, rfl, HC.out, HR.out, HB.out, by first | exact HN.out | exact fun g cs t hgg hne => HN.out g cs t hgg (fun q hq => hne q.1 q.2 hq), ?_⟩
      first
      | exact HW.out
      | (intro _; exact HW.out)
      | (rw [hz]; exact fun _ => HW.out)
    | succ k1 =>
      have hlt : decide ((ds.length : Int) < (ps.length : Int)) = true := by have := HK.out; simp; omega
      obtain ⟨p, hpe⟩ : ∃ p, ps[ds.length]? = some p := ⟨ps[ds.length]'(by have := HK.out; omega), List.getElem?_eq_getElem _⟩
      have hpm : p ∈ ps := List.mem_of_getElem? hpe
      obtain ⟨tp, hP⟩ := HP.out
      have hPW := HW.out gp _ _ hg hP
      rw [upd_none gp ds _ (by
        intro d hd
        have h1 : d.1 ∈ ds.map (·.1) := List.mem_map_of_mem hd
        rw [HD.out] at h1
        exact (HL.out d.1 (List.mem_of_mem_take h1)).2.1)] at hPW
      have hx : wr.cell? ⟨gp, ds.length, none⟩ = some (.pointer (some ⟨p.1, p.2, none⟩)) := by
        have h2 : ∃ h : ds.length < ps.length, ps[ds.length] = p := List.getElem?_eq_some_iff.1 hpe
        obtain ⟨h2, h3⟩ := h2
        rw [blk_cell hPW ds.length]
        simp [places, h2, h3]
      have q0 : (0 ≤ ((ds.length : Nat) : Int)) = True := by simp
      have q1 : (((ds.length : Nat) : Int) < (ps.length : Int)) = True := by simp; have := HK.out; omega
      obtain ⟨⟨u1, u2, u3⟩, hu, he⟩ := HT.out
      unfold tks at hu
      obtain ⟨⟨x, m, e1⟩, h1, hu⟩ := Option.bind_eq_some_iff.mp hu
      dsimp only at hu
      have HI := Aside0.mk h1
      have HE := Aside0.mk he
      clear h1 he HT
      by_cases he1 : e1 = 0
      · subst he1
        rw [if_pos rfl] at hu
        by_cases hm0 : 0 ≤ m
        · rw [if_pos hm0] at hu
          by_cases hm1 : m ≤ (left.length : Int)
          · rw [if_pos hm1] at hu
            have HU := Aside0.mk hu
            clear hu
            go_wp2_with (first | (go_at_call 148; refine (wire_TakeInt.calls k _ _ left x m 0 _ (Kd.C_below HR.out HB.out) HC.out HI.out).mono ?_; rintro e w5 ⟨rfl, hd⟩; have HD5 := Aside0.mk hd; clear hd))
            have HF : ∀ (g : Nat) (o : Obj), wr.heap[g]? = some o → w5.drew.heap[g]? = some o := by
              intro g o hh
              obtain ⟨nd, rfl⟩ := HD5.out
              exact blk_drew (blk_drewN hh nd)
            have HB5 : Aside0 (Below w0.heap.size w0 w5.drew) := by
              obtain ⟨nd, rfl⟩ := HD5.out
              exact ⟨below_drew1 (pw_below_drewN HB.out _)⟩
            obtain ⟨hpb, hpg, cs0, t0, hpc, hps⟩ := HL.out p hpm
            have hold := HF _ _ (HW.out p.1 cs0 t0 hpb hpc)
            obtain ⟨i0, hi0, _, hsz, _⟩ := info_parts info5
            have hcut := cut_from (P := Try.prog) 60 5 .i64 Try.underlying60 hi0 1 hsz A left.length c m hm0 hm1
            have hC2 := Kd.C_drop (c := c) (m := m.toNat) HR.out (by omega) HC.out
            obtain ⟨A2, hA2⟩ : ∃ A2, A2 = (if c = m.toNat then A else A.map (·.add (m.toNat * 1))) := ⟨_, rfl⟩
            obtain ⟨l2, hl2⟩ : ∃ l2, l2 = left.drop m.toNat := ⟨_, rfl⟩
            have hl2n : l2.length = left.length - m.toNat := by rw [hl2, List.length_drop]
            obtain ⟨c2, hc2⟩ : ∃ c2, c2 = c - m.toNat := ⟨_, rfl⟩
            have hC3 : Aside0 (Kd.C (Kd.int .u8) w0 A2 l2.length l2) := ⟨by rw [hA2, hl2]; exact hC2⟩
            have hC4 : Aside0 (l2.length ≤ c2) := ⟨by rw [hl2n, hc2]; exact Nat.sub_le_sub_right HC.out _⟩
            rw [← hA2, ← hl2n, ← hc2] at hcut
            have hA2' := Aside0.mk hA2
            have hc2' := Aside0.mk hc2
            have hl2' := Aside0.mk hl2
            clear hA2 hc2 hl2 hC2
            refine start_ (n := 8) (S := fun _ => True) (ds := []) #[false, false, false, false, false, false, false, false] rfl rfl rfl trivial (fun hHeld => ?_)
            generalize w5.drew = w6 at HF HB5 hold ⊢
            refine pure_ (i := 0) (N := some 28) (v := ?_) (a' := ?_) #[true, false, false, false, false, false, false, false] rfl rfl (by kernel_rfl) (fun _ _ _ h => h) (Or.inl ⟨by rfl, ?_⟩) ?_ ?_
            rotate_left
            · intro w'
              go_simp
              first | with_reducible rfl | exact hcut w' | (rw [hcut w']; rfl)
            rotate_left
            · simp only [Act.put, List.setIfInBounds_toArray, List.set_cons_zero, List.set_cons_succ, i64_w, i32_w]
              rfl
            refine pure_ (i := 1) (N := some 29) (v := ?_) (a' := ?_) #[true, true, false, false, false, false, false, false] rfl rfl (by kernel_rfl) (fun _ _ _ h => h) (Or.inl ⟨by rfl, ?_⟩) ?_ ?_
            rotate_left
            · intro w'
              go_simp
              first | with_reducible rfl | exact hcut w' | (rw [hcut w']; rfl)
            rotate_left
            · simp only [Act.put, List.setIfInBounds_toArray, List.set_cons_zero, List.set_cons_succ, i64_w, i32_w]
              rfl
            refine pure_ (i := 2) (N := some 30) (v := ?_) (a' := ?_) #[true, true, true, false, false, false, false, false] rfl rfl (by kernel_rfl) (fun _ _ _ h => h) (Or.inl ⟨by rfl, ?_⟩) ?_ ?_
            rotate_left
            · intro w'
              go_simp
              first | with_reducible rfl | exact hcut w' | (rw [hcut w']; rfl)
            rotate_left
            · simp only [Act.put, List.setIfInBounds_toArray, List.set_cons_zero, List.set_cons_succ, i64_w, i32_w]
              rfl
            refine pure_ (i := 3) (N := some 31) (v := ?_) (a' := ?_) #[true, true, true, true, false, false, false, false] rfl rfl (by kernel_rfl) (fun _ _ _ h => h) (Or.inl ⟨by rfl, ?_⟩) ?_ ?_
            rotate_left
            · intro w'
              go_simp
              first | with_reducible rfl | exact hcut w' | (rw [hcut w']; rfl)
            rotate_left
            · simp only [Act.put, List.setIfInBounds_toArray, List.set_cons_zero, List.set_cons_succ, i64_w, i32_w]
              rfl
            refine pure_ (i := 4) (N := some 32) (v := ?_) (a' := ?_) #[true, true, true, true, true, false, false, false] rfl rfl (by kernel_rfl) (fun _ _ _ h => h) (Or.inl ⟨by rfl, ?_⟩) ?_ ?_
            rotate_left
            · intro w'
              go_simp
              first | with_reducible rfl | exact hcut w' | (rw [hcut w']; rfl)
            rotate_left
            · simp only [Act.put, List.setIfInBounds_toArray, List.set_cons_zero, List.set_cons_succ, i64_w, i32_w]
              rfl
            refine pure_ (i := 5) (N := some 33) (v := ?_) (a' := ?_) #[true, true, true, true, true, true, false, false] rfl rfl (by kernel_rfl) (fun _ _ _ h => h) (Or.inl ⟨by rfl, ?_⟩) ?_ ?_
            rotate_left
            · intro w'
              go_simp
              first | with_reducible rfl | exact hcut w' | (rw [hcut w']; rfl)
            rotate_left
            · simp only [Act.put, List.setIfInBounds_toArray, List.set_cons_zero, List.set_cons_succ, i64_w, i32_w]
              rfl
            refine one_ (i := 6) (N := none) #[true, true, true, true, true, true, true, false] rfl rfl (by kernel_rfl) (by decide) (fun K hK => ?_)
            have hc6 : w6.cell? ⟨p.1, p.2, none⟩ = (upd p.1 ds cs0)[p.2]? := blk_cell hold p.2
            obtain ⟨old, hold2⟩ : ∃ v, (upd p.1 ds cs0)[p.2]? = some v := ⟨_, Array.getElem?_eq_getElem (by rw [upd_size]; exact hps)⟩
            rw [hold2] at hc6
            have hf6 := blk_frozen hold p.2
            rw [if_pos (by rfl)]
            go_wp2
            refine hK.out _ _ trivial (fun _ => ?_)
            refine pure_ (i := 7) (N := some 6) (v := ?_) (a' := ?_) #[true, true, true, true, true, true, true, true] rfl rfl (by kernel_rfl) (fun _ _ _ h => h) (Or.inl ⟨by rfl, ?_⟩) ?_ ?_
            rotate_left
            · intro w'
              go_simp
              with_reducible rfl
            rotate_left
            · simp only [Act.put, List.setIfInBounds_toArray, List.set_cons_zero, List.set_cons_succ, i64_w, i32_w]
              rfl
            refine done_ (by kernel_rfl) ?_
            have hwr : IntKind.i64.wrap ((ds.length : Nat) + 1 : Int) = (((ds ++ [(p, x)]).length : Nat) : Int) := by
              have h3 := w64 ((ds.length : Nat) + 1 : Int) (by omega) (by have := HK.out; omega)
              simp only [List.length_append, List.length_cons, List.length_nil]
              exact h3
            go_wp2
            go_roundg k1
            case measure => exact Nat.lt_succ_self _
            case rel =>
              refine ⟨l2, A2, c2, ds ++ [(p, x)], by rw [hl2n], by simp, ⟨by have := HK.out; simp; omega⟩, ⟨?_⟩, hC4, hC3, ⟨?_⟩, ⟨by refine below_set ?_ hpb; exact HB5.out⟩, ⟨?_⟩⟩
              · rw [List.map_append, HD.out, List.length_append, List.length_singleton, List.take_add_one, hpe]
                rfl
              · obtain ⟨⟨v1, v2, v3⟩, hv, hu⟩ := Option.bind_eq_some_iff.mp HU.out
                refine ⟨(v1, v2, v3), by rw [hl2'.out]; exact hv, ?_⟩
                have he := HE.out
                dsimp only at he hu ⊢
                by_cases hv3 : v3 = 0
                · subst hv3
                  simp only [if_true, Option.some.injEq, Prod.mk.injEq] at hu ⊢
                  obtain ⟨rfl, rfl, rfl⟩ := hu
                  simpa using he
                · rw [if_neg hv3] at hu ⊢
                  simp only [Option.some.injEq, Prod.mk.injEq] at hu
                  obtain ⟨rfl, rfl, rfl⟩ := hu
                  rw [if_neg hv3] at he
                  exact he
              · intro g cs t hgg hh
                have h6 := HF _ _ (HW.out g cs t hgg hh)
                rw [upd_snoc]
                by_cases hpg2 : p.1 = g
                · subst hpg2
                  rw [if_pos rfl]
                  exact blk_set h6 p.2 _
                · rw [if_neg hpg2]
                  exact blk_far h6 (fun h => hpg2 h.symm) _
          · rw [if_neg hm1] at hu
            cases hu
        · rw [if_neg hm0] at hu
          cases hu
      · rw [if_neg he1] at hu
        have he2 : (e1 != 0) = true := bne_iff_ne.mpr he1
        simp only [Option.some.injEq, Prod.mk.injEq] at hu
        obtain ⟨rfl, rfl, rfl⟩ := hu
        have he3 := HE.out
        dsimp only at he3
        rw [if_neg he1] at he3
        simp only [Prod.mk.injEq] at he3
        obtain ⟨rfl, rfl, rfl⟩ := he3
        go_wp2_with (first | (go_at_call 148; refine (wire_TakeInt.calls k _ _ left x m err _ (Kd.C_below HR.out HB.out) HC.out HI.out).mono ?_; rintro e w5 ⟨rfl, hd⟩; have HD5 := Aside0.mk hd; clear hd))
        go_ret2
        refine ⟨none, 0, rfl, Nat.le_refl _, ⟨rfl, by simp [Go.maxLen], fun h => absurd h (by simp)⟩, ?_, ?_, fun h => absurd h he1⟩
        · obtain ⟨nd, rfl⟩ := HD5.out
          exact pw_below_drewN HB.out _
        · obtain ⟨nd, rfl⟩ := HD5.out
          exact fun g cs t hgg hne hh => blk_drewN (HN.out g cs t hgg hne hh) nd
theorem four_new (w : World) (o1 o2 o3 o4 : Obj) : ((((w.alloc o1).alloc o2).alloc o3).alloc o4).heap[w.heap.size]? = some o1 ∧ ((((w.alloc o1).alloc o2).alloc o3).alloc o4).heap[w.heap.size + 1]? = some o2 ∧ ((((w.alloc o1).alloc o2).alloc o3).alloc o4).heap[w.heap.size + 1 + 1]? = some o3 ∧ ((((w.alloc o1).alloc o2).alloc o3).alloc o4).heap[w.heap.size + 1 + 1 + 1]? = some o4 ∧ Below w.heap.size w ((((w.alloc o1).alloc o2).alloc o3).alloc o4) := by
  have e1 : (w.alloc o1).heap.size = w.heap.size + 1 := by simp
  have e2 : ((w.alloc o1).alloc o2).heap.size = w.heap.size + 1 + 1 := by simp
  have e3 : (((w.alloc o1).alloc o2).alloc o3).heap.size = w.heap.size + 1 + 1 + 1 := by simp
  refine ⟨blk_alloc (blk_alloc (blk_alloc (blk_new w o1) o2) o3) o4, ?_, ?_, ?_, ?_⟩
  · have h := blk_new (w.alloc o1) o2
    rw [e1] at h
    exact blk_alloc (blk_alloc h o3) o4
  · have h := blk_new ((w.alloc o1).alloc o2) o3
    rw [e2] at h
    exact blk_alloc h o4
  · have h := blk_new (((w.alloc o1).alloc o2).alloc o3) o4
    rw [e3] at h
    exact h
  · repeat (first | (with_reducible exact Below.refl _ _) | apply below_alloc)
set_option maxHeartbeats 1000000 in
theorem take_head (k : Nat) (A0 : Option Addr) (c0 : Nat) (l0 xs rest : List Int) (err : Int) (w : World) (hr0 : Kd.C (Kd.int .u8) w A0 l0.length l0) (hc0 : l0.length ≤ c0) (h : tks k 6 l0 = some (xs, rest, err)) :
    Calls Try.prog 117 #[.slice A0 l0.length c0, .slice (some ⟨w.heap.size + 1 + 1 + 1, 0, none⟩) 6 6] ((((w.alloc (.cells #[.int .i64 0, .int .i64 0, .int .i64 0, .int .i64 0, .int .i64 0, .bool false, .int .i64 0, .int .i64 0, .int .i64 0, .int .i64 0, .int .i64 0, .int .i64 0, .int .i64 0] 30 (0, 0))).alloc (.cells #[.int .i64 0, .int .i64 0, .int .i64 0, .int .i64 0, .int .i64 0, .bool false, .int .i64 0, .int .i64 0, .int .i64 0, .int .i64 0, .int .i64 0, .int .i64 0, .int .i64 0] 30 (0, 0))).alloc (.cells #[.int .i64 0] 3 (0, 0))).alloc (.cells #[.pointer (some ⟨w.heap.size + 1, 0, none⟩), .pointer (some ⟨w.heap.size + 1, 1, none⟩), .pointer (some ⟨w.heap.size + 1, 2, none⟩), .pointer (some ⟨w.heap.size + 1, 3, none⟩), .pointer (some ⟨w.heap.size + 1, 4, none⟩), .pointer (some ⟨w.heap.size + 1 + 1, 0, none⟩)] 139 (0, 0))) fun e w' =>
      ∃ A c, e = .returned (.tuple #[.slice A rest.length c, .int .i64 err]) ∧ rest.length ≤ c ∧ Kd.C (Kd.int .u8) w A rest.length rest ∧ Below w.heap.size w w' ∧ w'.heap[w.heap.size]? = some (.cells #[.int .i64 0, .int .i64 0, .int .i64 0, .int .i64 0, .int .i64 0, .bool false, .int .i64 0, .int .i64 0, .int .i64 0, .int .i64 0, .int .i64 0, .int .i64 0, .int .i64 0] 30 (0, 0)) ∧
      ∀ x0 x1 x2 x3 x4 x5, xs = [x0, x1, x2, x3, x4, x5] → err = 0 → w'.heap[w.heap.size + 1]? = some (.cells #[.int .i64 x0, .int .i64 x1, .int .i64 x2, .int .i64 x3, .int .i64 x4, .bool false, .int .i64 0, .int .i64 0, .int .i64 0, .int .i64 0, .int .i64 0, .int .i64 0, .int .i64 0] 30 (0, 0)) ∧ w'.heap[w.heap.size + 1 + 1]? = some (.cells #[.int .i64 x5] 3 (0, 0)) := by
  have hN := four_new w (.cells #[.int .i64 0, .int .i64 0, .int .i64 0, .int .i64 0, .int .i64 0, .bool false, .int .i64 0, .int .i64 0, .int .i64 0, .int .i64 0, .int .i64 0, .int .i64 0, .int .i64 0] 30 (0, 0)) (.cells #[.int .i64 0, .int .i64 0, .int .i64 0, .int .i64 0, .int .i64 0, .bool false, .int .i64 0, .int .i64 0, .int .i64 0, .int .i64 0, .int .i64 0, .int .i64 0, .int .i64 0] 30 (0, 0)) (.cells #[.int .i64 0] 3 (0, 0)) (.cells #[.pointer (some ⟨w.heap.size + 1, 0, none⟩), .pointer (some ⟨w.heap.size + 1, 1, none⟩), .pointer (some ⟨w.heap.size + 1, 2, none⟩), .pointer (some ⟨w.heap.size + 1, 3, none⟩), .pointer (some ⟨w.heap.size + 1, 4, none⟩), .pointer (some ⟨w.heap.size + 1 + 1, 0, none⟩)] 139 (0, 0))
  generalize ((((w.alloc (.cells #[.int .i64 0, .int .i64 0, .int .i64 0, .int .i64 0, .int .i64 0, .bool false, .int .i64 0, .int .i64 0, .int .i64 0, .int .i64 0, .int .i64 0, .int .i64 0, .int .i64 0] 30 (0, 0))).alloc (.cells #[.int .i64 0, .int .i64 0, .int .i64 0, .int .i64 0, .int .i64 0, .bool false, .int .i64 0, .int .i64 0, .int .i64 0, .int .i64 0, .int .i64 0, .int .i64 0, .int .i64 0] 30 (0, 0))).alloc (.cells #[.int .i64 0] 3 (0, 0))).alloc (.cells #[.pointer (some ⟨w.heap.size + 1, 0, none⟩), .pointer (some ⟨w.heap.size + 1, 1, none⟩), .pointer (some ⟨w.heap.size + 1, 2, none⟩), .pointer (some ⟨w.heap.size + 1, 3, none⟩), .pointer (some ⟨w.heap.size + 1, 4, none⟩), .pointer (some ⟨w.heap.size + 1 + 1, 0, none⟩)] 139 (0, 0))) = W at hN ⊢
  obtain ⟨h1, h2, h3, h4, h5⟩ := hN
  refine (edits_take.calls k w [(w.heap.size + 1, 0), (w.heap.size + 1, 1), (w.heap.size + 1, 2), (w.heap.size + 1, 3), (w.heap.size + 1, 4), (w.heap.size + 1 + 1, 0)] (w.heap.size + 1 + 1 + 1) A0 c0 l0 xs rest err W hr0 hc0 h5 (Nat.lt_of_lt_of_le (Nat.lt_succ_self 6) (by decide)) (by omega) ⟨139, h4⟩ ?_ h).mono ?_
  · intro p hp
    simp only [List.mem_cons, List.mem_nil_iff, or_false] at hp
    rcases hp with rfl | rfl | rfl | rfl | rfl | rfl
    · exact ⟨by dsimp only; omega, by dsimp only; omega, _, _, h2, by simp⟩
    · exact ⟨by dsimp only; omega, by dsimp only; omega, _, _, h2, by simp⟩
    · exact ⟨by dsimp only; omega, by dsimp only; omega, _, _, h2, by simp⟩
    · exact ⟨by dsimp only; omega, by dsimp only; omega, _, _, h2, by simp⟩
    · exact ⟨by dsimp only; omega, by dsimp only; omega, _, _, h2, by simp⟩
    · exact ⟨by dsimp only; omega, by dsimp only; omega, _, _, h3, by simp⟩
  · rintro e w5 ⟨A, c, he, hc, hr, hb, hn, hw⟩
    refine ⟨A, c, he, hc, hr, hb, hn _ _ _ (Nat.le_refl _) ?_ h1, ?_⟩
    · intro p hp
      simp only [List.mem_cons, List.mem_nil_iff, or_false] at hp
      rcases hp with rfl | rfl | rfl | rfl | rfl | rfl
      all_goals (dsimp only; omega)
    · rintro x0 x1 x2 x3 x4 x5 rfl he0
      have g1 := hw he0 _ _ _ (by omega) h2
      have g2 := hw he0 _ _ _ (by omega) h3
      have n1 : ¬ (w.heap.size + 1 + 1 = w.heap.size + 1) := by omega
      have n2 : ¬ (w.heap.size + 1 = w.heap.size + 1 + 1) := by omega
      simp only [upd, List.zip_cons_cons, List.zip_nil_left, List.foldl_cons, List.foldl_nil, if_neg n1, if_neg n2, if_true] at g1 g2
      exact ⟨g1, g2⟩
set_option maxHeartbeats 1000000 in
theorem take_tail (k : Nat) (w W : World) (gx : Nat) (cs : Array Value) (A0 : Option Addr) (c0 : Nat) (l0 xs rest : List Int) (err : Int) (hr0 : Kd.C (Kd.int .u8) w A0 l0.length l0) (hc0 : l0.length ≤ c0) (hb : Below w.heap.size w W) (hgx : w.heap.size ≤ gx) (hB : W.heap[gx]? = some (.cells cs 30 (0, 0))) (hcs : cs.size = 13) (h : tks k 7 l0 = some (xs, rest, err)) :
    Calls Try.prog 117 #[.slice A0 l0.length c0, .slice (some ⟨W.heap.size, 0, none⟩) 7 7] (W.alloc (.cells #[.pointer (some ⟨gx, 6, none⟩), .pointer (some ⟨gx, 7, none⟩), .pointer (some ⟨gx, 8, none⟩), .pointer (some ⟨gx, 9, none⟩), .pointer (some ⟨gx, 10, none⟩), .pointer (some ⟨gx, 11, none⟩), .pointer (some ⟨gx, 12, none⟩)] 139 (0, 0))) fun e w' =>
      ∃ A c, e = .returned (.tuple #[.slice A rest.length c, .int .i64 err]) ∧ rest.length ≤ c ∧ Kd.C (Kd.int .u8) w A rest.length rest ∧ Below w.heap.size w w' ∧ (∀ g cs t, w.heap.size ≤ g → g ≠ gx → W.heap[g]? = some (.cells cs t (0, 0)) → w'.heap[g]? = some (.cells cs t (0, 0))) ∧
      ∀ x0 x1 x2 x3 x4 x5 x6, xs = [x0, x1, x2, x3, x4, x5, x6] → err = 0 → w'.heap[gx]? = some (.cells (((((((cs.setIfInBounds 6 (.int .i64 x0)).setIfInBounds 7 (.int .i64 x1)).setIfInBounds 8 (.int .i64 x2)).setIfInBounds 9 (.int .i64 x3)).setIfInBounds 10 (.int .i64 x4)).setIfInBounds 11 (.int .i64 x5)).setIfInBounds 12 (.int .i64 x6)) 30 (0, 0)) := by
  have h4 := blk_new W (.cells #[.pointer (some ⟨gx, 6, none⟩), .pointer (some ⟨gx, 7, none⟩), .pointer (some ⟨gx, 8, none⟩), .pointer (some ⟨gx, 9, none⟩), .pointer (some ⟨gx, 10, none⟩), .pointer (some ⟨gx, 11, none⟩), .pointer (some ⟨gx, 12, none⟩)] 139 (0, 0))
  have h2 := blk_alloc hB (.cells #[.pointer (some ⟨gx, 6, none⟩), .pointer (some ⟨gx, 7, none⟩), .pointer (some ⟨gx, 8, none⟩), .pointer (some ⟨gx, 9, none⟩), .pointer (some ⟨gx, 10, none⟩), .pointer (some ⟨gx, 11, none⟩), .pointer (some ⟨gx, 12, none⟩)] 139 (0, 0))
  have h5 := below_alloc hb (.cells #[.pointer (some ⟨gx, 6, none⟩), .pointer (some ⟨gx, 7, none⟩), .pointer (some ⟨gx, 8, none⟩), .pointer (some ⟨gx, 9, none⟩), .pointer (some ⟨gx, 10, none⟩), .pointer (some ⟨gx, 11, none⟩), .pointer (some ⟨gx, 12, none⟩)] 139 (0, 0))
  have h6 : ∀ (g : Nat) (o : Obj), W.heap[g]? = some o → (W.alloc (.cells #[.pointer (some ⟨gx, 6, none⟩), .pointer (some ⟨gx, 7, none⟩), .pointer (some ⟨gx, 8, none⟩), .pointer (some ⟨gx, 9, none⟩), .pointer (some ⟨gx, 10, none⟩), .pointer (some ⟨gx, 11, none⟩), .pointer (some ⟨gx, 12, none⟩)] 139 (0, 0))).heap[g]? = some o := fun g o hh => blk_alloc hh _
  have hlt := blk_lt hB
  have hws := below_size hb
  generalize W.alloc (.cells #[.pointer (some ⟨gx, 6, none⟩), .pointer (some ⟨gx, 7, none⟩), .pointer (some ⟨gx, 8, none⟩), .pointer (some ⟨gx, 9, none⟩), .pointer (some ⟨gx, 10, none⟩), .pointer (some ⟨gx, 11, none⟩), .pointer (some ⟨gx, 12, none⟩)] 139 (0, 0)) = W2 at h4 h2 h5 h6 ⊢
  refine (edits_take.calls k w [(gx, 6), (gx, 7), (gx, 8), (gx, 9), (gx, 10), (gx, 11), (gx, 12)] W.heap.size A0 c0 l0 xs rest err W2 hr0 hc0 h5 (Nat.lt_of_lt_of_le (Nat.lt_succ_self 7) (by decide)) hws ⟨139, h4⟩ ?_ h).mono ?_
  · intro p hp
    simp only [List.mem_cons, List.mem_nil_iff, or_false] at hp
    rcases hp with rfl | rfl | rfl | rfl | rfl | rfl | rfl
    all_goals exact ⟨hgx, by dsimp only; omega, _, _, h2, by dsimp only; omega⟩
  · rintro e w5 ⟨A, c, he, hc, hr, hb, hn, hw⟩
    refine ⟨A, c, he, hc, hr, hb, fun g cs t hg hne hh => hn g cs t hg ?_ (h6 _ _ hh), ?_⟩
    · intro p hp
      simp only [List.mem_cons, List.mem_nil_iff, or_false] at hp
      rcases hp with rfl | rfl | rfl | rfl | rfl | rfl | rfl
      all_goals (dsimp only; omega)
    · rintro x0 x1 x2 x3 x4 x5 x6 rfl he0
      have g1 := hw he0 _ _ _ hgx h2
      simp only [upd, List.zip_cons_cons, List.zip_nil_left, List.foldl_cons, List.foldl_nil, if_true] at g1
      exact g1
/-- The end of Take: nothing may be left, and the edit must be one. -/
def takeEnd (k : Nat) (a b c d e : Int) (f : Bool) (g h i j l m n : Int) (rest : List Int) : Option (Int × Int × Int × Int × Int × Bool × Int × Int × Int × Int × Int × Int × Int × Int) :=
  if rest.length = 0 then (edits_Check.f k a b c d e f g h i j l m n).bind fun x => some (if x = 0 then (a, b, c, d, e, f, g, h, i, j, l, m, n, 0) else (0, 0, 0, 0, 0, false, 0, 0, 0, 0, 0, 0, 0, x)) else some (0, 0, 0, 0, 0, false, 0, 0, 0, 0, 0, 0, 0, 2)
def edits_Take.f (k : Nat) (l0 : List Int) : Option (Int × Int × Int × Int × Int × Bool × Int × Int × Int × Int × Int × Int × Int × Int) :=
  (tks k 6 l0).bind fun t => if t.2.2 = 0 then
    (if t.1.getD 5 0 = 1 then takeEnd k (t.1.getD 0 0) (t.1.getD 1 0) (t.1.getD 2 0) (t.1.getD 3 0) (t.1.getD 4 0) true 0 0 0 0 0 0 0 t.2.1
    else if t.1.getD 5 0 = 0 then ((tks k 7 t.2.1).bind fun u => if u.2.2 = 0 then takeEnd k (t.1.getD 0 0) (t.1.getD 1 0) (t.1.getD 2 0) (t.1.getD 3 0) (t.1.getD 4 0) false (u.1.getD 0 0) (u.1.getD 1 0) (u.1.getD 2 0) (u.1.getD 3 0) (u.1.getD 4 0) (u.1.getD 5 0) (u.1.getD 6 0) u.2.1 else some (0, 0, 0, 0, 0, false, 0, 0, 0, 0, 0, 0, 0, u.2.2))
    else some (0, 0, 0, 0, 0, false, 0, 0, 0, 0, 0, 0, 0, 2))
  else some (0, 0, 0, 0, 0, false, 0, 0, 0, 0, 0, 0, 0, t.2.2)
theorem takeEnd_mono (k : Nat) (a b c d e : Int) (f : Bool) (g h i j l m n : Int) (rest : List Int) : LeO (takeEnd k a b c d e f g h i j l m n rest) (takeEnd (k + 1) a b c d e f g h i j l m n rest) := by
  unfold takeEnd
  exact LeO.ite (LeO.bind (edits_Check.mono _ _ _ _ _ _ _ _ _ _ _ _ _ _) fun _ => LeO.refl _) (LeO.refl _)
theorem edits_Take.mono (k : Nat) (l0 : List Int) : LeO (edits_Take.f k l0) (edits_Take.f (k + 1) l0) := by
  unfold edits_Take.f
  exact LeO.bind (tks_mono _ _ _) fun _ => LeO.ite (LeO.ite (takeEnd_mono _ _ _ _ _ _ _ _ _ _ _ _ _ _ _) (LeO.ite (LeO.bind (tks_mono _ _ _) fun _ => LeO.ite (takeEnd_mono _ _ _ _ _ _ _ _ _ _ _ _ _ _ _) (LeO.refl _)) (LeO.refl _))) (LeO.refl _)
set_option maxHeartbeats 4000000 in
set_option maxRecDepth 100000 in
theorem edits_Take.calls (k : Nat) (A0 : Option Addr) (c0 : Nat) (l0 : List Int) (r1 r2 r3 r4 r5 : Int) (r6 : Bool) (r7 r8 r9 r10 r11 r12 r13 r14 : Int) (w : World) (hr0 : Kd.C (Kd.int .u8) w A0 l0.length l0) (hc0 : l0.length ≤ c0) (h : edits_Take.f k l0 = some (r1, r2, r3, r4, r5, r6, r7, r8, r9, r10, r11, r12, r13, r14)) :
    Calls Try.prog 87 #[.slice A0 l0.length c0] w fun e w' => e = .returned (.tuple #[.agg #[.int .i64 r1, .int .i64 r2, .int .i64 r3, .int .i64 r4, .int .i64 r5, .bool r6, .int .i64 r7, .int .i64 r8, .int .i64 r9, .int .i64 r10, .int .i64 r11, .int .i64 r12, .int .i64 r13], .int .i64 r14]) ∧ Below w.heap.size w w' := by
  have HR0 := Aside0.mk hr0
  have HC0 := Aside0.mk hc0
  clear hr0 hc0
  have hu27 := Try.underlying30
  have hu25 := Try.underlying28
  obtain ⟨⟨xs, rest, err⟩, h1, h⟩ := Option.bind_eq_some_iff.mp h
  have H := Aside0.mk h
  have H1 := Aside0.mk h1
  clear h h1
  go_enter Try.func87, Try.ntmps87
  by_cases he : err = 0
  · subst he
    have hlen := tks_len k 6 l0 xs rest H1.out
    match xs, hlen with
    | [x0, x1, x2, x3, x4, x5], _ =>
      go_upto_region 4 with (first | (go_at_call 117; refine (take_head k A0 c0 l0 _ rest 0 w HR0.out HC0.out H1.out).mono ?_; rintro e w5 ⟨A5, c5, rfl, hc5, hr5, hb5, b0, hx⟩; obtain ⟨b1, b2⟩ := hx _ _ _ _ _ _ rfl rfl; have HC5 := Aside0.mk hc5; have HR5 := Aside0.mk hr5; have HB5 := Aside0.mk hb5; have B0 := Aside0.mk b0; have B1 := Aside0.mk b1; have B2 := Aside0.mk b2; clear hc5 hr5 hb5 hx b0 b1 b2))
      have cf : w5.cell? ⟨w.heap.size + 1 + 1, 0, none⟩ = some (.int .i64 x5) := (blk_cell B2.out 0).trans rfl
      have cx := blk_cell B1.out
      have fx := blk_frozen B1.out
      by_cases h1 : x5 = 1
      · subst h1
        have HE0 : Aside0 (takeEnd k x0 x1 x2 x3 x4 true 0 0 0 0 0 0 0 rest = some (r1, r2, r3, r4, r5, r6, r7, r8, r9, r10, r11, r12, r13, r14)) := by
          exact ⟨by simpa using H.out⟩
        go_upto_region 14 with (fail)
        have BW0 : Aside0 ((w5.setCell ⟨w.heap.size + 1, 5, none⟩ (.bool true)).heap[w.heap.size]? = some (.cells #[.int .i64 0, .int .i64 0, .int .i64 0, .int .i64 0, .int .i64 0, .bool false, .int .i64 0, .int .i64 0, .int .i64 0, .int .i64 0, .int .i64 0, .int .i64 0, .int .i64 0] 30 (0, 0))) := ⟨blk_far B0.out (by show w.heap.size ≠ w.heap.size + 1; omega) _⟩
        have BW1 : Aside0 ((w5.setCell ⟨w.heap.size + 1, 5, none⟩ (.bool true)).heap[w.heap.size + 1]? = some (.cells #[.int .i64 x0, .int .i64 x1, .int .i64 x2, .int .i64 x3, .int .i64 x4, .bool true, .int .i64 0, .int .i64 0, .int .i64 0, .int .i64 0, .int .i64 0, .int .i64 0, .int .i64 0] 30 (0, 0))) := ⟨blk_put B1.out 5 _ rfl⟩
        have HBW : Aside0 (Below w.heap.size w (w5.setCell ⟨w.heap.size + 1, 5, none⟩ (.bool true))) := ⟨below_set HB5.out (by show w.heap.size ≤ w.heap.size + 1; omega)⟩
        generalize w5.setCell ⟨w.heap.size + 1, 5, none⟩ (.bool true) = W at BW0 BW1 HBW ⊢
        clear cf cx fx
        have hc1 := blk_cell BW1.out
        have hc0 := blk_cell BW0.out
        have hf0 := blk_frozen BW0.out
        have HE := HE0.out
        unfold takeEnd at HE
        by_cases hr : rest.length = 0
        · rw [if_pos hr] at HE
          have hr2 : decide (0 < (rest.length : Int)) = false := by simp [hr]
          obtain ⟨ch, HC, HE⟩ := Option.bind_eq_some_iff.mp HE
          have HCH := Aside0.mk HC
          clear HC
          by_cases hch : ch = 0
          · subst hch
            rw [if_pos rfl] at HE
            have HE1 := Aside0.mk HE
            clear HE
            go_wp2_with (first | (go_at_call 54; refine (edits_Check.calls k x0 x1 x2 x3 x4 true 0 0 0 0 0 0 0 0 _ HCH.out).mono ?_; rintro e w8 ⟨rfl, hb⟩; have HB8 := Aside0.mk (below_step HBW.out hb); have B80 := Aside0.mk (blk_below BW0.out hb); have B81 := Aside0.mk (blk_below BW1.out hb); have hc81 := blk_cell B81.out; have hc80 := blk_cell B80.out; have hf80 := blk_frozen B80.out; clear hb))
            refine bodyPost_ret (results_ct rfl _ _ w.heap.size 30 #[.int .i64 x0, .int .i64 x1, .int .i64 x2, .int .i64 x3, .int .i64 x4, .bool true, .int .i64 0, .int .i64 0, .int .i64 0, .int .i64 0, .int .i64 0, .int .i64 0, .int .i64 0] (0, 0) _ rfl (by apply blk_put; (iterate 12 apply blk_set); exact B80.out; simp only [List.setIfInBounds_toArray, List.set_cons_zero, List.set_cons_succ]) Try.underlying30 rfl (by kernel_rfl)) rfl ⟨?_, by repeat (first | with_reducible exact HB8.out | ((with_reducible refine below_set ?_ ?_); rotate_left; focus exact Nat.le_refl _))⟩
            have hq := HE1.out
            simp only [Option.some.injEq, Prod.mk.injEq] at hq
            obtain ⟨rfl, rfl, rfl, rfl, rfl, rfl, rfl, rfl, rfl, rfl, rfl, rfl, rfl, rfl⟩ := hq
            rfl
          · rw [if_neg hch] at HE
            have HE1 := Aside0.mk HE
            clear HE
            have hch2 : (ch != 0) = true := bne_iff_ne.mpr hch
            go_wp2_with (first | (go_at_call 54; refine (edits_Check.calls k x0 x1 x2 x3 x4 true 0 0 0 0 0 0 0 ch _ HCH.out).mono ?_; rintro e w8 ⟨rfl, hb⟩; have HB8 := Aside0.mk (below_step HBW.out hb); have B80 := Aside0.mk (blk_below BW0.out hb); have hc80 := blk_cell B80.out; have hf80 := blk_frozen B80.out; clear hb))
            refine bodyPost_ret (results_ct rfl _ _ w.heap.size 30 #[.int .i64 0, .int .i64 0, .int .i64 0, .int .i64 0, .int .i64 0, .bool false, .int .i64 0, .int .i64 0, .int .i64 0, .int .i64 0, .int .i64 0, .int .i64 0, .int .i64 0] (0, 0) _ rfl (by apply blk_put; (iterate 12 apply blk_set); exact B80.out; simp only [List.setIfInBounds_toArray, List.set_cons_zero, List.set_cons_succ]) Try.underlying30 rfl (by kernel_rfl)) rfl ⟨?_, by repeat (first | with_reducible exact HB8.out | ((with_reducible refine below_set ?_ ?_); rotate_left; focus exact Nat.le_refl _))⟩
            have hq := HE1.out
            simp only [Option.some.injEq, Prod.mk.injEq] at hq
            obtain ⟨rfl, rfl, rfl, rfl, rfl, rfl, rfl, rfl, rfl, rfl, rfl, rfl, rfl, rfl⟩ := hq
            rfl
        · rw [if_neg hr] at HE
          have hr2 : decide (0 < (rest.length : Int)) = true := by simp; omega
          have HE1 := Aside0.mk HE
          clear HE
          go_wp2
          refine bodyPost_ret (results_ct rfl _ _ w.heap.size 30 #[.int .i64 0, .int .i64 0, .int .i64 0, .int .i64 0, .int .i64 0, .bool false, .int .i64 0, .int .i64 0, .int .i64 0, .int .i64 0, .int .i64 0, .int .i64 0, .int .i64 0] (0, 0) _ rfl (by apply blk_put; (iterate 12 apply blk_set); exact BW0.out; simp only [List.setIfInBounds_toArray, List.set_cons_zero, List.set_cons_succ]) Try.underlying30 rfl (by kernel_rfl)) rfl ⟨?_, by repeat (first | with_reducible exact HBW.out | ((with_reducible refine below_set ?_ ?_); rotate_left; focus exact Nat.le_refl _))⟩
          have hq := HE1.out
          simp only [Option.some.injEq, Prod.mk.injEq] at hq
          obtain ⟨rfl, rfl, rfl, rfl, rfl, rfl, rfl, rfl, rfl, rfl, rfl, rfl, rfl, rfl⟩ := hq
          rfl

      · by_cases h0 : x5 = 0
        · subst h0
          have HE0 : Aside0 ((tks k 7 rest).bind (fun u => if u.2.2 = 0 then takeEnd k x0 x1 x2 x3 x4 false (u.1.getD 0 0) (u.1.getD 1 0) (u.1.getD 2 0) (u.1.getD 3 0) (u.1.getD 4 0) (u.1.getD 5 0) (u.1.getD 6 0) u.2.1 else some (0, 0, 0, 0, 0, false, 0, 0, 0, 0, 0, 0, 0, u.2.2)) = some (r1, r2, r3, r4, r5, r6, r7, r8, r9, r10, r11, r12, r13, r14)) := by
            exact ⟨by simpa using H.out⟩
          go_upto_region 11 with (fail)
          have BW0 : Aside0 ((w5.setCell ⟨w.heap.size + 1, 5, none⟩ (.bool false)).drew.heap[w.heap.size]? = some (.cells #[.int .i64 0, .int .i64 0, .int .i64 0, .int .i64 0, .int .i64 0, .bool false, .int .i64 0, .int .i64 0, .int .i64 0, .int .i64 0, .int .i64 0, .int .i64 0, .int .i64 0] 30 (0, 0))) := ⟨blk_drew (blk_far B0.out (by show w.heap.size ≠ w.heap.size + 1; omega) _)⟩
          have BW1 : Aside0 ((w5.setCell ⟨w.heap.size + 1, 5, none⟩ (.bool false)).drew.heap[w.heap.size + 1]? = some (.cells #[.int .i64 x0, .int .i64 x1, .int .i64 x2, .int .i64 x3, .int .i64 x4, .bool false, .int .i64 0, .int .i64 0, .int .i64 0, .int .i64 0, .int .i64 0, .int .i64 0, .int .i64 0] 30 (0, 0))) := ⟨blk_drew (blk_put B1.out 5 _ rfl)⟩
          have HBW : Aside0 (Below w.heap.size w (w5.setCell ⟨w.heap.size + 1, 5, none⟩ (.bool false)).drew) := ⟨below_drew1 (below_set HB5.out (by show w.heap.size ≤ w.heap.size + 1; omega))⟩
          generalize w5.setCell ⟨w.heap.size + 1, 5, none⟩ (.bool false) = W0 at BW0 BW1 HBW ⊢
          clear cf cx fx
          obtain ⟨⟨us, ur, ue⟩, hu, HE⟩ := Option.bind_eq_some_iff.mp HE0.out
          have HU := Aside0.mk hu
          have HE1 := Aside0.mk HE
          clear hu HE HE0
          refine start_ (n := 29) (S := fun _ => True) (ds := []) #[false, false, false, false, false, false, false, false, false, false, false, false, false, false, false, false, false, false, false, false, false, false, false, false, false, false, false, false, false] rfl rfl rfl trivial (fun hHeld => ?_)
          generalize W0.drew = W at BW0 BW1 HBW ⊢
          refine pure_ (i := 0) (N := some 44) (v := ?_) (a' := ?_) #[true, false, false, false, false, false, false, false, false, false, false, false, false, false, false, false, false, false, false, false, false, false, false, false, false, false, false, false, false] rfl rfl (by kernel_rfl) (fun _ _ _ h => h) (Or.inl ⟨by rfl, ?_⟩) ?_ ?_
          rotate_left
          · intro w'
            go_simp
            with_reducible rfl
          rotate_left
          · simp only [Act.put, List.setIfInBounds_toArray, List.set_cons_zero, List.set_cons_succ, i64_w, i32_w]
            rfl
          refine pure_ (i := 1) (N := some 45) (v := ?_) (a' := ?_) #[true, true, false, false, false, false, false, false, false, false, false, false, false, false, false, false, false, false, false, false, false, false, false, false, false, false, false, false, false] rfl rfl (by kernel_rfl) (fun _ _ _ h => h) (Or.inl ⟨by rfl, ?_⟩) ?_ ?_
          rotate_left
          · intro w'
            go_simp
            with_reducible rfl
          rotate_left
          · simp only [Act.put, List.setIfInBounds_toArray, List.set_cons_zero, List.set_cons_succ, i64_w, i32_w]
            rfl
          refine pure_ (i := 2) (N := some 46) (v := ?_) (a' := ?_) #[true, true, true, false, false, false, false, false, false, false, false, false, false, false, false, false, false, false, false, false, false, false, false, false, false, false, false, false, false] rfl rfl (by kernel_rfl) (fun _ _ _ h => h) (Or.inl ⟨by rfl, ?_⟩) ?_ ?_
          rotate_left
          · intro w'
            go_simp
            with_reducible rfl
          rotate_left
          · simp only [Act.put, List.setIfInBounds_toArray, List.set_cons_zero, List.set_cons_succ, i64_w, i32_w]
            rfl
          refine pure_ (i := 3) (N := some 47) (v := ?_) (a' := ?_) #[true, true, true, true, false, false, false, false, false, false, false, false, false, false, false, false, false, false, false, false, false, false, false, false, false, false, false, false, false] rfl rfl (by kernel_rfl) (fun _ _ _ h => h) (Or.inl ⟨by rfl, ?_⟩) ?_ ?_
          rotate_left
          · intro w'
            go_simp
            with_reducible rfl
          rotate_left
          · simp only [Act.put, List.setIfInBounds_toArray, List.set_cons_zero, List.set_cons_succ, i64_w, i32_w]
            rfl
          refine pure_ (i := 4) (N := some 48) (v := ?_) (a' := ?_) #[true, true, true, true, true, false, false, false, false, false, false, false, false, false, false, false, false, false, false, false, false, false, false, false, false, false, false, false, false] rfl rfl (by kernel_rfl) (fun _ _ _ h => h) (Or.inl ⟨by rfl, ?_⟩) ?_ ?_
          rotate_left
          · intro w'
            go_simp
            with_reducible rfl
          rotate_left
          · simp only [Act.put, List.setIfInBounds_toArray, List.set_cons_zero, List.set_cons_succ, i64_w, i32_w]
            rfl
          refine pure_ (i := 5) (N := some 49) (v := ?_) (a' := ?_) #[true, true, true, true, true, true, false, false, false, false, false, false, false, false, false, false, false, false, false, false, false, false, false, false, false, false, false, false, false] rfl rfl (by kernel_rfl) (fun _ _ _ h => h) (Or.inl ⟨by rfl, ?_⟩) ?_ ?_
          rotate_left
          · intro w'
            go_simp
            with_reducible rfl
          rotate_left
          · simp only [Act.put, List.setIfInBounds_toArray, List.set_cons_zero, List.set_cons_succ, i64_w, i32_w]
            rfl
          refine pure_ (i := 6) (N := some 50) (v := ?_) (a' := ?_) #[true, true, true, true, true, true, true, false, false, false, false, false, false, false, false, false, false, false, false, false, false, false, false, false, false, false, false, false, false] rfl rfl (by kernel_rfl) (fun _ _ _ h => h) (Or.inl ⟨by rfl, ?_⟩) ?_ ?_
          rotate_left
          · intro w'
            go_simp
            with_reducible rfl
          rotate_left
          · simp only [Act.put, List.setIfInBounds_toArray, List.set_cons_zero, List.set_cons_succ, i64_w, i32_w]
            rfl
          refine pure_ (i := 7) (N := some 51) (v := ?_) (a' := ?_) #[true, true, true, true, true, true, true, true, false, false, false, false, false, false, false, false, false, false, false, false, false, false, false, false, false, false, false, false, false] rfl rfl (by kernel_rfl) (fun _ _ _ h => h) (Or.inl ⟨by rfl, ?_⟩) ?_ ?_
          rotate_left
          · intro w'
            go_simp
            with_reducible rfl
          rotate_left
          · simp only [Act.put, List.setIfInBounds_toArray, List.set_cons_zero, List.set_cons_succ, i64_w, i32_w]
            rfl
          refine pure_ (i := 8) (N := some 52) (v := ?_) (a' := ?_) #[true, true, true, true, true, true, true, true, true, false, false, false, false, false, false, false, false, false, false, false, false, false, false, false, false, false, false, false, false] rfl rfl (by kernel_rfl) (fun _ _ _ h => h) (Or.inl ⟨by rfl, ?_⟩) ?_ ?_
          rotate_left
          · intro w'
            go_simp
            with_reducible rfl
          rotate_left
          · simp only [Act.put, List.setIfInBounds_toArray, List.set_cons_zero, List.set_cons_succ, i64_w, i32_w]
            rfl
          refine pure_ (i := 9) (N := some 53) (v := ?_) (a' := ?_) #[true, true, true, true, true, true, true, true, true, true, false, false, false, false, false, false, false, false, false, false, false, false, false, false, false, false, false, false, false] rfl rfl (by kernel_rfl) (fun _ _ _ h => h) (Or.inl ⟨by rfl, ?_⟩) ?_ ?_
          rotate_left
          · intro w'
            go_simp
            with_reducible rfl
          rotate_left
          · simp only [Act.put, List.setIfInBounds_toArray, List.set_cons_zero, List.set_cons_succ, i64_w, i32_w]
            rfl
          refine pure_ (i := 10) (N := some 54) (v := ?_) (a' := ?_) #[true, true, true, true, true, true, true, true, true, true, true, false, false, false, false, false, false, false, false, false, false, false, false, false, false, false, false, false, false] rfl rfl (by kernel_rfl) (fun _ _ _ h => h) (Or.inl ⟨by rfl, ?_⟩) ?_ ?_
          rotate_left
          · intro w'
            go_simp
            with_reducible rfl
          rotate_left
          · simp only [Act.put, List.setIfInBounds_toArray, List.set_cons_zero, List.set_cons_succ, i64_w, i32_w]
            rfl
          refine pure_ (i := 11) (N := some 55) (v := ?_) (a' := ?_) #[true, true, true, true, true, true, true, true, true, true, true, true, false, false, false, false, false, false, false, false, false, false, false, false, false, false, false, false, false] rfl rfl (by kernel_rfl) (fun _ _ _ h => h) (Or.inl ⟨by rfl, ?_⟩) ?_ ?_
          rotate_left
          · intro w'
            go_simp
            with_reducible rfl
          rotate_left
          · simp only [Act.put, List.setIfInBounds_toArray, List.set_cons_zero, List.set_cons_succ, i64_w, i32_w]
            rfl
          refine pure_ (i := 12) (N := some 56) (v := ?_) (a' := ?_) #[true, true, true, true, true, true, true, true, true, true, true, true, true, false, false, false, false, false, false, false, false, false, false, false, false, false, false, false, false] rfl rfl (by kernel_rfl) (fun _ _ _ h => h) (Or.inl ⟨by rfl, ?_⟩) ?_ ?_
          rotate_left
          · intro w'
            go_simp
            with_reducible rfl
          rotate_left
          · simp only [Act.put, List.setIfInBounds_toArray, List.set_cons_zero, List.set_cons_succ, i64_w, i32_w]
            rfl
          refine pure_ (i := 13) (N := some 57) (v := ?_) (a' := ?_) #[true, true, true, true, true, true, true, true, true, true, true, true, true, true, false, false, false, false, false, false, false, false, false, false, false, false, false, false, false] rfl rfl (by kernel_rfl) (fun _ _ _ h => h) (Or.inl ⟨by rfl, ?_⟩) ?_ ?_
          rotate_left
          · intro w'
            go_simp
            with_reducible rfl
          rotate_left
          · simp only [Act.put, List.setIfInBounds_toArray, List.set_cons_zero, List.set_cons_succ, i64_w, i32_w]
            rfl
          refine pure_ (i := 14) (N := some 58) (v := ?_) (a' := ?_) #[true, true, true, true, true, true, true, true, true, true, true, true, true, true, true, false, false, false, false, false, false, false, false, false, false, false, false, false, false] rfl rfl (by kernel_rfl) (fun _ _ _ h => h) (Or.inl ⟨by rfl, ?_⟩) ?_ ?_
          rotate_left
          · intro w'
            go_simp
            with_reducible rfl
          rotate_left
          · simp only [Act.put, List.setIfInBounds_toArray, List.set_cons_zero, List.set_cons_succ, i64_w, i32_w]
            rfl
          refine pure_ (i := 15) (N := some 59) (v := ?_) (a' := ?_) #[true, true, true, true, true, true, true, true, true, true, true, true, true, true, true, true, false, false, false, false, false, false, false, false, false, false, false, false, false] rfl rfl (by kernel_rfl) (fun _ _ _ h => h) (Or.inl ⟨by rfl, ?_⟩) ?_ ?_
          rotate_left
          · intro w'
            go_simp
            with_reducible rfl
          rotate_left
          · simp only [Act.put, List.setIfInBounds_toArray, List.set_cons_zero, List.set_cons_succ, i64_w, i32_w]
            rfl
          refine pure_ (i := 16) (N := some 60) (v := ?_) (a' := ?_) #[true, true, true, true, true, true, true, true, true, true, true, true, true, true, true, true, true, false, false, false, false, false, false, false, false, false, false, false, false] rfl rfl (by kernel_rfl) (fun _ _ _ h => h) (Or.inl ⟨by rfl, ?_⟩) ?_ ?_
          rotate_left
          · intro w'
            go_simp
            with_reducible rfl
          rotate_left
          · simp only [Act.put, List.setIfInBounds_toArray, List.set_cons_zero, List.set_cons_succ, i64_w, i32_w]
            rfl
          refine pure_ (i := 17) (N := some 61) (v := ?_) (a' := ?_) #[true, true, true, true, true, true, true, true, true, true, true, true, true, true, true, true, true, true, false, false, false, false, false, false, false, false, false, false, false] rfl rfl (by kernel_rfl) (fun _ _ _ h => h) (Or.inl ⟨by rfl, ?_⟩) ?_ ?_
          rotate_left
          · intro w'
            go_simp
            with_reducible rfl
          rotate_left
          · simp only [Act.put, List.setIfInBounds_toArray, List.set_cons_zero, List.set_cons_succ, i64_w, i32_w]
            rfl
          refine pure_ (i := 18) (N := some 62) (v := ?_) (a' := ?_) #[true, true, true, true, true, true, true, true, true, true, true, true, true, true, true, true, true, true, true, false, false, false, false, false, false, false, false, false, false] rfl rfl (by kernel_rfl) (fun _ _ _ h => h) (Or.inl ⟨by rfl, ?_⟩) ?_ ?_
          rotate_left
          · intro w'
            go_simp
            with_reducible rfl
          rotate_left
          · simp only [Act.put, List.setIfInBounds_toArray, List.set_cons_zero, List.set_cons_succ, i64_w, i32_w]
            rfl
          refine pure_ (i := 19) (N := some 63) (v := ?_) (a' := ?_) #[true, true, true, true, true, true, true, true, true, true, true, true, true, true, true, true, true, true, true, true, false, false, false, false, false, false, false, false, false] rfl rfl (by kernel_rfl) (fun _ _ _ h => h) (Or.inl ⟨by rfl, ?_⟩) ?_ ?_
          rotate_left
          · intro w'
            go_simp
            with_reducible rfl
          rotate_left
          · simp only [Act.put, List.setIfInBounds_toArray, List.set_cons_zero, List.set_cons_succ, i64_w, i32_w]
            rfl
          refine pure_ (i := 20) (N := some 64) (v := ?_) (a' := ?_) #[true, true, true, true, true, true, true, true, true, true, true, true, true, true, true, true, true, true, true, true, true, false, false, false, false, false, false, false, false] rfl rfl (by kernel_rfl) (fun _ _ _ h => h) (Or.inl ⟨by rfl, ?_⟩) ?_ ?_
          rotate_left
          · intro w'
            go_simp
            with_reducible rfl
          rotate_left
          · simp only [Act.put, List.setIfInBounds_toArray, List.set_cons_zero, List.set_cons_succ, i64_w, i32_w]
            rfl
          refine pure_ (i := 21) (N := some 65) (v := ?_) (a' := ?_) #[true, true, true, true, true, true, true, true, true, true, true, true, true, true, true, true, true, true, true, true, true, true, false, false, false, false, false, false, false] rfl rfl (by kernel_rfl) (fun _ _ _ h => h) (Or.inl ⟨by rfl, ?_⟩) ?_ ?_
          rotate_left
          · intro w'
            go_simp
            with_reducible rfl
          rotate_left
          · simp only [Act.put, List.setIfInBounds_toArray, List.set_cons_zero, List.set_cons_succ, i64_w, i32_w]
            rfl
          refine one_ (i := 22) (N := some 66) #[true, true, true, true, true, true, true, true, true, true, true, true, true, true, true, true, true, true, true, true, true, true, true, false, false, false, false, false, false] rfl rfl (by kernel_rfl) (by decide) (fun K hK => ?_)
          rw [if_pos (by rfl)]
          go_wp2
          refine hK.out _ _ trivial (fun _ => ?_)
          refine one_ (i := 23) (N := some 67) #[true, true, true, true, true, true, true, true, true, true, true, true, true, true, true, true, true, true, true, true, true, true, true, true, false, false, false, false, false] rfl rfl (by kernel_rfl) (by decide) (fun K hK => ?_)
          refine goes_ Try.func117 (by kernel_rfl) rfl #[.slice A5 rest.length c5, .slice (some ⟨W.heap.size, 0, none⟩) 7 7] (by rfl) rfl rfl (by (try simp only [List.map_toArray, List.map_cons, List.map_nil]); first | done | rfl) ?_
          refine (take_tail k w W (w.heap.size + 1) _ A5 c5 rest us ur ue HR5.out HC5.out HBW.out (Nat.le_succ _) BW1.out rfl HU.out).mono ?_
          rintro e w7 ⟨A7, c7, rfl, hc7, hr7, hb7, hn7, hx7⟩
          have HB7 := Aside0.mk hb7
          have B70 := Aside0.mk (hn7 _ _ _ (Nat.le_refl _) (by omega) BW0.out)
          have HX7 := Aside0.mk hx7
          clear hc7 hr7 hb7 hn7 hx7
          refine ⟨_, rfl, ?_⟩
          refine hK.out _ _ trivial (fun _ => ?_)
          refine pure_ (i := 24) (N := some 43) (v := ?_) (a' := ?_) #[true, true, true, true, true, true, true, true, true, true, true, true, true, true, true, true, true, true, true, true, true, true, true, true, true, false, false, false, false] rfl rfl (by kernel_rfl) (fun _ _ _ h => h) (Or.inl ⟨by rfl, ?_⟩) ?_ ?_
          rotate_left
          · intro w'
            go_simp
            with_reducible rfl
          rotate_left
          · simp only [Act.put, List.setIfInBounds_toArray, List.set_cons_zero, List.set_cons_succ, i64_w, i32_w]
            rfl
          refine pure_ (i := 25) (N := some 68) (v := ?_) (a' := ?_) #[true, true, true, true, true, true, true, true, true, true, true, true, true, true, true, true, true, true, true, true, true, true, true, true, true, true, false, false, false] rfl rfl (by kernel_rfl) (fun _ _ _ h => h) (Or.inl ⟨by rfl, ?_⟩) ?_ ?_
          rotate_left
          · intro w'
            go_simp
            with_reducible rfl
          rotate_left
          · simp only [Act.put, List.setIfInBounds_toArray, List.set_cons_zero, List.set_cons_succ, i64_w, i32_w]
            rfl
          refine pure_ (i := 26) (N := some 69) (v := ?_) (a' := ?_) #[true, true, true, true, true, true, true, true, true, true, true, true, true, true, true, true, true, true, true, true, true, true, true, true, true, true, true, false, false] rfl rfl (by kernel_rfl) (fun _ _ _ h => h) (Or.inl ⟨by rfl, ?_⟩) ?_ ?_
          rotate_left
          · intro w'
            go_simp
            with_reducible rfl
          rotate_left
          · simp only [Act.put, List.setIfInBounds_toArray, List.set_cons_zero, List.set_cons_succ, i64_w, i32_w]
            rfl
          refine pure_ (i := 27) (N := some 6) (v := ?_) (a' := ?_) #[true, true, true, true, true, true, true, true, true, true, true, true, true, true, true, true, true, true, true, true, true, true, true, true, true, true, true, true, false] rfl rfl (by kernel_rfl) (fun _ _ _ h => h) (Or.inl ⟨by rfl, ?_⟩) ?_ ?_
          rotate_left
          · intro w'
            go_simp
            with_reducible rfl
          rotate_left
          · simp only [Act.put, List.setIfInBounds_toArray, List.set_cons_zero, List.set_cons_succ, i64_w, i32_w]
            rfl
          refine pure_ (i := 28) (N := some 7) (v := ?_) (a' := ?_) #[true, true, true, true, true, true, true, true, true, true, true, true, true, true, true, true, true, true, true, true, true, true, true, true, true, true, true, true, true] rfl rfl (by kernel_rfl) (fun _ _ _ h => h) (Or.inl ⟨by rfl, ?_⟩) ?_ ?_
          rotate_left
          · intro w'
            go_simp
            with_reducible rfl
          rotate_left
          · simp only [Act.put, List.setIfInBounds_toArray, List.set_cons_zero, List.set_cons_succ, i64_w, i32_w]
            rfl
          refine done_ (by kernel_rfl) ?_
          clear BW0 BW1 HBW
          by_cases hue : ue = 0
          · subst hue
            have hul := tks_len k 7 rest us ur HU.out
            match us, hul with
            | [y0, y1, y2, y3, y4, y5, y6], _ =>
              have HE0 : Aside0 (takeEnd k x0 x1 x2 x3 x4 false y0 y1 y2 y3 y4 y5 y6 ur = some (r1, r2, r3, r4, r5, r6, r7, r8, r9, r10, r11, r12, r13, r14)) := ⟨by simpa using HE1.out⟩
              clear HE1
              have BW1 : Aside0 (w7.heap[w.heap.size + 1]? = some (.cells #[.int .i64 x0, .int .i64 x1, .int .i64 x2, .int .i64 x3, .int .i64 x4, .bool false, .int .i64 y0, .int .i64 y1, .int .i64 y2, .int .i64 y3, .int .i64 y4, .int .i64 y5, .int .i64 y6] 30 (0, 0))) := ⟨(HX7.out _ _ _ _ _ _ _ rfl rfl).trans (by simp only [List.setIfInBounds_toArray, List.set_cons_zero, List.set_cons_succ])⟩
              have BW0 := B70
              have HBW := HB7
              clear HB7 B70 HX7
              generalize w7 = W at BW0 BW1 HBW ⊢
              have hc1 := blk_cell BW1.out
              have hc0 := blk_cell BW0.out
              have hf0 := blk_frozen BW0.out
              have HE := HE0.out
              unfold takeEnd at HE
              by_cases hr : ur.length = 0
              · rw [if_pos hr] at HE
                have hr2 : decide (0 < (ur.length : Int)) = false := by simp [hr]
                obtain ⟨ch, HC, HE⟩ := Option.bind_eq_some_iff.mp HE
                have HCH := Aside0.mk HC
                clear HC
                by_cases hch : ch = 0
                · subst hch
                  rw [if_pos rfl] at HE
                  have HE1 := Aside0.mk HE
                  clear HE
                  go_wp2_with (first | (go_at_call 54; refine (edits_Check.calls k x0 x1 x2 x3 x4 false y0 y1 y2 y3 y4 y5 y6 0 _ HCH.out).mono ?_; rintro e w8 ⟨rfl, hb⟩; have HB8 := Aside0.mk (below_step HBW.out hb); have B80 := Aside0.mk (blk_below BW0.out hb); have B81 := Aside0.mk (blk_below BW1.out hb); have hc81 := blk_cell B81.out; have hc80 := blk_cell B80.out; have hf80 := blk_frozen B80.out; clear hb))
                  refine bodyPost_ret (results_ct rfl _ _ w.heap.size 30 #[.int .i64 x0, .int .i64 x1, .int .i64 x2, .int .i64 x3, .int .i64 x4, .bool false, .int .i64 y0, .int .i64 y1, .int .i64 y2, .int .i64 y3, .int .i64 y4, .int .i64 y5, .int .i64 y6] (0, 0) _ rfl (by apply blk_put; (iterate 12 apply blk_set); exact B80.out; simp only [List.setIfInBounds_toArray, List.set_cons_zero, List.set_cons_succ]) Try.underlying30 rfl (by kernel_rfl)) rfl ⟨?_, by repeat (first | with_reducible exact HB8.out | ((with_reducible refine below_set ?_ ?_); rotate_left; focus exact Nat.le_refl _))⟩
                  have hq := HE1.out
                  simp only [Option.some.injEq, Prod.mk.injEq] at hq
                  obtain ⟨rfl, rfl, rfl, rfl, rfl, rfl, rfl, rfl, rfl, rfl, rfl, rfl, rfl, rfl⟩ := hq
                  rfl
                · rw [if_neg hch] at HE
                  have HE1 := Aside0.mk HE
                  clear HE
                  have hch2 : (ch != 0) = true := bne_iff_ne.mpr hch
                  go_wp2_with (first | (go_at_call 54; refine (edits_Check.calls k x0 x1 x2 x3 x4 false y0 y1 y2 y3 y4 y5 y6 ch _ HCH.out).mono ?_; rintro e w8 ⟨rfl, hb⟩; have HB8 := Aside0.mk (below_step HBW.out hb); have B80 := Aside0.mk (blk_below BW0.out hb); have hc80 := blk_cell B80.out; have hf80 := blk_frozen B80.out; clear hb))
                  refine bodyPost_ret (results_ct rfl _ _ w.heap.size 30 #[.int .i64 0, .int .i64 0, .int .i64 0, .int .i64 0, .int .i64 0, .bool false, .int .i64 0, .int .i64 0, .int .i64 0, .int .i64 0, .int .i64 0, .int .i64 0, .int .i64 0] (0, 0) _ rfl (by apply blk_put; (iterate 12 apply blk_set); exact B80.out; simp only [List.setIfInBounds_toArray, List.set_cons_zero, List.set_cons_succ]) Try.underlying30 rfl (by kernel_rfl)) rfl ⟨?_, by repeat (first | with_reducible exact HB8.out | ((with_reducible refine below_set ?_ ?_); rotate_left; focus exact Nat.le_refl _))⟩
                  have hq := HE1.out
                  simp only [Option.some.injEq, Prod.mk.injEq] at hq
                  obtain ⟨rfl, rfl, rfl, rfl, rfl, rfl, rfl, rfl, rfl, rfl, rfl, rfl, rfl, rfl⟩ := hq
                  rfl
              · rw [if_neg hr] at HE
                have hr2 : decide (0 < (ur.length : Int)) = true := by simp; omega
                have HE1 := Aside0.mk HE
                clear HE
                go_wp2
                refine bodyPost_ret (results_ct rfl _ _ w.heap.size 30 #[.int .i64 0, .int .i64 0, .int .i64 0, .int .i64 0, .int .i64 0, .bool false, .int .i64 0, .int .i64 0, .int .i64 0, .int .i64 0, .int .i64 0, .int .i64 0, .int .i64 0] (0, 0) _ rfl (by apply blk_put; (iterate 12 apply blk_set); exact BW0.out; simp only [List.setIfInBounds_toArray, List.set_cons_zero, List.set_cons_succ]) Try.underlying30 rfl (by kernel_rfl)) rfl ⟨?_, by repeat (first | with_reducible exact HBW.out | ((with_reducible refine below_set ?_ ?_); rotate_left; focus exact Nat.le_refl _))⟩
                have hq := HE1.out
                simp only [Option.some.injEq, Prod.mk.injEq] at hq
                obtain ⟨rfl, rfl, rfl, rfl, rfl, rfl, rfl, rfl, rfl, rfl, rfl, rfl, rfl, rfl⟩ := hq
                rfl

          · have HE2 : Aside0 (some ((0 : Int), (0 : Int), (0 : Int), (0 : Int), (0 : Int), false, (0 : Int), (0 : Int), (0 : Int), (0 : Int), (0 : Int), (0 : Int), (0 : Int), ue) = some (r1, r2, r3, r4, r5, r6, r7, r8, r9, r10, r11, r12, r13, r14)) := ⟨by simpa [hue] using HE1.out⟩
            have hue2 : (ue != 0) = true := bne_iff_ne.mpr hue
            have hc0 := blk_cell B70.out
            have hf0 := blk_frozen B70.out
            go_wp2
            refine bodyPost_ret (results_ct rfl _ _ w.heap.size 30 #[.int .i64 0, .int .i64 0, .int .i64 0, .int .i64 0, .int .i64 0, .bool false, .int .i64 0, .int .i64 0, .int .i64 0, .int .i64 0, .int .i64 0, .int .i64 0, .int .i64 0] (0, 0) _ rfl (by apply blk_put; (iterate 12 apply blk_set); exact B70.out; simp only [List.setIfInBounds_toArray, List.set_cons_zero, List.set_cons_succ]) Try.underlying30 rfl (by kernel_rfl)) rfl ⟨?_, by repeat (first | with_reducible exact HB7.out | ((with_reducible refine below_set ?_ ?_); rotate_left; focus exact Nat.le_refl _))⟩
            have hq := HE2.out
            simp only [Option.some.injEq, Prod.mk.injEq] at hq
            obtain ⟨rfl, rfl, rfl, rfl, rfl, rfl, rfl, rfl, rfl, rfl, rfl, rfl, rfl, rfl⟩ := hq
            rfl

        · have hq1 : (x5 != 1) = true := bne_iff_ne.mpr h1
          have hq0 : (x5 != 0) = true := bne_iff_ne.mpr h0
          have HE1 : Aside0 (some ((0 : Int), (0 : Int), (0 : Int), (0 : Int), (0 : Int), false, (0 : Int), (0 : Int), (0 : Int), (0 : Int), (0 : Int), (0 : Int), (0 : Int), (2 : Int)) = some (r1, r2, r3, r4, r5, r6, r7, r8, r9, r10, r11, r12, r13, r14)) := by
            exact ⟨by simpa [h0, h1] using H.out⟩
          have hc0 := blk_cell B0.out
          have hf0 := blk_frozen B0.out
          go_wp2
          refine bodyPost_ret (results_ct rfl _ _ w.heap.size 30 #[.int .i64 0, .int .i64 0, .int .i64 0, .int .i64 0, .int .i64 0, .bool false, .int .i64 0, .int .i64 0, .int .i64 0, .int .i64 0, .int .i64 0, .int .i64 0, .int .i64 0] (0, 0) _ rfl (by apply blk_put; (iterate 12 apply blk_set); exact B0.out; simp only [List.setIfInBounds_toArray, List.set_cons_zero, List.set_cons_succ]) Try.underlying30 rfl (by kernel_rfl)) rfl ⟨?_, by repeat (first | with_reducible exact HB5.out | ((with_reducible refine below_set ?_ ?_); rotate_left; focus exact Nat.le_refl _))⟩
          have hq := HE1.out
          simp only [Option.some.injEq, Prod.mk.injEq] at hq
          obtain ⟨rfl, rfl, rfl, rfl, rfl, rfl, rfl, rfl, rfl, rfl, rfl, rfl, rfl, rfl⟩ := hq
          rfl

  · have HE1 := Aside0.mk (H.out)
    have he2 : (err != 0) = true := bne_iff_ne.mpr he
    go_wp2_with (first | (go_at_call 117; refine (take_head k A0 c0 l0 _ rest err w HR0.out HC0.out H1.out).mono ?_; rintro e w5 ⟨A5, c5, rfl, hc5, hr5, hb5, b0, hx⟩; have HB5 := Aside0.mk hb5; have B0 := Aside0.mk b0; have hc0 := blk_cell B0.out; have hf0 := blk_frozen B0.out; clear hc5 hr5 hb5 hx b0))
    refine bodyPost_ret (results_ct rfl _ _ w.heap.size 30 #[.int .i64 0, .int .i64 0, .int .i64 0, .int .i64 0, .int .i64 0, .bool false, .int .i64 0, .int .i64 0, .int .i64 0, .int .i64 0, .int .i64 0, .int .i64 0, .int .i64 0] (0, 0) _ rfl (by apply blk_put; (iterate 12 apply blk_set); exact B0.out; simp only [List.setIfInBounds_toArray, List.set_cons_zero, List.set_cons_succ]) Try.underlying30 rfl (by kernel_rfl)) rfl ⟨?_, by repeat (first | with_reducible exact HB5.out | ((with_reducible refine below_set ?_ ?_); rotate_left; focus exact Nat.le_refl _))⟩
    have hq := (if_neg he).symm.trans HE1.out
    simp only [Option.some.injEq, Prod.mk.injEq] at hq
    obtain ⟨rfl, rfl, rfl, rfl, rfl, rfl, rfl, rfl, rfl, rfl, rfl, rfl, rfl, rfl⟩ := hq
    rfl
end Go.Proofs.Yteopkkoblbmggaa.P
end
