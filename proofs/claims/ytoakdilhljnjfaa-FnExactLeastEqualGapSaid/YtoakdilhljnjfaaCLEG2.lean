/- The program's LeastEqualGap returns what the reference's returns, for all arguments. (Part 2 of 4.) No conditions beside those of the statement. -/
import Derived.Test.YtoakdilhljnjfaaCLEG1
/- (*impl.watch).whole and (*impl.watch).start: they come to what their parts come to. -/
namespace Go.Proofs.Ytoakdilhljnjfaa.Q
open Go.RowKit Go.Proofs.YtoakdilhljnjfaaW.PrintWords Go.Proofs.YtoakdilhljnjfaaW.PrintLast Go.Proofs.YtoakdilhljnjfaaW.PrintMore
set_option linter.unusedVariables false
set_option linter.unusedSimpArgs false

theorem WBlk.drew {W : World} {g : Nat} {P R : Int} {A2 : Option Addr} {c2 : Nat} {gaps : List Int} {nv sv : Value} (h : WBlk W g P R A2 c2 gaps nv sv) : WBlk W.drew g P R A2 c2 gaps nv sv := blk_drew h

def impl_watch_whole.f (k : Nat) (P : Int) (gaps : List Int) (j : Int) : Option Int := (impl_Tasks_states.f k gaps).bind fun s => some (wrap64 (wrap64 (wrap64 (s - 1) * P) + j))
theorem impl_watch_whole.mono : ∀ P gaps j k, LeO (impl_watch_whole.f k P gaps j) (impl_watch_whole.f (k + 1) P gaps j) := by
  intro P gaps j k
  unfold impl_watch_whole.f
  exact LeO.bind (impl_Tasks_states.mono _ _) fun _ => LeO.refl _

set_option maxHeartbeats 1600000 in
set_option maxRecDepth 100000 in
theorem impl_watch_whole.calls (k : Nat) (g : Nat) (P R : Int) (A2 : Option Addr) (c2 : Nat) (gaps : List Int) (nv sv : Value) (j r : Int) (w : World) (hb : WBlk w g P R A2 c2 gaps nv sv) (hr : Kd.C (Kd.int .i64) w A2 gaps.length gaps) (hc : gaps.length ≤ c2) (h : impl_watch_whole.f k P gaps j = some r) :
    Calls Try.prog 121 #[.pointer (some ⟨g, 0, none⟩), .int .i64 j] w fun e w' => e = .returned (.int .i64 r) ∧ Below w.heap.size w w' := by
  have hu1 := Try.underlying67
  have hu2 := Try.underlying42
  have KB := Aside0.mk hb
  have HR := Aside0.mk hr
  have HC := Aside0.mk hc
  clear hb hr hc
  unfold impl_watch_whole.f at h
  obtain ⟨s, e1, h⟩ := Option.bind_eq_some_iff.mp h
  obtain rfl := Option.some.inj h
  have E1 := Aside0.mk e1
  clear e1 h
  have cb0 : w.cell? ⟨g, 0, none⟩ = some (.int .i64 P) := (blk_cell KB.out 0).trans rfl
  have cb2 : w.cell? ⟨g, 2, none⟩ = some (.slice A2 gaps.length c2) := (blk_cell KB.out 2).trans rfl
  go_enter Try.func121, Try.ntmps121
  go_wp2
  refine start_ (n := 15) (S := fun w' => w'.cell? ⟨g, 0, none⟩ = some (.int .i64 P) ∧ w'.cell? ⟨g, 2, none⟩ = some (.slice A2 gaps.length c2)) (ds := []) #[false, false, false, false, false, false, false, false, false, false, false, false, false, false, false] (by kernel_rfl) rfl rfl ⟨cb0, cb2⟩ (fun hHeld => ?_)
  refine pure_ (i := 0) (N := some 5) (v := ?_) (a' := ?_) #[true, false, false, false, false, false, false, false, false, false, false, false, false, false, false] rfl rfl (by kernel_rfl) (fun _ _ _ h => h) (Or.inl ⟨by rfl, ?_⟩) ?_ ?_
  rotate_left
  · intro w'
    go_simp
    with_reducible rfl
  rotate_left
  · simp only [Act.put, List.setIfInBounds_toArray, List.set_cons_zero, List.set_cons_succ, i64_w, i32_w]
    rfl
  refine pure_ (i := 1) (N := some 6) (v := ?_) (a' := ?_) #[true, true, false, false, false, false, false, false, false, false, false, false, false, false, false] rfl rfl (by kernel_rfl) (fun _ _ _ h => h) (Or.inl ⟨by rfl, ?_⟩) ?_ ?_
  rotate_left
  · intro w'
    go_simp
    with_reducible rfl
  rotate_left
  · simp only [Act.put, List.setIfInBounds_toArray, List.set_cons_zero, List.set_cons_succ, i64_w, i32_w]
    rfl
  refine pure_ (i := 2) (N := some 7) (v := ?_) (a' := ?_) #[true, true, true, false, false, false, false, false, false, false, false, false, false, false, false] rfl rfl (by kernel_rfl) (fun _ _ _ h => h) (Or.inl ⟨by rfl, ?_⟩) ?_ ?_
  rotate_left
  · intro w'
    go_simp
    with_reducible rfl
  rotate_left
  · simp only [Act.put, List.setIfInBounds_toArray, List.set_cons_zero, List.set_cons_succ, i64_w, i32_w]
    rfl
  refine pure_ (i := 6) (N := some 11) (v := ?_) (a' := ?_) #[true, true, true, false, false, false, true, false, false, false, false, false, false, false, false] rfl rfl (by kernel_rfl) (fun _ _ _ h => h) (Or.inl ⟨by rfl, ?_⟩) ?_ ?_
  rotate_left
  · intro w'
    go_simp
    with_reducible rfl
  rotate_left
  · simp only [Act.put, List.setIfInBounds_toArray, List.set_cons_zero, List.set_cons_succ, i64_w, i32_w]
    rfl
  refine pure_ (i := 7) (N := some 12) (v := ?_) (a' := ?_) #[true, true, true, false, false, false, true, true, false, false, false, false, false, false, false] rfl rfl (by kernel_rfl) (fun _ _ _ h => h) (Or.inl ⟨by rfl, ?_⟩) ?_ ?_
  rotate_left
  · intro w'
    go_simp
    with_reducible rfl
  rotate_left
  · simp only [Act.put, List.setIfInBounds_toArray, List.set_cons_zero, List.set_cons_succ, i64_w, i32_w]
    rfl
  refine pure_ (i := 8) (N := some 13) (v := ?_) (a' := ?_) #[true, true, true, false, false, false, true, true, true, false, false, false, false, false, false] rfl rfl (by kernel_rfl) (fun _ _ _ h => h) (Or.inl ⟨by rfl, ?_⟩) ?_ ?_
  rotate_left
  · intro w'
    go_simp
    with_reducible rfl
  rotate_left
  · simp only [Act.put, List.setIfInBounds_toArray, List.set_cons_zero, List.set_cons_succ, i64_w, i32_w]
    rfl
  refine pure_ (i := 9) (N := some 14) (v := ?_) (a' := ?_) #[true, true, true, false, false, false, true, true, true, true, false, false, false, false, false] rfl rfl (by kernel_rfl) (fun _ _ _ h => h) (Or.inl ⟨by rfl, ?_⟩) ?_ ?_
  rotate_left
  · intro w'
    go_simp
    with_reducible rfl
  rotate_left
  · simp only [Act.put, List.setIfInBounds_toArray, List.set_cons_zero, List.set_cons_succ, i64_w, i32_w]
    rfl
  refine pure_ (i := 12) (N := some 17) (v := ?_) (a' := ?_) #[true, true, true, false, false, false, true, true, true, true, false, false, true, false, false] rfl rfl (by kernel_rfl) (fun _ _ _ h => h) (Or.inl ⟨by rfl, ?_⟩) ?_ ?_
  rotate_left
  · intro w'
    go_simp
    with_reducible rfl
  rotate_left
  · simp only [Act.put, List.setIfInBounds_toArray, List.set_cons_zero, List.set_cons_succ, i64_w, i32_w]
    rfl
  refine take_ (i := 3) (N := some 8) (v := ?_) (a' := ?_) #[true, true, true, true, false, false, true, true, true, true, false, false, true, false, false] rfl rfl (by kernel_rfl) (fun _ _ _ h => h) (Or.inl ⟨by rfl, ?_⟩) hHeld ?_ ?_
  rotate_left
  · rintro w' ⟨s0, s1⟩
    go_simp
    with_reducible rfl
  rotate_left
  · simp only [Act.put, List.setIfInBounds_toArray, List.set_cons_zero, List.set_cons_succ, i64_w, i32_w]
    rfl
  refine take_ (i := 10) (N := some 15) (v := ?_) (a' := ?_) #[true, true, true, true, false, false, true, true, true, true, true, false, true, false, false] rfl rfl (by kernel_rfl) (fun _ _ _ h => h) (Or.inl ⟨by rfl, ?_⟩) hHeld ?_ ?_
  rotate_left
  · rintro w' ⟨s0, s1⟩
    go_simp
    with_reducible rfl
  rotate_left
  · simp only [Act.put, List.setIfInBounds_toArray, List.set_cons_zero, List.set_cons_succ, i64_w, i32_w]
    rfl
  refine one_ (i := 4) (N := some 9) #[true, true, true, true, true, false, true, true, true, true, true, false, true, false, false] rfl rfl (by kernel_rfl) (by decide) (fun K hK => ?_)
  refine goes_ Try.func119 (by kernel_rfl) rfl #[.agg #[.slice A2 gaps.length c2]] (by rfl) rfl rfl (by simp only [List.map_toArray, List.map_cons, List.map_nil]; rfl) ?_
  with_reducible refine (impl_Tasks_states.calls k A2 c2 gaps s _ (Kd.C_drew HR.out) HC.out E1.out).mono ?_
  rintro e w3 ⟨rfl, hb⟩
  refine ⟨_, rfl, ?_⟩
  have HB3 := Aside0.mk (below_more ((Below.refl w.heap.size w).drew) hb)
  have KB3 := Aside0.mk (blk_below KB.out HB3.out)
  clear hb
  refine hK.out _ _ ⟨(blk_cell KB3.out 0).trans rfl, (blk_cell KB3.out 2).trans rfl⟩ (fun hHeld => ?_)
  clear hK K
  refine norm_ (a' := ?_) ?_ ?_
  rotate_left
  · show Act.put _ (some 9) _ = _
    simp only [Act.put, List.setIfInBounds_toArray, List.set_cons_zero, List.set_cons_succ, i64_w, i32_w]
    rfl
  refine pure_ (i := 5) (N := some 10) (v := ?_) (a' := ?_) #[true, true, true, true, true, true, true, true, true, true, true, false, true, false, false] rfl rfl (by kernel_rfl) (fun _ _ _ h => h) (Or.inl ⟨by rfl, ?_⟩) ?_ ?_
  rotate_left
  · intro w'
    go_simp
    with_reducible rfl
  rotate_left
  · simp only [Act.put, List.setIfInBounds_toArray, List.set_cons_zero, List.set_cons_succ, i64_w, i32_w]
    rfl
  refine pure_ (i := 11) (N := some 16) (v := ?_) (a' := ?_) #[true, true, true, true, true, true, true, true, true, true, true, true, true, false, false] rfl rfl (by kernel_rfl) (fun _ _ _ h => h) (Or.inl ⟨by rfl, ?_⟩) ?_ ?_
  rotate_left
  · intro w'
    go_simp
    with_reducible rfl
  rotate_left
  · simp only [Act.put, List.setIfInBounds_toArray, List.set_cons_zero, List.set_cons_succ, i64_w, i32_w]
    rfl
  refine pure_ (i := 13) (N := some 18) (v := ?_) (a' := ?_) #[true, true, true, true, true, true, true, true, true, true, true, true, true, true, false] rfl rfl (by kernel_rfl) (fun _ _ _ h => h) (Or.inl ⟨by rfl, ?_⟩) ?_ ?_
  rotate_left
  · intro w'
    go_simp
    with_reducible rfl
  rotate_left
  · simp only [Act.put, List.setIfInBounds_toArray, List.set_cons_zero, List.set_cons_succ, i64_w, i32_w]
    rfl
  refine pure_ (i := 14) (N := some 4) (v := ?_) (a' := ?_) #[true, true, true, true, true, true, true, true, true, true, true, true, true, true, true] rfl rfl (by kernel_rfl) (fun _ _ _ h => h) (Or.inl ⟨by rfl, ?_⟩) ?_ ?_
  rotate_left
  · intro w'
    go_simp
    with_reducible rfl
  rotate_left
  · simp only [Act.put, List.setIfInBounds_toArray, List.set_cons_zero, List.set_cons_succ, i64_w, i32_w]
    rfl
  refine done_ (by kernel_rfl) ?_
  go_wp2
  go_ret
  exact ⟨rfl, HB3.out⟩

def impl_watch_start.l : Nat → Int → List Int → List Bool → Int → Option Int
  | 0, _, _, _, _ => none
  | k + 1, P, gaps, safe, j => if j < P then ((impl_watch_whole.f k P gaps j).bind fun n => if 0 ≤ n then (if n < (safe.length : Int) then (if rdOf false safe n = true then some n else impl_watch_start.l k P gaps safe (wrap64 (j + 1))) else none) else none) else some (-1)
def impl_watch_start.f (k : Nat) (P : Int) (gaps : List Int) (safe : List Bool) : Option Int := impl_watch_start.l k P gaps safe 0
theorem impl_watch_start.mono_l : ∀ k P gaps safe j, LeO (impl_watch_start.l k P gaps safe j) (impl_watch_start.l (k + 1) P gaps safe j)
  | 0 => fun _ _ _ _ r h => by simp [impl_watch_start.l] at h
  | k + 1 => by
    intro P gaps safe j
    rw [impl_watch_start.l, impl_watch_start.l]
    exact LeO.ite (LeO.bind (impl_watch_whole.mono _ _ _ _) fun _ => LeO.ite (LeO.ite (LeO.ite (LeO.refl _) (impl_watch_start.mono_l k _ _ _ _)) (LeO.refl _)) (LeO.refl _)) (LeO.refl _)

set_option maxHeartbeats 1600000 in
set_option maxRecDepth 100000 in
theorem impl_watch_start.calls (k : Nat) (g : Nat) (P R : Int) (A2 : Option Addr) (c2 : Nat) (gaps : List Int) (nv : Value) (A4 : Option Addr) (c4 : Nat) (safe : List Bool) (r : Int) (w : World) (hb : WBlk w g P R A2 c2 gaps nv (.slice A4 safe.length c4)) (hr : Kd.C (Kd.int .i64) w A2 gaps.length gaps) (hc : gaps.length ≤ c2) (hs : Kd.C Kd.bool w A4 safe.length safe) (h : impl_watch_start.f k P gaps safe = some r) :
    Calls Try.prog 102 #[.pointer (some ⟨g, 0, none⟩)] w fun e w' => e = .returned (.int .i64 r) ∧ Below w.heap.size w w' := by
  have hu1 := Try.underlying67
  have hu2 := Try.underlying42
  have KB := Aside0.mk hb
  have HR := Aside0.mk hr
  have HC := Aside0.mk hc
  have HS := Aside0.mk hs
  have HA := Aside0.mk (show impl_watch_start.l k P gaps safe 0 = some r from h)
  have HB := Aside0.mk (Below.refl w.heap.size w)
  have cb0 : w.cell? ⟨g, 0, none⟩ = some (.int .i64 P) := (blk_cell KB.out 0).trans rfl
  clear hb hr hc hs h
  go_enter Try.func102, Try.ntmps102
  go_wp2
  clear cb0
  go_loopg [9] k (fun kq v9 wr => ∃ (j : Int), v9 = .int .i64 j ∧ Aside0 (impl_watch_start.l kq P gaps safe j = some r) ∧ Aside0 (kq ≤ k) ∧ Aside0 (Below w.heap.size w wr))
  case atStart => exact ⟨0, rfl, HA, ⟨Nat.le_refl _⟩, HB⟩
  case round =>
    clear HA HB
    obtain ⟨j, rfl, HA, HQ, HB⟩ := hrel
    cases gk with
    | zero => exact absurd HA.out (by simp [impl_watch_start.l])
    | succ k1 =>
      have hs := HA.out
      rw [impl_watch_start.l] at hs
      clear HA
      have KBr : Aside0 (WBlk wr g P R A2 c2 gaps nv (.slice A4 safe.length c4)) := ⟨blk_below KB.out HB.out⟩
      by_cases hj : j < P
      · rw [if_pos hj] at hs
        obtain ⟨n, e1, hs⟩ := Option.bind_eq_some_iff.mp hs
        have E1 := Aside0.mk e1
        have hjb : decide (j < P) = true := decide_eq_true hj
        clear e1 hj
        by_cases h0 : 0 ≤ n
        · rw [if_pos h0] at hs
          by_cases h1 : n < (safe.length : Int)
          · rw [if_pos h1] at hs
            obtain ⟨ad, rfl, hcell⟩ := Kd.at_bool (Kd.C_below HS.out HB.out) n h0 h1
            have HCELL := Aside0.mk hcell
            clear hcell
            cases hsf : rdOf false safe n with
            | true =>
              rw [if_pos hsf] at hs
              obtain rfl := Option.some.inj hs
              clear hs
              go_wp2
              refine start_ (n := 9) (S := fun w' => w'.cell? ⟨g, 4, none⟩ = some (.slice (some ad) safe.length c4) ∧ w'.cell? (ad.add n.toNat) = some (.bool true)) (ds := []) #[false, false, false, false, false, false, false, false, false] (by kernel_rfl) rfl rfl ⟨(blk_cell KBr.out 4).trans rfl, HCELL.out.trans (by rw [hsf])⟩ (fun hHeld => ?_)
              refine pure_ (i := 0) (N := some 12) (v := ?_) (a' := ?_) #[true, false, false, false, false, false, false, false, false] rfl rfl (by kernel_rfl) (fun _ _ _ h => h) (Or.inl ⟨by rfl, ?_⟩) ?_ ?_
              rotate_left
              · intro w'
                go_simp
                with_reducible rfl
              rotate_left
              · simp only [Act.put, List.setIfInBounds_toArray, List.set_cons_zero, List.set_cons_succ, i64_w, i32_w]
                rfl
              refine pure_ (i := 1) (N := some 13) (v := ?_) (a' := ?_) #[true, true, false, false, false, false, false, false, false] rfl rfl (by kernel_rfl) (fun _ _ _ h => h) (Or.inl ⟨by rfl, ?_⟩) ?_ ?_
              rotate_left
              · intro w'
                go_simp
                with_reducible rfl
              rotate_left
              · simp only [Act.put, List.setIfInBounds_toArray, List.set_cons_zero, List.set_cons_succ, i64_w, i32_w]
                rfl
              refine pure_ (i := 2) (N := some 14) (v := ?_) (a' := ?_) #[true, true, true, false, false, false, false, false, false] rfl rfl (by kernel_rfl) (fun _ _ _ h => h) (Or.inl ⟨by rfl, ?_⟩) ?_ ?_
              rotate_left
              · intro w'
                go_simp
                with_reducible rfl
              rotate_left
              · simp only [Act.put, List.setIfInBounds_toArray, List.set_cons_zero, List.set_cons_succ, i64_w, i32_w]
                rfl
              refine pure_ (i := 4) (N := some 16) (v := ?_) (a' := ?_) #[true, true, true, false, true, false, false, false, false] rfl rfl (by kernel_rfl) (fun _ _ _ h => h) (Or.inl ⟨by rfl, ?_⟩) ?_ ?_
              rotate_left
              · intro w'
                go_simp
                with_reducible rfl
              rotate_left
              · simp only [Act.put, List.setIfInBounds_toArray, List.set_cons_zero, List.set_cons_succ, i64_w, i32_w]
                rfl
              refine pure_ (i := 5) (N := some 17) (v := ?_) (a' := ?_) #[true, true, true, false, true, true, false, false, false] rfl rfl (by kernel_rfl) (fun _ _ _ h => h) (Or.inl ⟨by rfl, ?_⟩) ?_ ?_
              rotate_left
              · intro w'
                go_simp
                with_reducible rfl
              rotate_left
              · simp only [Act.put, List.setIfInBounds_toArray, List.set_cons_zero, List.set_cons_succ, i64_w, i32_w]
                rfl
              refine take_ (i := 3) (N := some 15) (v := ?_) (a' := ?_) #[true, true, true, true, true, true, false, false, false] rfl rfl (by kernel_rfl) (fun _ _ _ h => h) (Or.inl ⟨by rfl, ?_⟩) hHeld ?_ ?_
              rotate_left
              · rintro w' ⟨s0, s1⟩
                go_simp
                with_reducible rfl
              rotate_left
              · simp only [Act.put, List.setIfInBounds_toArray, List.set_cons_zero, List.set_cons_succ, i64_w, i32_w]
                rfl
              refine one_ (i := 6) (N := some 18) #[true, true, true, true, true, true, true, false, false] rfl rfl (by kernel_rfl) (by decide) (fun K hK => ?_)
              refine goes_ Try.func121 (by kernel_rfl) rfl #[.pointer (some ⟨g, 0, none⟩), .int .i64 j] (by rfl) rfl rfl (by simp only [List.map_toArray, List.map_cons, List.map_nil]; rfl) ?_
              with_reducible refine (impl_watch_whole.calls k1 g P R A2 c2 gaps nv _ j n _ (WBlk.drew KBr.out) (Kd.C_drew (Kd.C_below HR.out HB.out)) HC.out E1.out).mono ?_
              rintro e w3 ⟨rfl, hb⟩
              refine ⟨_, rfl, ?_⟩
              have HB3 := Aside0.mk (below_more HB.out.drew hb)
              have KB3 : Aside0 (WBlk w3 g P R A2 c2 gaps nv (.slice (some ad) safe.length c4)) := ⟨blk_below KB.out HB3.out⟩
              refine hK.out _ _ ⟨(blk_cell KB3.out 4).trans rfl, pw_cell_below hb hHeld.2⟩ (fun hHeld => ?_)
              clear hK K
              refine norm_ (a' := ?_) ?_ ?_
              rotate_left
              · show Act.put _ (some 18) _ = _
                simp only [Act.put, List.setIfInBounds_toArray, List.set_cons_zero, List.set_cons_succ, i64_w, i32_w]
                rfl
              refine pure_ (i := 7) (N := some 19) (v := ?_) (a' := ?_) #[true, true, true, true, true, true, true, true, false] rfl rfl (by kernel_rfl) (fun _ _ _ h => h) (Or.inl ⟨by rfl, ?_⟩) ?_ ?_
              rotate_left
              · intro w'
                go_simp
                with_reducible rfl
              rotate_left
              · simp only [Act.put, List.setIfInBounds_toArray, List.set_cons_zero, List.set_cons_succ, i64_w, i32_w]
                rfl
              refine take_ (i := 8) (N := some 20) (v := ?_) (a' := ?_) #[true, true, true, true, true, true, true, true, true] rfl rfl (by kernel_rfl) (fun _ _ _ h => h) (Or.inl ⟨by rfl, ?_⟩) hHeld ?_ ?_
              rotate_left
              · rintro w' ⟨s0, s1⟩
                go_simp
                with_reducible rfl
              rotate_left
              · simp only [Act.put, List.setIfInBounds_toArray, List.set_cons_zero, List.set_cons_succ, i64_w, i32_w]
                rfl
              refine done_ (by kernel_rfl) ?_
              go_wp2_with (first | (go_at_call 121; refine (impl_watch_whole.calls k1 g P R A2 c2 gaps nv _ j n _ KB3.out (Kd.C_below HR.out HB3.out) HC.out E1.out).mono ?_; rintro e w4 ⟨rfl, hb⟩; have HB4 := Aside0.mk (below_more HB3.out hb); clear hb))
              go_ret
              exact ⟨rfl, HB4.out⟩
            | false =>
              rw [if_neg (by rw [hsf]; decide)] at hs
              have HA := Aside0.mk hs
              clear hs
              go_wp2
              refine start_ (n := 9) (S := fun w' => w'.cell? ⟨g, 4, none⟩ = some (.slice (some ad) safe.length c4) ∧ w'.cell? (ad.add n.toNat) = some (.bool false)) (ds := []) #[false, false, false, false, false, false, false, false, false] (by kernel_rfl) rfl rfl ⟨(blk_cell KBr.out 4).trans rfl, HCELL.out.trans (by rw [hsf])⟩ (fun hHeld => ?_)
              refine pure_ (i := 0) (N := some 12) (v := ?_) (a' := ?_) #[true, false, false, false, false, false, false, false, false] rfl rfl (by kernel_rfl) (fun _ _ _ h => h) (Or.inl ⟨by rfl, ?_⟩) ?_ ?_
              rotate_left
              · intro w'
                go_simp
                with_reducible rfl
              rotate_left
              · simp only [Act.put, List.setIfInBounds_toArray, List.set_cons_zero, List.set_cons_succ, i64_w, i32_w]
                rfl
              refine pure_ (i := 1) (N := some 13) (v := ?_) (a' := ?_) #[true, true, false, false, false, false, false, false, false] rfl rfl (by kernel_rfl) (fun _ _ _ h => h) (Or.inl ⟨by rfl, ?_⟩) ?_ ?_
              rotate_left
              · intro w'
                go_simp
                with_reducible rfl
              rotate_left
              · simp only [Act.put, List.setIfInBounds_toArray, List.set_cons_zero, List.set_cons_succ, i64_w, i32_w]
                rfl
              refine pure_ (i := 2) (N := some 14) (v := ?_) (a' := ?_) #[true, true, true, false, false, false, false, false, false] rfl rfl (by kernel_rfl) (fun _ _ _ h => h) (Or.inl ⟨by rfl, ?_⟩) ?_ ?_
              rotate_left
              · intro w'
                go_simp
                with_reducible rfl
              rotate_left
              · simp only [Act.put, List.setIfInBounds_toArray, List.set_cons_zero, List.set_cons_succ, i64_w, i32_w]
                rfl
              refine pure_ (i := 4) (N := some 16) (v := ?_) (a' := ?_) #[true, true, true, false, true, false, false, false, false] rfl rfl (by kernel_rfl) (fun _ _ _ h => h) (Or.inl ⟨by rfl, ?_⟩) ?_ ?_
              rotate_left
              · intro w'
                go_simp
                with_reducible rfl
              rotate_left
              · simp only [Act.put, List.setIfInBounds_toArray, List.set_cons_zero, List.set_cons_succ, i64_w, i32_w]
                rfl
              refine pure_ (i := 5) (N := some 17) (v := ?_) (a' := ?_) #[true, true, true, false, true, true, false, false, false] rfl rfl (by kernel_rfl) (fun _ _ _ h => h) (Or.inl ⟨by rfl, ?_⟩) ?_ ?_
              rotate_left
              · intro w'
                go_simp
                with_reducible rfl
              rotate_left
              · simp only [Act.put, List.setIfInBounds_toArray, List.set_cons_zero, List.set_cons_succ, i64_w, i32_w]
                rfl
              refine take_ (i := 3) (N := some 15) (v := ?_) (a' := ?_) #[true, true, true, true, true, true, false, false, false] rfl rfl (by kernel_rfl) (fun _ _ _ h => h) (Or.inl ⟨by rfl, ?_⟩) hHeld ?_ ?_
              rotate_left
              · rintro w' ⟨s0, s1⟩
                go_simp
                with_reducible rfl
              rotate_left
              · simp only [Act.put, List.setIfInBounds_toArray, List.set_cons_zero, List.set_cons_succ, i64_w, i32_w]
                rfl
              refine one_ (i := 6) (N := some 18) #[true, true, true, true, true, true, true, false, false] rfl rfl (by kernel_rfl) (by decide) (fun K hK => ?_)
              refine goes_ Try.func121 (by kernel_rfl) rfl #[.pointer (some ⟨g, 0, none⟩), .int .i64 j] (by rfl) rfl rfl (by simp only [List.map_toArray, List.map_cons, List.map_nil]; rfl) ?_
              with_reducible refine (impl_watch_whole.calls k1 g P R A2 c2 gaps nv _ j n _ (WBlk.drew KBr.out) (Kd.C_drew (Kd.C_below HR.out HB.out)) HC.out E1.out).mono ?_
              rintro e w3 ⟨rfl, hb⟩
              refine ⟨_, rfl, ?_⟩
              have HB3 := Aside0.mk (below_more HB.out.drew hb)
              have KB3 : Aside0 (WBlk w3 g P R A2 c2 gaps nv (.slice (some ad) safe.length c4)) := ⟨blk_below KB.out HB3.out⟩
              refine hK.out _ _ ⟨(blk_cell KB3.out 4).trans rfl, pw_cell_below hb hHeld.2⟩ (fun hHeld => ?_)
              clear hK K
              refine norm_ (a' := ?_) ?_ ?_
              rotate_left
              · show Act.put _ (some 18) _ = _
                simp only [Act.put, List.setIfInBounds_toArray, List.set_cons_zero, List.set_cons_succ, i64_w, i32_w]
                rfl
              refine pure_ (i := 7) (N := some 19) (v := ?_) (a' := ?_) #[true, true, true, true, true, true, true, true, false] rfl rfl (by kernel_rfl) (fun _ _ _ h => h) (Or.inl ⟨by rfl, ?_⟩) ?_ ?_
              rotate_left
              · intro w'
                go_simp
                with_reducible rfl
              rotate_left
              · simp only [Act.put, List.setIfInBounds_toArray, List.set_cons_zero, List.set_cons_succ, i64_w, i32_w]
                rfl
              refine take_ (i := 8) (N := some 20) (v := ?_) (a' := ?_) #[true, true, true, true, true, true, true, true, true] rfl rfl (by kernel_rfl) (fun _ _ _ h => h) (Or.inl ⟨by rfl, ?_⟩) hHeld ?_ ?_
              rotate_left
              · rintro w' ⟨s0, s1⟩
                go_simp
                with_reducible rfl
              rotate_left
              · simp only [Act.put, List.setIfInBounds_toArray, List.set_cons_zero, List.set_cons_succ, i64_w, i32_w]
                rfl
              refine done_ (by kernel_rfl) ?_
              go_wp2
              go_roundg k1
              case measure => have := HQ.out; omega
              case rel => exact ⟨wrap64 (j + 1), (by first | rfl | (simp; done)), HA, ⟨by have := HQ.out; omega⟩, HB3⟩
          · rw [if_neg h1] at hs; cases hs
        · rw [if_neg h0] at hs; cases hs
      · rw [if_neg hj] at hs
        obtain rfl := Option.some.inj hs
        have hjb : decide (j < P) = false := decide_eq_false hj
        clear hs hj
        go_wp2
        go_ret
        exact ⟨rfl, HB.out⟩
end Go.Proofs.Ytoakdilhljnjfaa.Q
/- (*impl.watch).move: it comes to what its parts come to. -/
namespace Go.Proofs.Ytoakdilhljnjfaa.Q
open Go.RowKit Go.Proofs.YtoakdilhljnjfaaW.PrintWords Go.Proofs.YtoakdilhljnjfaaW.PrintLast Go.Proofs.YtoakdilhljnjfaaW.PrintMore
set_option linter.unusedVariables false
set_option linter.unusedSimpArgs false

def mvRow (safe : List Bool) : List Int → Option Int
  | [] => some (-1)
  | y :: l => if 0 ≤ y ∧ y < (safe.length : Int) then (if rdOf false safe y = true then some y else mvRow safe l) else none
def watchMv (next : List (List Int)) (safe : List Bool) (n : Int) : Option Int := if 0 ≤ n ∧ n < (next.length : Int) then mvRow safe (rd_L2 next n) else none

set_option maxHeartbeats 1600000 in
set_option maxRecDepth 100000 in
theorem watchMv.calls (g : Nat) (P R : Int) (A2 : Option Addr) (c2 : Nat) (gaps : List Int) (A3 : Option Addr) (c3 : Nat) (next : List (List Int)) (A4 : Option Addr) (c4 : Nat) (safe : List Bool) (n r : Int) (w : World) (hb : WBlk w g P R A2 c2 gaps (.slice A3 next.length c3) (.slice A4 safe.length c4)) (hn : Kd.C (Kd.slice 2 (Kd.int .i64)) w A3 next.length next) (hs : Kd.C Kd.bool w A4 safe.length safe) (h : watchMv next safe n = some r) :
    Calls Try.prog 130 #[.pointer (some ⟨g, 0, none⟩), .int .i64 n] w fun e w' => e = .returned (.int .i64 r) ∧ Below w.heap.size w w' := by
  unfold watchMv at h
  split at h
  · rename_i hh
    obtain ⟨h0, h1⟩ := hh
    obtain ⟨ad, A0, c0, rfl, hx, hl, hi⟩ := at_L2 hn n h0 h1
    have KB := Aside0.mk hb
    have HR := Aside0.mk hi
    have HS := Aside0.mk hs
    have HB := Aside0.mk (Below.refl w.heap.size w)
    have hm := Kd.C_max hi
    have HA := Aside0.mk (show mvRow safe ((rd_L2 next n).drop 0) = some r from h)
    have cb3 : w.cell? ⟨g, 3, none⟩ = some (.slice (some ad) next.length c3) := (blk_cell KB.out 3).trans rfl
    generalize rd_L2 next n = row at *
    clear hb hn hs h hl hi
    go_enter Try.func130, Try.ntmps130
    go_wp2
    clear cb3 hx
    go_loopw [15] (fun v15 wr => ∃ q : Nat, q ≤ row.length ∧ v15 = .int .i64 q ∧ Aside0 (mvRow safe (row.drop q) = some r) ∧ Aside0 (Below w.heap.size w wr)) (fun v _ => row.length - (intOf v).toNat)
    case atStart => exact ⟨0, Nat.zero_le _, rfl, HA, HB⟩
    case round =>
      clear HA HB
      obtain ⟨q, hq, rfl, HA, HB⟩ := hrel
      by_cases hlt : q < row.length
      · have hs := HA.out
        rw [List.drop_eq_getElem_cons hlt] at hs
        have hy : row[q] = rd row (q : Int) := by simp [rd, hlt]
        rw [hy] at hs
        unfold mvRow at hs
        clear HA hy
        split at hs
        · rename_i hh
          obtain ⟨y0, y1⟩ := hh
          have hltd : decide ((q : Int) < (row.length : Int)) = true := decide_eq_true (by omega)
          have q0 : (0 : Int) ≤ (q : Int) := by omega
          have q1 : (q : Int) < (row.length : Int) := by omega
          obtain ⟨ar, rfl, cr⟩ := Kd.at_int (Kd.C_below HR.out HB.out) (q : Int) q0 q1
          rw [Int.toNat_natCast] at cr
          obtain ⟨as4, rfl, cs⟩ := Kd.at_bool (Kd.C_below HS.out HB.out) (rd row (q : Int)) y0 y1
          have cb4 : wr.cell? ⟨g, 4, none⟩ = some (.slice (some as4) safe.length c4) := (blk_cell (blk_below KB.out HB.out) 4).trans rfl
          have hwq : wrap64 ((q : Int) + 1) = ((q + 1 : Nat) : Int) := by unfold wrap64; omega
          generalize rd row (q : Int) = y at *
          cases hsf : rdOf false safe y with
          | true =>
            rw [if_pos hsf] at hs
            obtain rfl := Option.some.inj hs
            rw [hsf] at cs
            clear hs hsf
            go_wp2
            go_ret
            exact ⟨rfl, HB.out⟩
          | false =>
            rw [if_neg (by rw [hsf]; decide)] at hs
            rw [hsf] at cs
            have HA := Aside0.mk hs
            clear hs hsf
            go_wp2
            go_roundw
            case rel => exact ⟨q + 1, by omega, by first | rfl | go_num | (simp [hwq]; done), HA, HB⟩
            case measure => first | (simp [intOf]; omega) | (simp only [hwq, intOf]; omega)
        · cases hs
      · obtain rfl : q = row.length := by omega
        have hltd : decide ((row.length : Int) < (row.length : Int)) = false := by simp
        have hs := HA.out
        rw [List.drop_length, mvRow] at hs
        obtain rfl := Option.some.inj hs
        clear hs hlt
        go_wp2
        go_ret
        exact ⟨rfl, HB.out⟩
  · cases h
end Go.Proofs.Ytoakdilhljnjfaa.Q
-- written by wip/tools/printx.py (this session's) out of the translation; Lean checks it
namespace Go.Proofs.Ytoakdilhljnjfaa.Q
open Go.RowKit Go.Proofs.YtoakdilhljnjfaaW.PrintWords Go.Proofs.YtoakdilhljnjfaaW.PrintLast Go.Proofs.YtoakdilhljnjfaaW.PrintMore
attribute [local go_sem] max2_int min2_int max_two min_two max_three min_three max_four min_four   -- for this text's walks alone
set_option linter.unusedVariables false
set_option linter.unusedSimpArgs false

/-! ### spec_l01K: function 116 -/
def spec_l01K.f (l0_0 : List Int) : Option (Int) := some (l0_0.length : Int)
set_option maxHeartbeats 8000000 in
set_option maxRecDepth 100000 in
theorem spec_l01K.calls (A0_0 : Option Addr) (c0_0 : Nat) (l0_0 : List Int) (r : Int) (w : World) (hr0_0 : Kd.C (Kd.int .i64) w A0_0 l0_0.length l0_0) (hc0_0 : l0_0.length ≤ c0_0) (h : spec_l01K.f l0_0 = some r) :
    Calls Try.prog 116 #[.agg #[.slice A0_0 l0_0.length c0_0]] w fun e w' => e = .returned (.int .i64 r) ∧ Below w.heap.size w w' := by
  have hu67 := Try.underlying67
  have HR0_0 := Aside0.mk hr0_0
  have HC0_0 := Aside0.mk hc0_0
  clear hr0_0 hc0_0
  have HB := Aside0.mk (Below.refl w.heap.size w)
  have H : (some (l0_0.length : Int)) = some r := h
  clear h
  obtain rfl := Option.some.inj H
  go_enter Try.func116, Try.ntmps116
  go_wp2_with (first | ((with_reducible refine gate_dst (N := 1) rfl ?_); refine box_event ?hg (N := 1) ?hd (cs := #[.slice A0_0 l0_0.length c0_0]) (t := 67) ?hr ?_; (case hd => rfl); (case hg => rfl); (case hr => first | (go_simp; done) | (go_simp; rfl)); intro gb331 hg w2 hbox hb; have n0_ := Aside0.mk (below_step (by repeat (first | (with_reducible first | exact HB.out | apply below_alloc | apply pw_below_drewN | apply below_drew1) | exact HB.out)) hb); have n1_ := Aside0.mk (hbox); have n2_ := Aside0.mk ((by rw [hg]; exact (below_size (by repeat (first | (with_reducible first | exact HB.out | apply below_alloc | apply pw_below_drewN | apply below_drew1) | exact HB.out))) : w.heap.size ≤ gb331)); have n3_ := Aside0.mk ((by rw [hg]; exact (below_size (by repeat (first | (with_reducible first | exact HB.out | apply below_alloc | apply pw_below_drewN | apply below_drew1) | exact HB.out))) : w.heap.size ≤ gb331)); clear HB; have HB := n0_; have BK331 := n1_; have GW331 := n2_; have GE331 := n3_; clear n0_ n1_ n2_ n3_; clear hb hbox hg; have hcz3_0 : w2.cell? ⟨gb331, 0, none⟩ = some (.slice A0_0 l0_0.length c0_0) := (blk_cell BK331.out 0).trans rfl; have hfz3_0 := blk_frozen BK331.out 0))
  go_ret
  exact ⟨by first | rfl | (simp [errW_none, errW_some] <;> rfl) | (simp [*, errW_none, errW_some] <;> rfl), by repeat (first | (with_reducible first | exact HB.out | apply below_alloc | apply pw_below_drewN | apply below_drew1 | refine below_set ?_ GE331.out) | exact HB.out)⟩

end Go.Proofs.Ytoakdilhljnjfaa.Q
-- written by wip/tools/printx.py (this session's) out of the translation; Lean checks it
namespace Go.Proofs.Ytoakdilhljnjfaa.Q
open Go.RowKit Go.Proofs.YtoakdilhljnjfaaW.PrintWords Go.Proofs.YtoakdilhljnjfaaW.PrintLast Go.Proofs.YtoakdilhljnjfaaW.PrintMore
attribute [local go_sem] max2_int min2_int max_two min_two max_three min_three max_four min_four   -- for this text's walks alone
set_option linter.unusedVariables false
set_option linter.unusedSimpArgs false

/-! ### spec_l09State: function 97 -/
def spec_l09State.l0 : Nat → Int → Int → List Int → Int → List Int → Option (List Int × Int)
  | 0, _, _, _, _, _ => none
  | k + 1, x6, x7, x8, x9, x341000 => if x9 ≥ 0 then (if 0 ≤ x9 then (if x9 < (x341000.length : Int) then (if (rd x341000 x9) = 0 then (none) else (if x9 < (x8.length : Int) then (spec_l09State.l0 k x6 (wrap64 (Int.tdiv x7 (rd x341000 x9))) (x8.set (x9 : Int).toNat (wrap64 ((Int.tmod x7 (rd x341000 x9)) + 1))) (wrap64 (x9 - 1)) x341000) else (none))) else (none)) else (none)) else (some (x8, x6))
def spec_l09State.f (k : Nat) (l0_0 : List Int) (a1 : Int) : Option (List Int × Int) := (spec_l01K.f l0_0).bind fun t341 => (if t341 = 0 then (none) else ((spec_l01K.f l0_0).bind fun t342 => (if t342 = 0 then (none) else ((spec_l01K.f l0_0).bind fun t343 => (if 0 ≤ t343 then (if (t343 : Int).toNat ≤ 35184372088832 then ((spec_l01K.f l0_0).bind fun t347 => (spec_l09State.l0 k (Int.tmod a1 t341) (wrap64 (Int.tdiv a1 t342)) (List.replicate (t343 : Int).toNat 0) (wrap64 (t347 - 1)) l0_0)) else (none)) else (none))))))
theorem spec_l09State.mono_l : ∀ k, (∀ y0 y1 y2 y3 y4, LeO (spec_l09State.l0 k y0 y1 y2 y3 y4) (spec_l09State.l0 (k + 1) y0 y1 y2 y3 y4))
  | 0 => fun _ _ _ _ _ r h => by simp [spec_l09State.l0] at h
  | k + 1 => by
    have ih0 := spec_l09State.mono_l k
    · intro y0 y1 y2 y3 y4
      unfold spec_l09State.l0
      repeat' first
      | (with_reducible exact ih0 _ _ _ _ _)
      | (with_reducible exact LeO.refl _)
      | (with_reducible exact LeO.none _)
      | (with_reducible refine LeO.ite ?_ ?_)
      | (with_reducible refine LeO.bind ?_ (fun _ => ?_))
      | exact ih0 _ _ _ _ _
      | exact LeO.none _
      | refine LeO.ite ?_ ?_
      | refine LeO.bind ?_ (fun _ => ?_)
theorem spec_l09State.mono : ∀ a0 a1 k, LeO (spec_l09State.f k a0 a1) (spec_l09State.f (k + 1) a0 a1) := by
  intro a0 a1 k
  have ih0 := spec_l09State.mono_l k
  unfold spec_l09State.f
  repeat' first
      | (with_reducible exact ih0 _ _ _ _ _)
      | (with_reducible exact LeO.refl _)
      | (with_reducible exact LeO.none _)
      | (with_reducible refine LeO.ite ?_ ?_)
      | (with_reducible refine LeO.bind ?_ (fun _ => ?_))
      | exact ih0 _ _ _ _ _
      | exact LeO.none _
      | refine LeO.ite ?_ ?_
      | refine LeO.bind ?_ (fun _ => ?_)
def spec_l09State.T1 : Bool × List (List Nat × List Nat) := (true, [([], []), ([], []), ([1], [1]), ([0, 2], [0, 2]), ([], []), ([], []), ([5, 2], [5]), ([4, 6], [4, 6]), ([], []), ([8, 6], [8]), ([9, 9], [9]), ([3, 9, 0, 1, 2, 3], [3]), ([7, 11, 0, 1, 2, 3, 4, 5, 6, 7, 11], [7]), ([10, 12, 0, 1, 2, 3, 4, 5, 6, 7, 8, 9, 10, 11, 12], [10])])
def spec_l09State.B1 : List Nat := [0, 0, 2, 7, 0, 0, 38, 118, 0, 358, 870, 879, 3071, 8191]
theorem spec_l09State.tab1 : rtab .any (opsOf Try.f97 1) = spec_l09State.T1 := by kernel_rfl
theorem spec_l09State.bits1 : waitsOk spec_l09State.T1.2 spec_l09State.B1 = true := by kernel_rfl
set_option maxHeartbeats 8000000 in
set_option maxRecDepth 100000 in
theorem spec_l09State.calls (k : Nat) (A0_0 : Option Addr) (c0_0 : Nat) (l0_0 : List Int) (a1 : Int) (r1 : List Int) (r2 : Int) (w : World) (hr0_0 : Kd.C (Kd.int .i64) w A0_0 l0_0.length l0_0) (hc0_0 : l0_0.length ≤ c0_0) (h : spec_l09State.f k l0_0 a1 = some (r1, r2)) :
    Calls Try.prog 97 #[.agg #[.slice A0_0 l0_0.length c0_0], .int .i64 a1] w fun e w' => ∃ v0_ : Value, e = .returned (.tuple #[v0_, .int .i64 r2]) ∧ Kd.R (Kd.int .i64) 2 w' w.heap.size (fun _ => True) v0_ r1 ∧ Below w.heap.size w w' := by
  have hu67 := Try.underlying67
  have HR0_0 := Aside0.mk hr0_0
  have HC0_0 := Aside0.mk hc0_0
  clear hr0_0 hc0_0
  have HB := Aside0.mk (Below.refl w.heap.size w)
  have H : ((spec_l01K.f l0_0).bind fun t341 => (if t341 = 0 then (none) else ((spec_l01K.f l0_0).bind fun t342 => (if t342 = 0 then (none) else ((spec_l01K.f l0_0).bind fun t343 => (if 0 ≤ t343 then (if (t343 : Int).toNat ≤ 35184372088832 then ((spec_l01K.f l0_0).bind fun t347 => (spec_l09State.l0 k (Int.tmod a1 t341) (wrap64 (Int.tdiv a1 t342)) (List.replicate (t343 : Int).toNat 0) (wrap64 (t347 - 1)) l0_0)) else (none)) else (none))))))) = some (r1, r2) := h
  clear h
  replace H := Option.bind_eq_some_iff.mp H
  obtain ⟨t341, A30, H⟩ := H
  replace H : (if t341 = 0 then (none) else ((spec_l01K.f l0_0).bind fun t342 => (if t342 = 0 then (none) else ((spec_l01K.f l0_0).bind fun t343 => (if 0 ≤ t343 then (if (t343 : Int).toNat ≤ 35184372088832 then ((spec_l01K.f l0_0).bind fun t347 => (spec_l09State.l0 k (Int.tmod a1 t341) (wrap64 (Int.tdiv a1 t342)) (List.replicate (t343 : Int).toNat 0) (wrap64 (t347 - 1)) l0_0)) else (none)) else (none)))))) = some (r1, r2) := H
  have A3 := Aside0.mk A30
  clear A30
  by_cases c4 : t341 = 0
  · rw [if_pos c4] at H
    exact absurd H (by simp)
  · rw [if_neg c4] at H
    have c4b0 : (t341 == 0) = false := beq_eq_false_iff_ne.mpr c4
    have c4b1 : (t341 != 0) = true := bne_iff_ne.mpr c4
    replace H := Option.bind_eq_some_iff.mp H
    obtain ⟨t342, A50, H⟩ := H
    replace H : (if t342 = 0 then (none) else ((spec_l01K.f l0_0).bind fun t343 => (if 0 ≤ t343 then (if (t343 : Int).toNat ≤ 35184372088832 then ((spec_l01K.f l0_0).bind fun t347 => (spec_l09State.l0 k (Int.tmod a1 t341) (wrap64 (Int.tdiv a1 t342)) (List.replicate (t343 : Int).toNat 0) (wrap64 (t347 - 1)) l0_0)) else (none)) else (none)))) = some (r1, r2) := H
    have A5 := Aside0.mk A50
    clear A50
    by_cases c6 : t342 = 0
    · rw [if_pos c6] at H
      exact absurd H (by simp)
    · rw [if_neg c6] at H
      have c6b0 : (t342 == 0) = false := beq_eq_false_iff_ne.mpr c6
      have c6b1 : (t342 != 0) = true := bne_iff_ne.mpr c6
      replace H := Option.bind_eq_some_iff.mp H
      obtain ⟨t343, A70, H⟩ := H
      replace H : (if 0 ≤ t343 then (if (t343 : Int).toNat ≤ 35184372088832 then ((spec_l01K.f l0_0).bind fun t347 => (spec_l09State.l0 k (Int.tmod a1 t341) (wrap64 (Int.tdiv a1 t342)) (List.replicate (t343 : Int).toNat 0) (wrap64 (t347 - 1)) l0_0)) else (none)) else (none)) = some (r1, r2) := H
      have A7 := Aside0.mk A70
      clear A70
      by_cases c8 : 0 ≤ t343
      · rw [if_pos c8] at H
        have c8b0 := eq_true c8
        have c8b1 : decide (0 ≤ t343) = true := decide_eq_true c8
        clear c8
        by_cases c9 : (t343 : Int).toNat ≤ 35184372088832
        · rw [if_pos c9] at H
          have c9b0 := eq_true c9
          have c9b1 : decide ((t343 : Int).toNat ≤ 35184372088832) = true := decide_eq_true c9
          clear c9
          obtain ⟨y344, hy344⟩ : ∃ y_ : List Int, y_ = (List.replicate (t343 : Int).toNat 0) := ⟨_, rfl⟩
          replace H : ((spec_l01K.f l0_0).bind fun t347 => (spec_l09State.l0 k (Int.tmod a1 t341) (wrap64 (Int.tdiv a1 t342)) y344 (wrap64 (t347 - 1)) l0_0)) = some (r1, r2) := by first | (rw [hy344]; with_reducible exact H) | (have H2_ := (Option.bind_some _ _).symm.trans H; rw [hy344]; with_reducible exact H2_) | (have H2_ := (Option.bind_some _ _).symm.trans H; with_reducible exact H2_) | with_reducible exact H | (rw [hy344]; exact H) | exact H
          have Ny344 := Aside0.mk hy344
          clear hy344
          replace H := Option.bind_eq_some_iff.mp H
          obtain ⟨t347, A100, H⟩ := H
          replace H : (spec_l09State.l0 k (Int.tmod a1 t341) (wrap64 (Int.tdiv a1 t342)) y344 (wrap64 (t347 - 1)) l0_0) = some (r1, r2) := H
          have A10 := Aside0.mk A100
          clear A100
          have H' := Aside0.mk H
          clear H
          go_enter Try.func97, Try.ntmps97
          try go_wp2_with (first | ((with_reducible refine gate_dst (N := 2) rfl ?_); refine box_event ?hg (N := 2) ?hd (cs := #[.slice A0_0 l0_0.length c0_0]) (t := 67) ?hr ?_; (case hd => rfl); (case hg => rfl); (case hr => first | (go_simp; done) | (go_simp; rfl)); intro gb340 hg w11 hbox hb; have n0_ := Aside0.mk (below_step (by repeat (first | (with_reducible first | exact HB.out | apply below_alloc | apply pw_below_drewN | apply below_drew1) | exact HB.out)) hb); have n1_ := Aside0.mk (hbox); have n2_ := Aside0.mk ((by rw [hg]; exact (below_size (by repeat (first | (with_reducible first | exact HB.out | apply below_alloc | apply pw_below_drewN | apply below_drew1) | exact HB.out))) : w.heap.size ≤ gb340)); have n3_ := Aside0.mk ((by rw [hg]; exact (below_size (by repeat (first | (with_reducible first | exact HB.out | apply below_alloc | apply pw_below_drewN | apply below_drew1) | exact HB.out))) : w.heap.size ≤ gb340)); clear HB; have HB := n0_; have BK340 := n1_; have GW340 := n2_; have GE340 := n3_; clear n0_ n1_ n2_ n3_; clear hb hbox hg))
          have n0_ := Aside0.mk (blk_drew BK340.out)
          have n1_ := Aside0.mk (below_drew1 HB.out)
          clear BK340
          clear HB
          have BK340 := n0_
          have HB := n1_
          clear n0_ n1_
          refine start_ (n := 14) (S := fun w' => w'.cell? ⟨gb340, 0, none⟩ = some (.slice A0_0 l0_0.length c0_0)) (ds := []) #[false, false, false, false, false, false, false, false, false, false, false, false, false, false] (by kernel_rfl) rfl rfl ((blk_cell BK340.out 0).trans rfl) (fun hHeld => ?_); refine with_tabW spec_l09State.tab1 spec_l09State.bits1 (fun HT_ HW_ => ?_)
          generalize w11.drew = w12 at BK340 HB hHeld ⊢
          refine pure_ (i := 0) (N := some 10) (v := ?_) (a' := ?_) #[true, false, false, false, false, false, false, false, false, false, false, false, false, false] rfl rfl (any_of HT_.out (by kernel_rfl)) (fun _ _ _ h => h) (Or.inl ⟨by rfl, ?_⟩) ?_ ?_
          rotate_left
          · intro w'
            go_simp
            with_reducible rfl
          rotate_left
          · simp only [Act.put, List.setIfInBounds_toArray, List.set_cons_zero, List.set_cons_succ, i64_w, i32_w]
            rfl
          refine pure_ (i := 4) (N := some 14) (v := ?_) (a' := ?_) #[true, false, false, false, true, false, false, false, false, false, false, false, false, false] rfl rfl (any_of HT_.out (by kernel_rfl)) (fun _ _ _ h => h) (Or.inl ⟨by rfl, ?_⟩) ?_ ?_
          rotate_left
          · intro w'
            go_simp
            with_reducible rfl
          rotate_left
          · simp only [Act.put, List.setIfInBounds_toArray, List.set_cons_zero, List.set_cons_succ, i64_w, i32_w]
            rfl
          refine take_ (i := 1) (N := some 11) (v := ?_) (a' := ?_) #[true, true, false, false, true, false, false, false, false, false, false, false, false, false] rfl rfl (take_ofW HT_.out HW_.out (by kernel_rfl)) (fun _ _ _ h => h) (Or.inl ⟨by rfl, ?_⟩) hHeld ?_ ?_
          rotate_left
          · intro w' s0
            go_simp
            with_reducible rfl
          rotate_left
          · simp only [Act.put, List.setIfInBounds_toArray, List.set_cons_zero, List.set_cons_succ, i64_w, i32_w]
            rfl
          refine take_ (i := 5) (N := some 15) (v := ?_) (a' := ?_) #[true, true, false, false, true, true, false, false, false, false, false, false, false, false] rfl rfl (take_ofW HT_.out HW_.out (by kernel_rfl)) (fun _ _ _ h => h) (Or.inl ⟨by rfl, ?_⟩) hHeld ?_ ?_
          rotate_left
          · intro w' s0
            go_simp
            with_reducible rfl
          rotate_left
          · simp only [Act.put, List.setIfInBounds_toArray, List.set_cons_zero, List.set_cons_succ, i64_w, i32_w]
            rfl
          refine take_ (i := 8) (N := some 18) (v := ?_) (a' := ?_) #[true, true, false, false, true, true, false, false, true, false, false, false, false, false] rfl rfl (take_ofW HT_.out HW_.out (by kernel_rfl)) (fun _ _ _ h => h) (Or.inl ⟨by rfl, ?_⟩) hHeld ?_ ?_
          rotate_left
          · intro w' s0
            go_simp
            with_reducible rfl
          rotate_left
          · simp only [Act.put, List.setIfInBounds_toArray, List.set_cons_zero, List.set_cons_succ, i64_w, i32_w]
            rfl
          refine one_ (i := 2) (N := some 12) #[true, true, true, false, true, true, false, false, true, false, false, false, false, false] rfl rfl (one_of HT_.out (by kernel_rfl)) (by decide) (fun K hK => ?_)
          refine goes_ Try.func116 (by kernel_rfl) rfl #[.agg #[.slice A0_0 l0_0.length c0_0]] (by rfl) rfl rfl (by (try simp only [List.map_toArray, List.map_cons, List.map_nil]); first | done | rfl | (simp only [List.length_drop, List.length_take]; rfl)) ?_
          with_reducible refine (spec_l01K.calls _ _ l0_0 t341 _ ?side1 ?side2 A3.out).mono ?_
          (case side1 => repeat (first | exact (Kd.C_below HR0_0.out HB.out) | (with_reducible refine Kd.C_alloc ?_ _) | (with_reducible refine Kd.C_drewN ?_ _) | (with_reducible refine Kd.C_drew ?_)))
          (case side2 => exact HC0_0.out)
          rintro e w13 ⟨rfl, hb⟩
          refine ⟨_, rfl, ?_⟩
          have n0_ := Aside0.mk (blk_below (g := gb340) (o := .cells #[.slice A0_0 l0_0.length c0_0] 67 (0, 0)) (by (with_reducible repeat (first | refine blk_drewN ?_ _ | refine blk_drew ?_ | refine blk_alloc ?_ _)); exact BK340.out) hb)
          have n1_ := Aside0.mk (below_step (by repeat (first | (with_reducible first | exact HB.out | apply below_alloc | apply pw_below_drewN | apply below_drew1 | refine below_set ?_ GE340.out) | exact HB.out)) hb)
          clear BK340
          clear HB
          have BK340 := n0_
          have HB := n1_
          clear n0_ n1_
          (try clear hb)
          (try clear hb2)
          (try clear hk)
          (try clear hi)
          refine hK.out _ _ ((blk_cell BK340.out 0).trans rfl) (fun hHeld => ?_)
          clear hK K
          refine norm_ (a' := ?_) ?_ ?_
          rotate_left
          · show Act.put _ (some 12) _ = _
            simp only [Act.put, List.setIfInBounds_toArray, List.set_cons_zero, List.set_cons_succ, i64_w, i32_w]
            rfl
          refine pure_ (i := 3) (N := some 13) (v := ?_) (a' := ?_) #[true, true, true, true, true, true, false, false, true, false, false, false, false, false] rfl rfl (any_of HT_.out (by kernel_rfl)) (fun _ _ _ h => h) (Or.inl ⟨by rfl, ?_⟩) ?_ ?_
          rotate_left
          · intro w'
            go_simp
            with_reducible rfl
          rotate_left
          · simp only [Act.put, List.setIfInBounds_toArray, List.set_cons_zero, List.set_cons_succ, i64_w, i32_w]
            rfl
          refine one_ (i := 6) (N := some 16) #[true, true, true, true, true, true, true, false, true, false, false, false, false, false] rfl rfl (one_of HT_.out (by kernel_rfl)) (by decide) (fun K hK => ?_)
          refine goes_ Try.func116 (by kernel_rfl) rfl #[.agg #[.slice A0_0 l0_0.length c0_0]] (by rfl) rfl rfl (by (try simp only [List.map_toArray, List.map_cons, List.map_nil]); first | done | rfl | (simp only [List.length_drop, List.length_take]; rfl)) ?_
          with_reducible refine (spec_l01K.calls _ _ l0_0 t342 _ ?side1 ?side2 A5.out).mono ?_
          (case side1 => repeat (first | exact (Kd.C_below HR0_0.out HB.out) | (with_reducible refine Kd.C_alloc ?_ _) | (with_reducible refine Kd.C_drewN ?_ _) | (with_reducible refine Kd.C_drew ?_)))
          (case side2 => exact HC0_0.out)
          rintro e w14 ⟨rfl, hb⟩
          refine ⟨_, rfl, ?_⟩
          have n0_ := Aside0.mk (blk_below (g := gb340) (o := .cells #[.slice A0_0 l0_0.length c0_0] 67 (0, 0)) (by (with_reducible repeat (first | refine blk_drewN ?_ _ | refine blk_drew ?_ | refine blk_alloc ?_ _)); exact BK340.out) hb)
          have n1_ := Aside0.mk (below_step (by repeat (first | (with_reducible first | exact HB.out | apply below_alloc | apply pw_below_drewN | apply below_drew1 | refine below_set ?_ GE340.out) | exact HB.out)) hb)
          clear BK340
          clear HB
          have BK340 := n0_
          have HB := n1_
          clear n0_ n1_
          (try clear hb)
          (try clear hb2)
          (try clear hk)
          (try clear hi)
          refine hK.out _ _ ((blk_cell BK340.out 0).trans rfl) (fun hHeld => ?_)
          clear hK K
          refine norm_ (a' := ?_) ?_ ?_
          rotate_left
          · show Act.put _ (some 16) _ = _
            simp only [Act.put, List.setIfInBounds_toArray, List.set_cons_zero, List.set_cons_succ, i64_w, i32_w]
            rfl
          refine pure_ (i := 7) (N := some 17) (v := ?_) (a' := ?_) #[true, true, true, true, true, true, true, true, true, false, false, false, false, false] rfl rfl (any_of HT_.out (by kernel_rfl)) (fun _ _ _ h => h) (Or.inl ⟨by rfl, ?_⟩) ?_ ?_
          rotate_left
          · intro w'
            go_simp
            with_reducible rfl
          rotate_left
          · simp only [Act.put, List.setIfInBounds_toArray, List.set_cons_zero, List.set_cons_succ, i64_w, i32_w]
            rfl
          refine one_ (i := 9) (N := some 19) #[true, true, true, true, true, true, true, true, true, true, false, false, false, false] rfl rfl (one_of HT_.out (by kernel_rfl)) (by decide) (fun K hK => ?_)
          refine goes_ Try.func116 (by kernel_rfl) rfl #[.agg #[.slice A0_0 l0_0.length c0_0]] (by rfl) rfl rfl (by (try simp only [List.map_toArray, List.map_cons, List.map_nil]); first | done | rfl | (simp only [List.length_drop, List.length_take]; rfl)) ?_
          with_reducible refine (spec_l01K.calls _ _ l0_0 t343 _ ?side1 ?side2 A7.out).mono ?_
          (case side1 => repeat (first | exact (Kd.C_below HR0_0.out HB.out) | (with_reducible refine Kd.C_alloc ?_ _) | (with_reducible refine Kd.C_drewN ?_ _) | (with_reducible refine Kd.C_drew ?_)))
          (case side2 => exact HC0_0.out)
          rintro e w15 ⟨rfl, hb⟩
          refine ⟨_, rfl, ?_⟩
          have n0_ := Aside0.mk (blk_below (g := gb340) (o := .cells #[.slice A0_0 l0_0.length c0_0] 67 (0, 0)) (by (with_reducible repeat (first | refine blk_drewN ?_ _ | refine blk_drew ?_ | refine blk_alloc ?_ _)); exact BK340.out) hb)
          have n1_ := Aside0.mk (below_step (by repeat (first | (with_reducible first | exact HB.out | apply below_alloc | apply pw_below_drewN | apply below_drew1 | refine below_set ?_ GE340.out) | exact HB.out)) hb)
          clear BK340
          clear HB
          have BK340 := n0_
          have HB := n1_
          clear n0_ n1_
          (try clear hb)
          (try clear hb2)
          (try clear hk)
          (try clear hi)
          refine hK.out _ _ ((blk_cell BK340.out 0).trans rfl) (fun hHeld => ?_)
          clear hK K
          refine norm_ (a' := ?_) ?_ ?_
          rotate_left
          · show Act.put _ (some 19) _ = _
            simp only [Act.put, List.setIfInBounds_toArray, List.set_cons_zero, List.set_cons_succ, i64_w, i32_w]
            rfl
          refine pure_ (i := 11) (N := some 6) (v := ?_) (a' := ?_) #[true, true, true, true, true, true, true, true, true, true, false, true, false, false] rfl rfl (any_of HT_.out (by kernel_rfl)) (fun _ _ _ h => h) (Or.inl ⟨by rfl, ?_⟩) ?_ ?_
          rotate_left
          · intro w'
            go_simp
            with_reducible rfl
          rotate_left
          · simp only [Act.put, List.setIfInBounds_toArray, List.set_cons_zero, List.set_cons_succ, i64_w, i32_w]
            rfl
          refine pure_ (i := 12) (N := some 7) (v := ?_) (a' := ?_) #[true, true, true, true, true, true, true, true, true, true, false, true, true, false] rfl rfl (any_of HT_.out (by kernel_rfl)) (fun _ _ _ h => h) (Or.inl ⟨by rfl, ?_⟩) ?_ ?_
          rotate_left
          · intro w'
            go_simp
            with_reducible rfl
          rotate_left
          · simp only [Act.put, List.setIfInBounds_toArray, List.set_cons_zero, List.set_cons_succ, i64_w, i32_w]
            rfl
          refine one_ (i := 10) (N := some 20) #[true, true, true, true, true, true, true, true, true, true, true, true, true, false] rfl rfl (one_of HT_.out (by kernel_rfl)) (by decide) (fun K hK => ?_)
          refine Kd.R_make_step (Kd.int .i64) _ 2 (by rfl) (N := 20) rfl 22 _ _ rfl t343 rfl rfl Try.underlying22 (.int .i64 0) 8 info2 rfl (by decide) (by omega) 0 (ok := fun _ => True) (okp := fun _ => True) rfl (fun _ hk => hk) trivial (of_decide_eq_true (by first | (with_reducible assumption) | assumption)) (Nat.le_trans (Nat.mul_le_mul_right _ (of_decide_eq_true (by first | (with_reducible assumption) | assumption) : t343.toNat ≤ 35184372088832)) (by omega)) (Below.refl _ _) (Nat.le_refl _) ?_
          intro v345 w16 ho17 hb hg_ hnew_
          clear hg_ hnew_
          (first | rw [← Ny344.out] at ho17 | (simp only [Int.reduceToNat] at ho17; rw [← Ny344.out] at ho17))
          have n0_ := Aside0.mk (Kd.R_lower ho17 (below_size (by repeat (first | (with_reducible first | exact HB.out | apply below_alloc | apply pw_below_drewN | apply below_drew1 | refine below_set ?_ GE340.out) | exact HB.out))))
          have n1_ := Aside0.mk (blk_below (g := gb340) (o := .cells #[.slice A0_0 l0_0.length c0_0] 67 (0, 0)) (by (with_reducible repeat (first | refine blk_drewN ?_ _ | refine blk_drew ?_ | refine blk_alloc ?_ _)); exact BK340.out) hb)
          have n2_ := Aside0.mk (below_step (by repeat (first | (with_reducible first | exact HB.out | apply below_alloc | apply pw_below_drewN | apply below_drew1 | refine below_set ?_ GE340.out) | exact HB.out)) hb)
          clear BK340
          clear HB
          have HO346 := n0_
          have BK340 := n1_
          have HB := n2_
          clear n0_ n1_ n2_
          clear hb ho17
          refine hK.out _ _ ((blk_cell BK340.out 0).trans rfl) (fun hHeld => ?_)
          clear hK K
          refine norm_ (a' := ?_) ?_ ?_
          rotate_left
          · show Act.put _ (some 20) _ = _
            simp only [Act.put, List.setIfInBounds_toArray, List.set_cons_zero, List.set_cons_succ, i64_w, i32_w]
            rfl
          refine pure_ (i := 13) (N := some 8) (v := ?_) (a' := ?_) #[true, true, true, true, true, true, true, true, true, true, true, true, true, true] rfl rfl (any_of HT_.out (by kernel_rfl)) (fun _ _ _ h => h) (Or.inl ⟨by rfl, ?_⟩) ?_ ?_
          rotate_left
          · intro w'
            go_simp
            with_reducible rfl
          rotate_left
          · simp only [Act.put, List.setIfInBounds_toArray, List.set_cons_zero, List.set_cons_succ, i64_w, i32_w]
            rfl
          refine done_ (done_of HT_.out (by kernel_rfl)) ?_
          have hcz18_0 : w16.cell? ⟨gb340, 0, none⟩ = some (.slice A0_0 l0_0.length c0_0) := (blk_cell BK340.out 0).trans rfl
          have hfz18_0 := blk_frozen BK340.out 0
          try go_wp2_with (first | ((with_reducible refine gate_callee (f := 116) rfl ?_); refine goesL_ (some 22) rfl rfl Try.func116 (by kernel_rfl) rfl #[.agg #[.slice A0_0 l0_0.length c0_0]] rfl (by (try simp only [List.map_toArray, List.map_cons, List.map_nil]); first | done | rfl | (simp only [List.length_drop, List.length_take]; rfl)) ?_; (with_reducible refine (spec_l01K.calls _ _ l0_0 t347 _ ?side1 ?side2 A10.out).mono ?_); (case side1 => repeat (first | exact (Kd.C_below HR0_0.out HB.out) | (with_reducible refine Kd.C_alloc ?_ _) | (with_reducible refine Kd.C_drewN ?_ _) | (with_reducible refine Kd.C_drew ?_))); (case side2 => exact HC0_0.out); rintro e w19 ⟨rfl, hb⟩; refine ⟨_, rfl, ?_⟩; have n0_ := Aside0.mk (Kd.R_below (by (with_reducible repeat (first | apply Kd.R_alloc | apply Kd.R_drewN | apply Kd.R_drew)); exact HO346.out) hb); have n1_ := Aside0.mk (blk_below (g := gb340) (o := .cells #[.slice A0_0 l0_0.length c0_0] 67 (0, 0)) (by (with_reducible repeat (first | refine blk_drewN ?_ _ | refine blk_drew ?_ | refine blk_alloc ?_ _)); exact BK340.out) hb); have n2_ := Aside0.mk (below_step (by repeat (first | (with_reducible first | exact HB.out | apply below_alloc | apply pw_below_drewN | apply below_drew1 | refine below_set ?_ GE340.out) | exact HB.out)) hb); clear HO346; clear BK340; clear HB; have HO346 := n0_; have BK340 := n1_; have HB := n2_; clear n0_ n1_ n2_; (try clear hb); (try clear hb2); (try clear hk); (try clear hi)))
          go_loopg [7, 9] k (fun kq v7 v9 w' => ∃ (x7_1 : Int) (x8_1 : List Int) (x9_1 : Int), v7 = .int .i64 x7_1 ∧ v9 = .int .i64 x9_1 ∧ Aside0 (spec_l09State.l0 kq (Int.tmod a1 t341) x7_1 x8_1 x9_1 l0_0 = some (r1, r2)) ∧ Aside0 (kq ≤ k) ∧ Aside0 (Kd.R (Kd.int .i64) 2 w' w.heap.size (fun _ => True) v345 x8_1) ∧ Aside0 (w'.heap[gb340]? = some (.cells #[(.slice A0_0 l0_0.length c0_0)] 67 (0, 0))) ∧ Aside0 (Below w.heap.size w w'))
          case atStart => exact ⟨(wrap64 (Int.tdiv a1 t342)), (y344), (wrap64 (t347 - 1)), (by first | rfl | (simp; done) | (simp [*]; done)), (by first | rfl | (simp; done) | (simp [*]; done)), H', ⟨Nat.le_refl _⟩, ⟨by (with_reducible repeat (first | apply Kd.R_alloc | apply Kd.R_drewN | apply Kd.R_drew)); exact HO346.out⟩, ⟨by (with_reducible repeat (first | refine blk_drewN ?_ _ | refine blk_drew ?_ | refine blk_alloc ?_ _)); exact BK340.out⟩, ⟨by repeat (first | (with_reducible first | exact HB.out | apply below_alloc | apply pw_below_drewN | apply below_drew1 | refine below_set ?_ GE340.out) | exact HB.out)⟩⟩
          case round =>
            clear H'
            try clear c1
            try clear p2
            try clear c4
            try clear c4b0
            try clear c4b1
            try clear c6
            try clear c6b0
            try clear c6b1
            try clear p6
            try clear c8
            try clear c8b0
            try clear c8b1
            try clear c9
            try clear c9b0
            try clear c9b1
            try clear c11
            try clear hcz18_0
            try clear hfz18_0
            obtain ⟨x7_1, x8_1, x9_1, rfl, rfl, HA, HK1, HO_8, BK340, HB⟩ := hrel
            cases gk with
            | zero => exact absurd HA.out (by simp [spec_l09State.l0])
            | succ k1 =>
              have H := HA.out
              clear HA
              simp only [spec_l09State.l0] at H
              by_cases c20 : x9_1 ≥ 0
              · rw [if_pos c20] at H
                have c20b0 : decide (0 ≤ x9_1) = true := decide_eq_true c20
                clear c20
                by_cases c21 : 0 ≤ x9_1
                · rw [if_pos c21] at H
                  have c21b0 : decide (0 ≤ x9_1) = true := decide_eq_true c21
                  clear c21
                  by_cases c22 : x9_1 < (l0_0.length : Int)
                  · rw [if_pos c22] at H
                    have c22b0 : decide (x9_1 < (l0_0.length : Int)) = true := decide_eq_true c22
                    clear c22
                    by_cases c23 : (rd l0_0 x9_1) = 0
                    · rw [if_pos c23] at H
                      exact absurd H (by simp)
                    · rw [if_neg c23] at H
                      have c23b0 : ((rd l0_0 x9_1) == 0) = false := beq_eq_false_iff_ne.mpr c23
                      have c23b1 : ((rd l0_0 x9_1) != 0) = true := bne_iff_ne.mpr c23
                      by_cases c24 : x9_1 < (x8_1.length : Int)
                      · rw [if_pos c24] at H
                        have c24b0 : decide (x9_1 < (x8_1.length : Int)) = true := decide_eq_true c24
                        clear c24
                        obtain ⟨y349, hy349⟩ : ∃ y_ : List Int, y_ = (x8_1.set (x9_1 : Int).toNat (wrap64 ((Int.tmod x7_1 (rd l0_0 x9_1)) + 1))) := ⟨_, rfl⟩
                        replace H : (spec_l09State.l0 k1 (Int.tmod a1 t341) (wrap64 (Int.tdiv x7_1 (rd l0_0 x9_1))) y349 (wrap64 (x9_1 - 1)) l0_0) = some (r1, r2) := by first | (rw [hy349]; with_reducible exact H) | (have H2_ := (Option.bind_some _ _).symm.trans H; rw [hy349]; with_reducible exact H2_) | (have H2_ := (Option.bind_some _ _).symm.trans H; with_reducible exact H2_) | with_reducible exact H | (rw [hy349]; exact H) | exact H
                        have Ny349 := Aside0.mk hy349
                        clear hy349
                        have H' := Aside0.mk H
                        clear H
                        have hcz26_0 : wr.cell? ⟨gb340, 0, none⟩ = some (.slice A0_0 l0_0.length c0_0) := (blk_cell BK340.out 0).trans rfl
                        have hfz26_0 := blk_frozen BK340.out 0
                        have p348 : 0 ≤ (x9_1 : Int) := of_decide_eq_true (by first | (with_reducible assumption) | assumption)
                        have q348 : x9_1 < (l0_0.length : Int) := of_decide_eq_true (by first | (with_reducible assumption) | assumption)
                        obtain ⟨ad348, e348, hx348_0⟩ := Kd.at_int HR0_0.out x9_1 p348 q348
                        cases e348
                        replace hx348_0 := (HB.out.cell (World.block_lt_of_cell? w _ hx348_0)).trans hx348_0
                        replace p348 := eq_true p348
                        replace q348 := eq_true q348
                        have p25 : 0 ≤ (x9_1 : Int) := of_decide_eq_true (by first | (with_reducible assumption) | assumption)
                        have q25 : (x9_1 : Int) < ((x8_1.length : Int) : Int) := of_decide_eq_true (by first | (with_reducible assumption) | assumption)
                        obtain ⟨go25, co25, eo25, gb25, gl25, cl25, HG25⟩ := Kd.R_form HO_8.out (by omega)
                        (first | cases eo25 | (injection eo25 with ea_ en_ ec_; (first | subst ea_ | (injection ea_ with ea_; subst ea_)); subst ec_; clear en_))
                        have GB25 := Aside0.mk gb25
                        have GG25 := Aside0.mk HG25
                        clear gb25 gl25 HG25
                        obtain ⟨hx25_0, hf25_0⟩ := Kd.R_celln 0 HO_8.out (x9_1 : Int) p25 q25
                        replace p25 := eq_true p25
                        replace q25 := eq_true q25
                        have HP27 := Kd.R_putg HO_8.out (x9_1 : Int) (wrap64 ((Int.tmod x7_1 (rd l0_0 x9_1)) + 1))
                        go_wp2_with (first | ((with_reducible refine gate_store (t := 2) (p := 38) rfl ?_); refine store_event (t := 2) (p := 38) (v := ?vo_w28) (w1 := (wr.setCell ⟨go25, (x9_1 : Int).toNat, none⟩ (.int .i64 (wrap64 ((Int.tmod x7_1 (rd l0_0 x9_1)) + 1))))) ?hg ?ho ?hn ?hr ?_; (case ho => rfl); (case hg => rfl); (case hn => rfl); (case hr => first | (go_simp; done) | (go_simp; rfl)); intro w28 hw; have hg : wr.grownBy w28 (some go25) := (by rw [hw]; exact HP27.2); have hp_ : Kd.R (Kd.int .i64) 2 w28 w.heap.size (fun _ => True) (.slice (some ⟨go25, 0, none⟩) x8_1.length co25) y349 := (by rw [hw, Ny349.out]; exact HP27.1); clear HP27; have n0_ := Aside0.mk (hp_); have n1_ := Aside0.mk (blk_grown (g := gb340) (o := .cells #[.slice (some ad348) l0_0.length c0_0] 67 (0, 0)) (by (with_reducible repeat (first | refine blk_drewN ?_ _ | refine blk_drew ?_ | refine blk_alloc ?_ _)); exact BK340.out) hg (Kd.R_ne HO_8.out BK340.out (by decide))); have n2_ := Aside0.mk ((by rw [hw]; exact below_set (HB.out) GB25.out : Below w.heap.size w w28)); clear HO_8; clear BK340; clear HB; have HO_8 := n0_; have BK340 := n1_; have HB := n2_; clear n0_ n1_ n2_; clear hg hw hp_; have hcz29_0 : w28.cell? ⟨gb340, 0, none⟩ = some (.slice (some ad348) l0_0.length c0_0) := (blk_cell BK340.out 0).trans rfl; have hfz29_0 := blk_frozen BK340.out 0; have p350 : 0 ≤ (x9_1 : Int) := of_decide_eq_true (by first | (with_reducible assumption) | assumption); have q350 : x9_1 < (l0_0.length : Int) := of_decide_eq_true (by first | (with_reducible assumption) | assumption); obtain ⟨ad350, e350, hx350_0⟩ := Kd.at_int HR0_0.out x9_1 p350 q350; obtain rfl : ad348 = ad350 := (by injection e350); replace hx350_0 := (HB.out.cell (World.block_lt_of_cell? w _ hx350_0)).trans hx350_0; replace p350 := eq_true p350; replace q350 := eq_true q350))
                        go_roundg k1
                        case measure => have := HK1.out; omega
                        case rel => exact ⟨(wrap64 (Int.tdiv x7_1 (rd l0_0 x9_1))), (y349), (wrap64 (x9_1 - 1)), (by first | rfl | (simp; done) | (simp [*]; done)), (by first | rfl | (simp; done) | (simp [*]; done)), H', ⟨by have := HK1.out; omega⟩, ⟨by (with_reducible repeat (first | apply Kd.R_alloc | apply Kd.R_drewN | apply Kd.R_drew)); exact HO_8.out⟩, ⟨by (with_reducible repeat (first | refine blk_drewN ?_ _ | refine blk_drew ?_ | refine blk_alloc ?_ _)); exact BK340.out⟩, ⟨by repeat (first | (with_reducible first | exact HB.out | apply below_alloc | apply pw_below_drewN | apply below_drew1 | refine below_set ?_ GE340.out) | exact HB.out)⟩⟩
                      · rw [if_neg c24] at H
                        exact absurd H (by simp)
                  · rw [if_neg c22] at H
                    exact absurd H (by simp)
                · rw [if_neg c21] at H
                  exact absurd H (by simp)
              · rw [if_neg c20] at H
                have c20b0 : decide (0 ≤ x9_1) = false := decide_eq_false c20
                clear c20
                simp only [Option.some.injEq, Prod.mk.injEq] at H
                obtain ⟨rfl, rfl⟩ := H
                go_wp2
                go_ret2
                exact ⟨_, by first | rfl | (simp [errW_none, errW_some] <;> rfl) | (simp [*, errW_none, errW_some] <;> rfl), by (with_reducible repeat (first | apply Kd.R_alloc | apply Kd.R_drewN | apply Kd.R_drew)); exact HO_8.out, by repeat (first | (with_reducible first | exact HB.out | apply below_alloc | apply pw_below_drewN | apply below_drew1 | refine below_set ?_ GE340.out) | exact HB.out)⟩
        · rw [if_neg c9] at H
          exact absurd H (by simp)
      · rw [if_neg c8] at H
        exact absurd H (by simp)

end Go.Proofs.Ytoakdilhljnjfaa.Q
-- written by wip/tools/printx.py (this session's) out of the translation; Lean checks it
namespace Go.Proofs.Ytoakdilhljnjfaa.Q
open Go.RowKit Go.Proofs.YtoakdilhljnjfaaW.PrintWords Go.Proofs.YtoakdilhljnjfaaW.PrintLast Go.Proofs.YtoakdilhljnjfaaW.PrintMore
attribute [local go_sem] max2_int min2_int max_two min_two max_three min_three max_four min_four   -- for this text's walks alone
set_option linter.unusedVariables false
set_option linter.unusedSimpArgs false

/-! ### spec_l01Own: function 84 -/
def spec_l01Own.f (l0 : List Int) : Option (List Int) := (some (([] : List Int) : List Int)).bind fun y110 => (if y110.length + l0.length < 17592186044416 then (some (y110 ++ l0)) else (none))
set_option maxHeartbeats 8000000 in
set_option maxRecDepth 100000 in
theorem spec_l01Own.calls (A0 : Option Addr) (c0 : Nat) (l0 : List Int) (r : List Int) (w : World) (hr0 : Kd.C (Kd.int .i64) w A0 l0.length l0) (hc0 : l0.length ≤ c0) (h : spec_l01Own.f l0 = some r) :
    Calls Try.prog 84 #[.slice A0 l0.length c0] w fun e w' => ∃ v0_ : Value, e = .returned (v0_) ∧ Kd.R (Kd.int .i64) 2 w' w.heap.size (fun _ => True) v0_ r ∧ Below w.heap.size w w' := by
  have HR0 := Aside0.mk hr0
  have HC0 := Aside0.mk hc0
  clear hr0 hc0
  have HB := Aside0.mk (Below.refl w.heap.size w)
  have H : ((some (([] : List Int) : List Int)).bind fun y110 => (if y110.length + l0.length < 17592186044416 then (some (y110 ++ l0)) else (none))) = some r := h
  clear h
  obtain ⟨y110, hy110⟩ : ∃ y_ : List Int, y_ = (([] : List Int)) := ⟨_, rfl⟩
  replace H : (if y110.length + l0.length < 17592186044416 then (some (y110 ++ l0)) else (none)) = some r := by first | (rw [hy110]; with_reducible exact H) | (have H2_ := (Option.bind_some _ _).symm.trans H; rw [hy110]; with_reducible exact H2_) | (have H2_ := (Option.bind_some _ _).symm.trans H; with_reducible exact H2_) | with_reducible exact H | (rw [hy110]; exact H) | exact H
  have Ny110 := Aside0.mk hy110
  clear hy110
  by_cases c2 : y110.length + l0.length < 17592186044416
  · rw [if_pos c2] at H
    have LMc2 := Aside0.mk c2
    clear c2
    obtain ⟨y113, hy113⟩ : ∃ y_ : List Int, y_ = (y110 ++ l0) := ⟨_, rfl⟩
    replace H : (some y113) = some r := by first | (rw [hy113]; with_reducible exact H) | (have H2_ := (Option.bind_some _ _).symm.trans H; rw [hy113]; with_reducible exact H2_) | (have H2_ := (Option.bind_some _ _).symm.trans H; with_reducible exact H2_) | with_reducible exact H | (rw [hy113]; exact H) | exact H
    have Ny113 := Aside0.mk hy113
    clear hy113
    obtain rfl := Option.some.inj H
    go_enter Try.func84, Try.ntmps84
    go_wp2_with (first | ((with_reducible refine gate_dst (N := 3) rfl ?_); refine Kd.R_lit (Kd.int .i64) _ 2 ?hg (N := 3) ?hd (xs := ([] : List Int)) (inner := []) (ok := fun _ => True) (okp := fun _ => True) ?hr ?hp (fun _ hk => hk) trivial (Below.refl _ _) (Nat.le_refl _) (by simp) ?_; (case hd => rfl); (case hg => rfl); (case hr => first | (go_simp; done) | (go_simp; rfl)); (case hp => exact (Reps.none _ _)); intro v111 w3 ho4 hb hg_ hnew_; clear hg_ hnew_; (first | rw [← Ny110.out] at ho4 | (simp only [Int.reduceToNat] at ho4; rw [← Ny110.out] at ho4)); have n0_ := Aside0.mk (Kd.R_lower ho4 (below_size (by repeat (first | (with_reducible first | exact HB.out | apply below_alloc | apply pw_below_drewN | apply below_drew1) | exact HB.out)))); have n1_ := Aside0.mk (below_step (by repeat (first | (with_reducible first | exact HB.out | apply below_alloc | apply pw_below_drewN | apply below_drew1) | exact HB.out)) hb); clear HB; have HO112 := n0_; have HB := n1_; clear n0_ n1_; clear hb ho4) | ((with_reducible refine gate_builtin (b := .append) (xs := #[.tmp 3, .tmp 4]) rfl ?_); at_builtin; refine Kd.R_append_rows (Kd.int .i64) (w0 := w) w.heap.size rfl (.tmp 3) (.tmp 4) 22 2 (.int .i64 0) 8 rfl Try.underlying22 info2 rfl (by decide) (by omega) v111 y110 l0 _ _ _ (fun _ => True) (fun _ => False) rfl rfl ?aO ?aR (fun _ _ h => h) (fun _ h => h.elim) ?aF ?aB ?aS ?aL ?_; (case aR => repeat (first | exact (Kd.C_below HR0.out HB.out) | (with_reducible refine Kd.C_alloc ?_ _) | (with_reducible refine Kd.C_drewN ?_ _) | (with_reducible refine Kd.C_drew ?_))); (case aB => exact (by repeat (first | (with_reducible first | exact HB.out | apply below_alloc | apply pw_below_drewN | apply below_drew1) | exact HB.out))); (case aF => exact (fun _ _ => trivial)); (case aO => exact (by (with_reducible repeat (first | apply Kd.R_alloc | apply Kd.R_drewN | apply Kd.R_drew)); exact HO112.out)); (case aS => exact (below_size (by repeat (first | (with_reducible first | exact HB.out | apply below_alloc | apply pw_below_drewN | apply below_drew1) | exact HB.out)))); (case aL => have := LMc2.out; omega); intro v114 w5 ho hb hg hat; rw [← Ny113.out] at ho; have n0_ := Aside0.mk (hb); have n1_ := Aside0.mk (ho); clear HB; clear HO112; have HB := n0_; have HO115 := n1_; clear n0_ n1_; clear ho hb hg hat))
    go_ret
    exact ⟨_, by first | rfl | (simp [errW_none, errW_some] <;> rfl) | (simp [*, errW_none, errW_some] <;> rfl), by (with_reducible repeat (first | apply Kd.R_alloc | apply Kd.R_drewN | apply Kd.R_drew)); exact HO115.out, by repeat (first | (with_reducible first | exact HB.out | apply below_alloc | apply pw_below_drewN | apply below_drew1) | exact HB.out)⟩
  · rw [if_neg c2] at H
    exact absurd H (by simp)

end Go.Proofs.Ytoakdilhljnjfaa.Q
-- written by wip/tools/printx.py (this session's) out of the translation; Lean checks it
namespace Go.Proofs.Ytoakdilhljnjfaa.Q
open Go.RowKit Go.Proofs.YtoakdilhljnjfaaW.PrintWords Go.Proofs.YtoakdilhljnjfaaW.PrintLast Go.Proofs.YtoakdilhljnjfaaW.PrintMore
attribute [local go_sem] max2_int min2_int max_two min_two max_three min_three max_four min_four   -- for this text's walks alone
set_option linter.unusedVariables false
set_option linter.unusedSimpArgs false

/-! ### spec_l09Number: function 96 -/
def spec_l09Number.l0 : Nat → List Int → Int → Int → Int → Int → List Int → Option (Int)
  | 0, _, _, _, _, _, _ => none
  | k + 1, x1, x2, x7, x10, x11, x333000 => if x11 < x10 then (if 0 ≤ x11 then (if x11 < (x333000.length : Int) then (if x11 < (x1.length : Int) then (spec_l09Number.l0 k x1 x2 (wrap64 ((wrap64 ((wrap64 (x7 * (rd x333000 x11))) + (rd x1 x11))) - 1)) x10 (wrap64 (x11 + 1)) x333000) else (none)) else (none)) else (none)) else ((spec_l01K.f x333000).bind fun t335 => (some (wrap64 ((wrap64 (x7 * t335)) + x2))))
def spec_l09Number.f (k : Nat) (l0_0 : List Int) (l1 : List Int) (a2 : Int) : Option (Int) := spec_l09Number.l0 k l1 a2 0 (l1.length : Int) 0 l0_0
theorem spec_l09Number.mono_l : ∀ k, (∀ y0 y1 y2 y3 y4 y5, LeO (spec_l09Number.l0 k y0 y1 y2 y3 y4 y5) (spec_l09Number.l0 (k + 1) y0 y1 y2 y3 y4 y5))
  | 0 => fun _ _ _ _ _ _ r h => by simp [spec_l09Number.l0] at h
  | k + 1 => by
    have ih0 := spec_l09Number.mono_l k
    · intro y0 y1 y2 y3 y4 y5
      unfold spec_l09Number.l0
      repeat' first
      | (with_reducible exact ih0 _ _ _ _ _ _)
      | (with_reducible exact LeO.refl _)
      | (with_reducible exact LeO.none _)
      | (with_reducible refine LeO.ite ?_ ?_)
      | (with_reducible refine LeO.bind ?_ (fun _ => ?_))
      | exact ih0 _ _ _ _ _ _
      | exact LeO.none _
      | refine LeO.ite ?_ ?_
      | refine LeO.bind ?_ (fun _ => ?_)
theorem spec_l09Number.mono : ∀ a0 a1 a2 k, LeO (spec_l09Number.f k a0 a1 a2) (spec_l09Number.f (k + 1) a0 a1 a2) := by
  intro a0 a1 a2 k
  have ih0 := spec_l09Number.mono_l k
  unfold spec_l09Number.f
  repeat' first
      | (with_reducible exact ih0 _ _ _ _ _ _)
      | (with_reducible exact LeO.refl _)
      | (with_reducible exact LeO.none _)
      | (with_reducible refine LeO.ite ?_ ?_)
      | (with_reducible refine LeO.bind ?_ (fun _ => ?_))
      | exact ih0 _ _ _ _ _ _
      | exact LeO.none _
      | refine LeO.ite ?_ ?_
      | refine LeO.bind ?_ (fun _ => ?_)
set_option maxHeartbeats 8000000 in
set_option maxRecDepth 100000 in
theorem spec_l09Number.calls (k : Nat) (A0_0 : Option Addr) (c0_0 : Nat) (l0_0 : List Int) (A1 : Option Addr) (c1 : Nat) (l1 : List Int) (a2 : Int) (r : Int) (w : World) (hr0_0 : Kd.C (Kd.int .i64) w A0_0 l0_0.length l0_0) (hc0_0 : l0_0.length ≤ c0_0) (hr1 : Kd.C (Kd.int .i64) w A1 l1.length l1) (hc1 : l1.length ≤ c1) (h : spec_l09Number.f k l0_0 l1 a2 = some r) :
    Calls Try.prog 96 #[.agg #[.slice A0_0 l0_0.length c0_0], .slice A1 l1.length c1, .int .i64 a2] w fun e w' => e = .returned (.int .i64 r) ∧ Below w.heap.size w w' := by
  have hu67 := Try.underlying67
  have HR0_0 := Aside0.mk hr0_0
  have HC0_0 := Aside0.mk hc0_0
  clear hr0_0 hc0_0
  have HR1 := Aside0.mk hr1
  have HC1 := Aside0.mk hc1
  clear hr1 hc1
  have HB := Aside0.mk (Below.refl w.heap.size w)
  have H : (spec_l09Number.l0 k l1 a2 0 (l1.length : Int) 0 l0_0) = some r := h
  clear h
  have H' := Aside0.mk H
  clear H
  go_enter Try.func96, Try.ntmps96
  go_wp2_with (first | ((with_reducible refine gate_dst (N := 3) rfl ?_); refine box_event ?hg (N := 3) ?hd (cs := #[.slice A0_0 l0_0.length c0_0]) (t := 67) ?hr ?_; (case hd => rfl); (case hg => rfl); (case hr => first | (go_simp; done) | (go_simp; rfl)); intro gb332 hg w4 hbox hb; have n0_ := Aside0.mk (below_step (by repeat (first | (with_reducible first | exact HB.out | apply below_alloc | apply pw_below_drewN | apply below_drew1) | exact HB.out)) hb); have n1_ := Aside0.mk (hbox); have n2_ := Aside0.mk ((by rw [hg]; exact (below_size (by repeat (first | (with_reducible first | exact HB.out | apply below_alloc | apply pw_below_drewN | apply below_drew1) | exact HB.out))) : w.heap.size ≤ gb332)); have n3_ := Aside0.mk ((by rw [hg]; exact (below_size (by repeat (first | (with_reducible first | exact HB.out | apply below_alloc | apply pw_below_drewN | apply below_drew1) | exact HB.out))) : w.heap.size ≤ gb332)); clear HB; have HB := n0_; have BK332 := n1_; have GW332 := n2_; have GE332 := n3_; clear n0_ n1_ n2_ n3_; clear hb hbox hg))
  repeat (go_quiet (first | ((with_reducible refine gate_dst (N := 3) rfl ?_); refine box_event ?hg (N := 3) ?hd (cs := #[.slice A0_0 l0_0.length c0_0]) (t := 67) ?hr ?_; (case hd => rfl); (case hg => rfl); (case hr => first | (go_simp; done) | (go_simp; rfl)); intro gb332 hg w4 hbox hb; have n0_ := Aside0.mk (below_step (by repeat (first | (with_reducible first | exact HB.out | apply below_alloc | apply pw_below_drewN | apply below_drew1) | exact HB.out)) hb); have n1_ := Aside0.mk (hbox); have n2_ := Aside0.mk ((by rw [hg]; exact (below_size (by repeat (first | (with_reducible first | exact HB.out | apply below_alloc | apply pw_below_drewN | apply below_drew1) | exact HB.out))) : w.heap.size ≤ gb332)); have n3_ := Aside0.mk ((by rw [hg]; exact (below_size (by repeat (first | (with_reducible first | exact HB.out | apply below_alloc | apply pw_below_drewN | apply below_drew1) | exact HB.out))) : w.heap.size ≤ gb332)); clear HB; have HB := n0_; have BK332 := n1_; have GW332 := n2_; have GE332 := n3_; clear n0_ n1_ n2_ n3_; clear hb hbox hg)); try go_wp2_with (first | ((with_reducible refine gate_dst (N := 3) rfl ?_); refine box_event ?hg (N := 3) ?hd (cs := #[.slice A0_0 l0_0.length c0_0]) (t := 67) ?hr ?_; (case hd => rfl); (case hg => rfl); (case hr => first | (go_simp; done) | (go_simp; rfl)); intro gb332 hg w4 hbox hb; have n0_ := Aside0.mk (below_step (by repeat (first | (with_reducible first | exact HB.out | apply below_alloc | apply pw_below_drewN | apply below_drew1) | exact HB.out)) hb); have n1_ := Aside0.mk (hbox); have n2_ := Aside0.mk ((by rw [hg]; exact (below_size (by repeat (first | (with_reducible first | exact HB.out | apply below_alloc | apply pw_below_drewN | apply below_drew1) | exact HB.out))) : w.heap.size ≤ gb332)); have n3_ := Aside0.mk ((by rw [hg]; exact (below_size (by repeat (first | (with_reducible first | exact HB.out | apply below_alloc | apply pw_below_drewN | apply below_drew1) | exact HB.out))) : w.heap.size ≤ gb332)); clear HB; have HB := n0_; have BK332 := n1_; have GW332 := n2_; have GE332 := n3_; clear n0_ n1_ n2_ n3_; clear hb hbox hg)))
  go_loopg [7, 11] k (fun kq v7 v11 w' => ∃ (x7_1 : Int) (x11_1 : Int), v7 = .int .i64 x7_1 ∧ v11 = .int .i64 x11_1 ∧ Aside0 (spec_l09Number.l0 kq l1 a2 x7_1 (l1.length : Int) x11_1 l0_0 = some r) ∧ Aside0 (kq ≤ k) ∧ Aside0 (w'.heap[gb332]? = some (.cells #[(.slice A0_0 l0_0.length c0_0)] 67 (0, 0))) ∧ Aside0 (Below w.heap.size w w'))
  case atStart => exact ⟨(0), (0), (by first | rfl | (simp; done) | (simp [*]; done)), (by first | rfl | (simp; done) | (simp [*]; done)), H', ⟨Nat.le_refl _⟩, ⟨by (with_reducible repeat (first | refine blk_drewN ?_ _ | refine blk_drew ?_ | refine blk_alloc ?_ _)); exact BK332.out⟩, ⟨by repeat (first | (with_reducible first | exact HB.out | apply below_alloc | apply pw_below_drewN | apply below_drew1 | refine below_set ?_ GE332.out) | exact HB.out)⟩⟩
  case round =>
    clear H'
    try clear c1
    try clear p2
    obtain ⟨x7_1, x11_1, rfl, rfl, HA, HK1, BK332, HB⟩ := hrel
    cases gk with
    | zero => exact absurd HA.out (by simp [spec_l09Number.l0])
    | succ k1 =>
      have H := HA.out
      clear HA
      simp only [spec_l09Number.l0] at H
      by_cases c5 : x11_1 < (l1.length : Int)
      · rw [if_pos c5] at H
        have c5b0 : decide (x11_1 < (l1.length : Int)) = true := decide_eq_true c5
        clear c5
        by_cases c6 : 0 ≤ x11_1
        · rw [if_pos c6] at H
          have c6b0 : decide (0 ≤ x11_1) = true := decide_eq_true c6
          clear c6
          by_cases c7 : x11_1 < (l0_0.length : Int)
          · rw [if_pos c7] at H
            have c7b0 : decide (x11_1 < (l0_0.length : Int)) = true := decide_eq_true c7
            clear c7
            by_cases c8 : x11_1 < (l1.length : Int)
            · rw [if_pos c8] at H
              have c8b0 : decide (x11_1 < (l1.length : Int)) = true := decide_eq_true c8
              clear c8
              have H' := Aside0.mk H
              clear H
              have hcz9_0 : wr.cell? ⟨gb332, 0, none⟩ = some (.slice A0_0 l0_0.length c0_0) := (blk_cell BK332.out 0).trans rfl
              have hfz9_0 := blk_frozen BK332.out 0
              have p333 : 0 ≤ (x11_1 : Int) := of_decide_eq_true (by first | (with_reducible assumption) | assumption)
              have q333 : x11_1 < (l0_0.length : Int) := of_decide_eq_true (by first | (with_reducible assumption) | assumption)
              obtain ⟨ad333, e333, hx333_0⟩ := Kd.at_int HR0_0.out x11_1 p333 q333
              cases e333
              replace hx333_0 := (HB.out.cell (World.block_lt_of_cell? w _ hx333_0)).trans hx333_0
              replace p333 := eq_true p333
              replace q333 := eq_true q333
              have p334 : 0 ≤ (x11_1 : Int) := of_decide_eq_true (by first | (with_reducible assumption) | assumption)
              have q334 : x11_1 < (l1.length : Int) := of_decide_eq_true (by first | (with_reducible assumption) | assumption)
              obtain ⟨ad334, e334, hx334_0⟩ := Kd.at_int HR1.out x11_1 p334 q334
              cases e334
              replace hx334_0 := (HB.out.cell (World.block_lt_of_cell? w _ hx334_0)).trans hx334_0
              replace p334 := eq_true p334
              replace q334 := eq_true q334
              go_wp2
              repeat (go_quiet (fail); try go_wp2)
              go_roundg k1
              case measure => have := HK1.out; omega
              case rel => exact ⟨(wrap64 ((wrap64 ((wrap64 (x7_1 * (rd l0_0 x11_1))) + (rd l1 x11_1))) - 1)), (wrap64 (x11_1 + 1)), (by first | rfl | (simp; done) | (simp [*]; done)), (by first | rfl | (simp; done) | (simp [*]; done)), H', ⟨by have := HK1.out; omega⟩, ⟨by (with_reducible repeat (first | refine blk_drewN ?_ _ | refine blk_drew ?_ | refine blk_alloc ?_ _)); exact BK332.out⟩, ⟨by repeat (first | (with_reducible first | exact HB.out | apply below_alloc | apply pw_below_drewN | apply below_drew1 | refine below_set ?_ GE332.out) | exact HB.out)⟩⟩
            · rw [if_neg c8] at H
              exact absurd H (by simp)
          · rw [if_neg c7] at H
            exact absurd H (by simp)
        · rw [if_neg c6] at H
          exact absurd H (by simp)
      · rw [if_neg c5] at H
        have c5b0 : decide (x11_1 < (l1.length : Int)) = false := decide_eq_false c5
        clear c5
        replace H := Option.bind_eq_some_iff.mp H
        obtain ⟨t335, A100, H⟩ := H
        replace H : (some (wrap64 ((wrap64 (x7_1 * t335)) + a2))) = some r := H
        have A10 := Aside0.mk A100
        clear A100
        obtain rfl := Option.some.inj H
        have hcz11_0 : wr.cell? ⟨gb332, 0, none⟩ = some (.slice A0_0 l0_0.length c0_0) := (blk_cell BK332.out 0).trans rfl
        have hfz11_0 := blk_frozen BK332.out 0
        go_wp2_with (first | (go_at_call 116; (with_reducible refine (spec_l01K.calls _ _ l0_0 t335 _ ?side1 ?side2 A10.out).mono ?_); (case side1 => repeat (first | exact (Kd.C_below HR0_0.out HB.out) | (with_reducible refine Kd.C_alloc ?_ _) | (with_reducible refine Kd.C_drewN ?_ _) | (with_reducible refine Kd.C_drew ?_))); (case side2 => exact HC0_0.out); rintro e w12 ⟨rfl, hb⟩; have n0_ := Aside0.mk (blk_below (g := gb332) (o := .cells #[.slice A0_0 l0_0.length c0_0] 67 (0, 0)) (by (with_reducible repeat (first | refine blk_drewN ?_ _ | refine blk_drew ?_ | refine blk_alloc ?_ _)); exact BK332.out) hb); have n1_ := Aside0.mk (below_step (by repeat (first | (with_reducible first | exact HB.out | apply below_alloc | apply pw_below_drewN | apply below_drew1 | refine below_set ?_ GE332.out) | exact HB.out)) hb); clear BK332; clear HB; have BK332 := n0_; have HB := n1_; clear n0_ n1_; (try clear hb); (try clear hb2); (try clear hk); (try clear hi)))
        repeat (go_quiet (first | (go_at_call 116; (with_reducible refine (spec_l01K.calls _ _ l0_0 t335 _ ?side1 ?side2 A10.out).mono ?_); (case side1 => repeat (first | exact (Kd.C_below HR0_0.out HB.out) | (with_reducible refine Kd.C_alloc ?_ _) | (with_reducible refine Kd.C_drewN ?_ _) | (with_reducible refine Kd.C_drew ?_))); (case side2 => exact HC0_0.out); rintro e w12 ⟨rfl, hb⟩; have n0_ := Aside0.mk (blk_below (g := gb332) (o := .cells #[.slice A0_0 l0_0.length c0_0] 67 (0, 0)) (by (with_reducible repeat (first | refine blk_drewN ?_ _ | refine blk_drew ?_ | refine blk_alloc ?_ _)); exact BK332.out) hb); have n1_ := Aside0.mk (below_step (by repeat (first | (with_reducible first | exact HB.out | apply below_alloc | apply pw_below_drewN | apply below_drew1 | refine below_set ?_ GE332.out) | exact HB.out)) hb); clear BK332; clear HB; have BK332 := n0_; have HB := n1_; clear n0_ n1_; (try clear hb); (try clear hb2); (try clear hk); (try clear hi))); try go_wp2_with (first | (go_at_call 116; (with_reducible refine (spec_l01K.calls _ _ l0_0 t335 _ ?side1 ?side2 A10.out).mono ?_); (case side1 => repeat (first | exact (Kd.C_below HR0_0.out HB.out) | (with_reducible refine Kd.C_alloc ?_ _) | (with_reducible refine Kd.C_drewN ?_ _) | (with_reducible refine Kd.C_drew ?_))); (case side2 => exact HC0_0.out); rintro e w12 ⟨rfl, hb⟩; have n0_ := Aside0.mk (blk_below (g := gb332) (o := .cells #[.slice A0_0 l0_0.length c0_0] 67 (0, 0)) (by (with_reducible repeat (first | refine blk_drewN ?_ _ | refine blk_drew ?_ | refine blk_alloc ?_ _)); exact BK332.out) hb); have n1_ := Aside0.mk (below_step (by repeat (first | (with_reducible first | exact HB.out | apply below_alloc | apply pw_below_drewN | apply below_drew1 | refine below_set ?_ GE332.out) | exact HB.out)) hb); clear BK332; clear HB; have BK332 := n0_; have HB := n1_; clear n0_ n1_; (try clear hb); (try clear hb2); (try clear hk); (try clear hi))))
        go_ret
        exact ⟨by first | rfl | (simp [errW_none, errW_some] <;> rfl) | (simp [*, errW_none, errW_some] <;> rfl), by repeat (first | (with_reducible first | exact HB.out | apply below_alloc | apply pw_below_drewN | apply below_drew1 | refine below_set ?_ GE332.out) | exact HB.out)⟩

end Go.Proofs.Ytoakdilhljnjfaa.Q
-- written by wip/tools/printx.py (this session's) out of the translation; Lean checks it
namespace Go.Proofs.Ytoakdilhljnjfaa.Q
open Go.RowKit Go.Proofs.YtoakdilhljnjfaaW.PrintWords Go.Proofs.YtoakdilhljnjfaaW.PrintLast Go.Proofs.YtoakdilhljnjfaaW.PrintMore
attribute [local go_sem] max2_int min2_int max_two min_two max_three min_three max_four min_four   -- for this text's walks alone
set_option linter.unusedVariables false
set_option linter.unusedSimpArgs false

/-! ### spec_l09Move: function 99 -/
def spec_l09Move.l0 : Nat → Int → List Int → Int → Int → List Int → Option (Int)
  | 0, _, _, _, _, _ => none
  | k + 1, x2, x7, x12, x13, x354000 => if x13 < x12 then (if 0 ≤ x13 then (if x13 < (x7.length : Int) then ((some (x7.set (x13 : Int).toNat (wrap64 ((rd x7 x13) - 1)) : List Int)).bind fun y359 => (if x13 = x2 then (if x13 < (x354000.length : Int) then ((some (y359.set (x13 : Int).toNat (rd x354000 x13) : List Int)).bind fun y361 => (if (rd y361 x13) = 0 then (some (-1)) else (spec_l09Move.l0 k x2 y361 x12 (wrap64 (x13 + 1)) x354000))) else (none)) else (if (rd y359 x13) = 0 then (some (-1)) else (spec_l09Move.l0 k x2 y359 x12 (wrap64 (x13 + 1)) x354000)))) else (none)) else (none)) else ((spec_l09Number.f k x354000 x7 x2).bind fun t357 => (some t357))
def spec_l09Move.f (k : Nat) (l0_0 : List Int) (l1 : List Int) (a2 : Int) : Option (Int) := (spec_l01Own.f l1).bind fun t354 => (spec_l09Move.l0 k a2 t354 (t354.length : Int) 0 l0_0)
theorem spec_l09Move.mono_l : ∀ k, (∀ y0 y1 y2 y3 y4, LeO (spec_l09Move.l0 k y0 y1 y2 y3 y4) (spec_l09Move.l0 (k + 1) y0 y1 y2 y3 y4))
  | 0 => fun _ _ _ _ _ r h => by simp [spec_l09Move.l0] at h
  | k + 1 => by
    have ih0 := spec_l09Move.mono_l k
    · intro y0 y1 y2 y3 y4
      unfold spec_l09Move.l0
      repeat' first
      | (with_reducible exact ih0 _ _ _ _ _)
      | (with_reducible exact spec_l09Number.mono _ _ _ _)
      | (with_reducible exact LeO.refl _)
      | (with_reducible exact LeO.none _)
      | (with_reducible refine LeO.ite ?_ ?_)
      | (with_reducible refine LeO.bind ?_ (fun _ => ?_))
      | exact ih0 _ _ _ _ _
      | exact spec_l09Number.mono _ _ _ _
      | exact LeO.none _
      | refine LeO.ite ?_ ?_
      | refine LeO.bind ?_ (fun _ => ?_)
theorem spec_l09Move.mono : ∀ a0 a1 a2 k, LeO (spec_l09Move.f k a0 a1 a2) (spec_l09Move.f (k + 1) a0 a1 a2) := by
  intro a0 a1 a2 k
  have ih0 := spec_l09Move.mono_l k
  unfold spec_l09Move.f
  repeat' first
      | (with_reducible exact ih0 _ _ _ _ _)
      | (with_reducible exact spec_l09Number.mono _ _ _ _)
      | (with_reducible exact LeO.refl _)
      | (with_reducible exact LeO.none _)
      | (with_reducible refine LeO.ite ?_ ?_)
      | (with_reducible refine LeO.bind ?_ (fun _ => ?_))
      | exact ih0 _ _ _ _ _
      | exact spec_l09Number.mono _ _ _ _
      | exact LeO.none _
      | refine LeO.ite ?_ ?_
      | refine LeO.bind ?_ (fun _ => ?_)
set_option maxHeartbeats 8000000 in
set_option maxRecDepth 100000 in
theorem spec_l09Move.calls (k : Nat) (A0_0 : Option Addr) (c0_0 : Nat) (l0_0 : List Int) (A1 : Option Addr) (c1 : Nat) (l1 : List Int) (a2 : Int) (r : Int) (w : World) (hr0_0 : Kd.C (Kd.int .i64) w A0_0 l0_0.length l0_0) (hc0_0 : l0_0.length ≤ c0_0) (hr1 : Kd.C (Kd.int .i64) w A1 l1.length l1) (hc1 : l1.length ≤ c1) (h : spec_l09Move.f k l0_0 l1 a2 = some r) :
    Calls Try.prog 99 #[.agg #[.slice A0_0 l0_0.length c0_0], .slice A1 l1.length c1, .int .i64 a2] w fun e w' => e = .returned (.int .i64 r) ∧ Below w.heap.size w w' := by
  have hu67 := Try.underlying67
  have HR0_0 := Aside0.mk hr0_0
  have HC0_0 := Aside0.mk hc0_0
  clear hr0_0 hc0_0
  have HR1 := Aside0.mk hr1
  have HC1 := Aside0.mk hc1
  clear hr1 hc1
  have HB := Aside0.mk (Below.refl w.heap.size w)
  have H : ((spec_l01Own.f l1).bind fun t354 => (spec_l09Move.l0 k a2 t354 (t354.length : Int) 0 l0_0)) = some r := h
  clear h
  replace H := Option.bind_eq_some_iff.mp H
  obtain ⟨t354, A40, H⟩ := H
  replace H : (spec_l09Move.l0 k a2 t354 (t354.length : Int) 0 l0_0) = some r := H
  have A4 := Aside0.mk A40
  clear A40
  have H' := Aside0.mk H
  clear H
  go_enter Try.func99, Try.ntmps99
  go_wp2_with (first | ((with_reducible refine gate_dst (N := 3) rfl ?_); refine box_event ?hg (N := 3) ?hd (cs := #[.slice A0_0 l0_0.length c0_0]) (t := 67) ?hr ?_; (case hd => rfl); (case hg => rfl); (case hr => first | (go_simp; done) | (go_simp; rfl)); intro gb353 hg w5 hbox hb; have n0_ := Aside0.mk (below_step (by repeat (first | (with_reducible first | exact HB.out | apply below_alloc | apply pw_below_drewN | apply below_drew1) | exact HB.out)) hb); have n1_ := Aside0.mk (hbox); have n2_ := Aside0.mk ((by rw [hg]; exact (below_size (by repeat (first | (with_reducible first | exact HB.out | apply below_alloc | apply pw_below_drewN | apply below_drew1) | exact HB.out))) : w.heap.size ≤ gb353)); have n3_ := Aside0.mk ((by rw [hg]; exact (below_size (by repeat (first | (with_reducible first | exact HB.out | apply below_alloc | apply pw_below_drewN | apply below_drew1) | exact HB.out))) : w.heap.size ≤ gb353)); clear HB; have HB := n0_; have BK353 := n1_; have GW353 := n2_; have GE353 := n3_; clear n0_ n1_ n2_ n3_; clear hb hbox hg) | ((with_reducible refine gate_callee (f := 84) rfl ?_); refine goesL_ (some 10) rfl rfl Try.func84 (by kernel_rfl) rfl #[.slice A1 l1.length c1] rfl (by (try simp only [List.map_toArray, List.map_cons, List.map_nil]); first | done | rfl | (simp only [List.length_drop, List.length_take]; rfl)) ?_; (with_reducible refine (spec_l01Own.calls _ _ l1 t354 _ ?side1 ?side2 A4.out).mono ?_); (case side1 => repeat (first | exact (Kd.C_below HR1.out HB.out) | (with_reducible refine Kd.C_alloc ?_ _) | (with_reducible refine Kd.C_drewN ?_ _) | (with_reducible refine Kd.C_drew ?_))); (case side2 => exact HC1.out); rintro e w6 ⟨v355, rfl, ho0, hb⟩; refine ⟨_, rfl, ?_⟩; have n0_ := Aside0.mk (Kd.R_lower ho0 (below_size (by repeat (first | (with_reducible first | exact HB.out | apply below_alloc | apply pw_below_drewN | apply below_drew1 | refine below_set ?_ GE353.out) | exact HB.out)))); have n1_ := Aside0.mk (blk_below (g := gb353) (o := .cells #[.slice A0_0 l0_0.length c0_0] 67 (0, 0)) (by (with_reducible repeat (first | refine blk_drewN ?_ _ | refine blk_drew ?_ | refine blk_alloc ?_ _)); exact BK353.out) hb); have n2_ := Aside0.mk (below_step (by repeat (first | (with_reducible first | exact HB.out | apply below_alloc | apply pw_below_drewN | apply below_drew1 | refine below_set ?_ GE353.out) | exact HB.out)) hb); clear BK353; clear HB; have HO356 := n0_; have BK353 := n1_; have HB := n2_; clear n0_ n1_ n2_; (try clear hb); (try clear hb2); (try clear hk); (try clear hi); (try clear ho0); obtain ⟨Ao7, co7, eo7⟩ := Kd.R_slice HO356.out; subst eo7))
  go_loopg [13] k (fun kq v13 w' => ∃ (x7_1 : List Int) (x13_1 : Int), v13 = .int .i64 x13_1 ∧ Aside0 (spec_l09Move.l0 kq a2 x7_1 (t354.length : Int) x13_1 l0_0 = some r) ∧ Aside0 (kq ≤ k) ∧ Aside0 (Kd.R (Kd.int .i64) 2 w' w.heap.size (fun _ => True) (.slice Ao7 t354.length co7) x7_1) ∧ Aside0 (w'.heap[gb353]? = some (.cells #[(.slice A0_0 l0_0.length c0_0)] 67 (0, 0))) ∧ Aside0 (Below w.heap.size w w'))
  case atStart => exact ⟨(t354), (0), (by first | rfl | (simp; done) | (simp [*]; done)), H', ⟨Nat.le_refl _⟩, ⟨by (with_reducible repeat (first | apply Kd.R_alloc | apply Kd.R_drewN | apply Kd.R_drew)); exact HO356.out⟩, ⟨by (with_reducible repeat (first | refine blk_drewN ?_ _ | refine blk_drew ?_ | refine blk_alloc ?_ _)); exact BK353.out⟩, ⟨by repeat (first | (with_reducible first | exact HB.out | apply below_alloc | apply pw_below_drewN | apply below_drew1 | refine below_set ?_ GE353.out) | exact HB.out)⟩⟩
  case round =>
    clear H'
    try clear c1
    try clear p2
    obtain ⟨x7_1, x13_1, rfl, HA, HK1, HO_7, BK353, HB⟩ := hrel
    have hl7_1 := (Kd.R_reads' HO_7.out).1
    rw [hl7_1] at HO_7
    (try simp only [hl7_1])
    (try simp only [hl7_1] at BK353)
    cases gk with
    | zero => exact absurd HA.out (by simp [spec_l09Move.l0])
    | succ k1 =>
      have H := HA.out
      clear HA
      simp only [spec_l09Move.l0] at H
      by_cases c8 : x13_1 < (t354.length : Int)
      · rw [if_pos c8] at H
        have c8b0 : decide (x13_1 < (t354.length : Int)) = true := decide_eq_true c8
        (try rw [hl7_1] at c8b0)
        clear c8
        by_cases c9 : 0 ≤ x13_1
        · rw [if_pos c9] at H
          have c9b0 : decide (0 ≤ x13_1) = true := decide_eq_true c9
          clear c9
          by_cases c10 : x13_1 < (x7_1.length : Int)
          · rw [if_pos c10] at H
            have c10b0 : decide (x13_1 < (x7_1.length : Int)) = true := decide_eq_true c10
            (try rw [hl7_1] at c10b0)
            clear c10
            obtain ⟨y359, hy359⟩ : ∃ y_ : List Int, y_ = (x7_1.set (x13_1 : Int).toNat (wrap64 ((rd x7_1 x13_1) - 1))) := ⟨_, rfl⟩
            replace H : (if x13_1 = a2 then (if x13_1 < (l0_0.length : Int) then ((some (y359.set (x13_1 : Int).toNat (rd l0_0 x13_1) : List Int)).bind fun y361 => (if (rd y361 x13_1) = 0 then (some (-1)) else (spec_l09Move.l0 k1 a2 y361 (t354.length : Int) (wrap64 (x13_1 + 1)) l0_0))) else (none)) else (if (rd y359 x13_1) = 0 then (some (-1)) else (spec_l09Move.l0 k1 a2 y359 (t354.length : Int) (wrap64 (x13_1 + 1)) l0_0))) = some r := by first | (rw [hy359]; with_reducible exact H) | (have H2_ := (Option.bind_some _ _).symm.trans H; rw [hy359]; with_reducible exact H2_) | (have H2_ := (Option.bind_some _ _).symm.trans H; with_reducible exact H2_) | with_reducible exact H | (rw [hy359]; exact H) | exact H
            have Ny359 := Aside0.mk hy359
            clear hy359
            by_cases c12 : x13_1 = a2
            · rw [if_pos c12] at H
              have c12b0 : (x13_1 == a2) = true := beq_iff_eq.mpr c12
              have c12b1 : (x13_1 != a2) = false := bne_eq_false_iff_eq.mpr c12
              clear c12
              by_cases c13 : x13_1 < (l0_0.length : Int)
              · rw [if_pos c13] at H
                have c13b0 : decide (x13_1 < (l0_0.length : Int)) = true := decide_eq_true c13
                clear c13
                obtain ⟨y361, hy361⟩ : ∃ y_ : List Int, y_ = (y359.set (x13_1 : Int).toNat (rd l0_0 x13_1)) := ⟨_, rfl⟩
                replace H : (if (rd y361 x13_1) = 0 then (some (-1)) else (spec_l09Move.l0 k1 a2 y361 (t354.length : Int) (wrap64 (x13_1 + 1)) l0_0)) = some r := by first | (rw [hy361]; with_reducible exact H) | (have H2_ := (Option.bind_some _ _).symm.trans H; rw [hy361]; with_reducible exact H2_) | (have H2_ := (Option.bind_some _ _).symm.trans H; with_reducible exact H2_) | with_reducible exact H | (rw [hy361]; exact H) | exact H
                have Ny361 := Aside0.mk hy361
                clear hy361
                by_cases c15 : (rd y361 x13_1) = 0
                · rw [if_pos c15] at H
                  have c15b0 : ((rd y361 x13_1) == 0) = true := beq_iff_eq.mpr c15
                  have c15b1 : ((rd y361 x13_1) != 0) = false := bne_eq_false_iff_eq.mpr c15
                  clear c15
                  obtain rfl := Option.some.inj H
                  have p358 : 0 ≤ (x13_1 : Int) := of_decide_eq_true (by first | (with_reducible assumption) | assumption)
                  have q358 : x13_1 < (x7_1.length : Int) := of_decide_eq_true (by first | (with_reducible assumption) | assumption)
                  obtain ⟨ad358, e358, hx358_0⟩ := Kd.at_int (Kd.R_reads' HO_7.out).2.2 x13_1 p358 q358
                  cases e358
                  replace p358 := eq_true p358
                  replace q358 := eq_true q358
                  have p11 : 0 ≤ (x13_1 : Int) := of_decide_eq_true (by first | (with_reducible assumption) | assumption)
                  have q11 : (x13_1 : Int) < ((x7_1.length : Int) : Int) := of_decide_eq_true (by first | (with_reducible assumption) | assumption)
                  obtain ⟨go11, co11, eo11, gb11, gl11, cl11, HG11⟩ := Kd.R_form HO_7.out (by omega)
                  (first | cases eo11 | (injection eo11 with ea_ en_ ec_; (first | subst ea_ | (injection ea_ with ea_; subst ea_)); subst ec_; clear en_))
                  have GB11 := Aside0.mk gb11
                  have GG11 := Aside0.mk HG11
                  clear gb11 gl11 HG11
                  (first | simp only [add_plain] at hx358_0 | skip)
                  obtain ⟨hx11_0, hf11_0⟩ := Kd.R_celln 0 HO_7.out (x13_1 : Int) p11 q11
                  replace p11 := eq_true p11
                  replace q11 := eq_true q11
                  have HP16 := Kd.R_putg HO_7.out (x13_1 : Int) (wrap64 ((rd x7_1 x13_1) - 1))
                  go_wp2_with (first | ((with_reducible refine gate_store (t := 2) (p := 21) rfl ?_); refine store_event (t := 2) (p := 21) (v := ?vo_w17) (w1 := (wr.setCell ⟨go11, (x13_1 : Int).toNat, none⟩ (.int .i64 (wrap64 ((rd x7_1 x13_1) - 1))))) ?hg ?ho ?hn ?hr ?_; (case ho => rfl); (case hg => rfl); (case hn => rfl); (case hr => first | (go_simp; done) | (go_simp; rfl)); intro w17 hw; have hg : wr.grownBy w17 (some go11) := (by rw [hw]; exact HP16.2); have hp_ : Kd.R (Kd.int .i64) 2 w17 w.heap.size (fun _ => True) (.slice (some ⟨go11, 0, none⟩) x7_1.length co7) y359 := (by rw [hw, Ny359.out]; exact HP16.1); clear HP16; have n0_ := Aside0.mk (hp_); have n1_ := Aside0.mk (blk_grown (g := gb353) (o := .cells #[.slice A0_0 l0_0.length c0_0] 67 (0, 0)) (by (with_reducible repeat (first | refine blk_drewN ?_ _ | refine blk_drew ?_ | refine blk_alloc ?_ _)); exact BK353.out) hg (Kd.R_ne HO_7.out BK353.out (by decide))); have n2_ := Aside0.mk ((by rw [hw]; exact below_set (HB.out) GB11.out : Below w.heap.size w w17)); clear HO_7; clear BK353; clear HB; have HO_7 := n0_; have BK353 := n1_; have HB := n2_; clear n0_ n1_ n2_; clear hg hw hp_; have hcz18_0 : w17.cell? ⟨gb353, 0, none⟩ = some (.slice A0_0 l0_0.length c0_0) := (blk_cell BK353.out 0).trans rfl; have hfz18_0 := blk_frozen BK353.out 0; have p360 : 0 ≤ (x13_1 : Int) := of_decide_eq_true (by first | (with_reducible assumption) | assumption); have q360 : x13_1 < (l0_0.length : Int) := of_decide_eq_true (by first | (with_reducible assumption) | assumption); obtain ⟨ad360, e360, hx360_0⟩ := Kd.at_int HR0_0.out x13_1 p360 q360; cases e360; replace hx360_0 := (HB.out.cell (World.block_lt_of_cell? w _ hx360_0)).trans hx360_0; replace p360 := eq_true p360; replace q360 := eq_true q360; have p14 : 0 ≤ (x13_1 : Int) := of_decide_eq_true (by first | (with_reducible assumption) | assumption); have q14 : (x13_1 : Int) < ((x7_1.length : Int) : Int) := of_decide_eq_true (by first | (with_reducible assumption) | assumption); obtain ⟨hx14_0, hf14_0⟩ := Kd.R_celln 0 HO_7.out (x13_1 : Int) p14 q14; replace p14 := eq_true p14; replace q14 := eq_true q14; obtain ⟨hy19_, hz19_⟩ := Kd.R_celln 0 HO_7.out (x13_1 : Int) (of_decide_eq_true (by first | (with_reducible assumption) | assumption)) (of_decide_eq_true (by first | (with_reducible assumption) | assumption)); have HP19 := Kd.R_putg HO_7.out (x13_1 : Int) (rd l0_0 x13_1)) | ((with_reducible refine gate_store (t := 2) (p := 32) rfl ?_); refine store_event (t := 2) (p := 32) (v := ?vo_w20) (w1 := (w17.setCell ⟨go11, (x13_1 : Int).toNat, none⟩ (.int .i64 (rd l0_0 x13_1)))) ?hg ?ho ?hn ?hr ?_; (case ho => rfl); (case hg => rfl); (case hn => rfl); (case hr => first | (go_simp; done) | (go_simp; rfl)); intro w20 hw; have hg : w17.grownBy w20 (some go11) := (by rw [hw]; exact HP19.2); have hp_ : Kd.R (Kd.int .i64) 2 w20 w.heap.size (fun _ => True) (.slice (some ⟨go11, 0, none⟩) x7_1.length co7) y361 := (by rw [hw, Ny361.out]; exact HP19.1); clear HP19; have n0_ := Aside0.mk (hp_); have n1_ := Aside0.mk (blk_grown (g := gb353) (o := .cells #[.slice (some ad360) l0_0.length c0_0] 67 (0, 0)) (by (with_reducible repeat (first | refine blk_drewN ?_ _ | refine blk_drew ?_ | refine blk_alloc ?_ _)); exact BK353.out) hg (Kd.R_ne HO_7.out BK353.out (by decide))); have n2_ := Aside0.mk ((by rw [hw]; exact below_set (HB.out) GB11.out : Below w.heap.size w w20)); clear HO_7; clear BK353; clear HB; have HO_7 := n0_; have BK353 := n1_; have HB := n2_; clear n0_ n1_ n2_; clear hg hw hp_; have p362 : 0 ≤ (x13_1 : Int) := of_decide_eq_true (by first | (with_reducible assumption) | assumption); have q362 : x13_1 < (y361.length : Int) := (by have h_ : (x13_1 : Int) < ((x7_1.length : Int) : Int) := of_decide_eq_true (by first | (with_reducible assumption) | assumption); first | (have e_ := (Kd.R_reads' HO_7.out).1; omega) | simpa only [Ny359.out, Ny361.out, List.length_set] using h_); have ql362 : ((x13_1 : Int) < ((x7_1.length : Int) : Int)) = True := eq_true (of_decide_eq_true (by first | (with_reducible assumption) | assumption)); obtain ⟨ad362, e362, hx362_0⟩ := Kd.at_int (Kd.R_reads' HO_7.out).2.2 x13_1 p362 q362; obtain rfl : (⟨go11, 0, none⟩ : Addr) = ad362 := (by injection e362); (first | simp only [add_plain] at hx362_0 | simp only [add_at] at hx362_0 | simp only [Addr.add, Nat.zero_add] at hx362_0 | skip); replace p362 := eq_true p362; replace q362 := eq_true q362))
                  go_ret
                  exact ⟨by first | rfl | (simp [errW_none, errW_some] <;> rfl) | (simp [*, errW_none, errW_some] <;> rfl), by repeat (first | (with_reducible first | exact HB.out | apply below_alloc | apply pw_below_drewN | apply below_drew1 | refine below_set ?_ GE353.out) | exact HB.out)⟩
                · rw [if_neg c15] at H
                  have c15b0 : ((rd y361 x13_1) == 0) = false := beq_eq_false_iff_ne.mpr c15
                  have c15b1 : ((rd y361 x13_1) != 0) = true := bne_iff_ne.mpr c15
                  have H' := Aside0.mk H
                  clear H
                  have p358 : 0 ≤ (x13_1 : Int) := of_decide_eq_true (by first | (with_reducible assumption) | assumption)
                  have q358 : x13_1 < (x7_1.length : Int) := of_decide_eq_true (by first | (with_reducible assumption) | assumption)
                  obtain ⟨ad358, e358, hx358_0⟩ := Kd.at_int (Kd.R_reads' HO_7.out).2.2 x13_1 p358 q358
                  cases e358
                  replace p358 := eq_true p358
                  replace q358 := eq_true q358
                  have p11 : 0 ≤ (x13_1 : Int) := of_decide_eq_true (by first | (with_reducible assumption) | assumption)
                  have q11 : (x13_1 : Int) < ((x7_1.length : Int) : Int) := of_decide_eq_true (by first | (with_reducible assumption) | assumption)
                  obtain ⟨go11, co11, eo11, gb11, gl11, cl11, HG11⟩ := Kd.R_form HO_7.out (by omega)
                  (first | cases eo11 | (injection eo11 with ea_ en_ ec_; (first | subst ea_ | (injection ea_ with ea_; subst ea_)); subst ec_; clear en_))
                  have GB11 := Aside0.mk gb11
                  have GG11 := Aside0.mk HG11
                  clear gb11 gl11 HG11
                  (first | simp only [add_plain] at hx358_0 | skip)
                  obtain ⟨hx11_0, hf11_0⟩ := Kd.R_celln 0 HO_7.out (x13_1 : Int) p11 q11
                  replace p11 := eq_true p11
                  replace q11 := eq_true q11
                  have HP21 := Kd.R_putg HO_7.out (x13_1 : Int) (wrap64 ((rd x7_1 x13_1) - 1))
                  go_wp2_with (first | ((with_reducible refine gate_store (t := 2) (p := 21) rfl ?_); refine store_event (t := 2) (p := 21) (v := ?vo_w22) (w1 := (wr.setCell ⟨go11, (x13_1 : Int).toNat, none⟩ (.int .i64 (wrap64 ((rd x7_1 x13_1) - 1))))) ?hg ?ho ?hn ?hr ?_; (case ho => rfl); (case hg => rfl); (case hn => rfl); (case hr => first | (go_simp; done) | (go_simp; rfl)); intro w22 hw; have hg : wr.grownBy w22 (some go11) := (by rw [hw]; exact HP21.2); have hp_ : Kd.R (Kd.int .i64) 2 w22 w.heap.size (fun _ => True) (.slice (some ⟨go11, 0, none⟩) x7_1.length co7) y359 := (by rw [hw, Ny359.out]; exact HP21.1); clear HP21; have n0_ := Aside0.mk (hp_); have n1_ := Aside0.mk (blk_grown (g := gb353) (o := .cells #[.slice A0_0 l0_0.length c0_0] 67 (0, 0)) (by (with_reducible repeat (first | refine blk_drewN ?_ _ | refine blk_drew ?_ | refine blk_alloc ?_ _)); exact BK353.out) hg (Kd.R_ne HO_7.out BK353.out (by decide))); have n2_ := Aside0.mk ((by rw [hw]; exact below_set (HB.out) GB11.out : Below w.heap.size w w22)); clear HO_7; clear BK353; clear HB; have HO_7 := n0_; have BK353 := n1_; have HB := n2_; clear n0_ n1_ n2_; clear hg hw hp_; have hcz23_0 : w22.cell? ⟨gb353, 0, none⟩ = some (.slice A0_0 l0_0.length c0_0) := (blk_cell BK353.out 0).trans rfl; have hfz23_0 := blk_frozen BK353.out 0; have p360 : 0 ≤ (x13_1 : Int) := of_decide_eq_true (by first | (with_reducible assumption) | assumption); have q360 : x13_1 < (l0_0.length : Int) := of_decide_eq_true (by first | (with_reducible assumption) | assumption); obtain ⟨ad360, e360, hx360_0⟩ := Kd.at_int HR0_0.out x13_1 p360 q360; cases e360; replace hx360_0 := (HB.out.cell (World.block_lt_of_cell? w _ hx360_0)).trans hx360_0; replace p360 := eq_true p360; replace q360 := eq_true q360; have p14 : 0 ≤ (x13_1 : Int) := of_decide_eq_true (by first | (with_reducible assumption) | assumption); have q14 : (x13_1 : Int) < ((x7_1.length : Int) : Int) := of_decide_eq_true (by first | (with_reducible assumption) | assumption); obtain ⟨hx14_0, hf14_0⟩ := Kd.R_celln 0 HO_7.out (x13_1 : Int) p14 q14; replace p14 := eq_true p14; replace q14 := eq_true q14; obtain ⟨hy24_, hz24_⟩ := Kd.R_celln 0 HO_7.out (x13_1 : Int) (of_decide_eq_true (by first | (with_reducible assumption) | assumption)) (of_decide_eq_true (by first | (with_reducible assumption) | assumption)); have HP24 := Kd.R_putg HO_7.out (x13_1 : Int) (rd l0_0 x13_1)) | ((with_reducible refine gate_store (t := 2) (p := 32) rfl ?_); refine store_event (t := 2) (p := 32) (v := ?vo_w25) (w1 := (w22.setCell ⟨go11, (x13_1 : Int).toNat, none⟩ (.int .i64 (rd l0_0 x13_1)))) ?hg ?ho ?hn ?hr ?_; (case ho => rfl); (case hg => rfl); (case hn => rfl); (case hr => first | (go_simp; done) | (go_simp; rfl)); intro w25 hw; have hg : w22.grownBy w25 (some go11) := (by rw [hw]; exact HP24.2); have hp_ : Kd.R (Kd.int .i64) 2 w25 w.heap.size (fun _ => True) (.slice (some ⟨go11, 0, none⟩) x7_1.length co7) y361 := (by rw [hw, Ny361.out]; exact HP24.1); clear HP24; have n0_ := Aside0.mk (hp_); have n1_ := Aside0.mk (blk_grown (g := gb353) (o := .cells #[.slice (some ad360) l0_0.length c0_0] 67 (0, 0)) (by (with_reducible repeat (first | refine blk_drewN ?_ _ | refine blk_drew ?_ | refine blk_alloc ?_ _)); exact BK353.out) hg (Kd.R_ne HO_7.out BK353.out (by decide))); have n2_ := Aside0.mk ((by rw [hw]; exact below_set (HB.out) GB11.out : Below w.heap.size w w25)); clear HO_7; clear BK353; clear HB; have HO_7 := n0_; have BK353 := n1_; have HB := n2_; clear n0_ n1_ n2_; clear hg hw hp_; have p362 : 0 ≤ (x13_1 : Int) := of_decide_eq_true (by first | (with_reducible assumption) | assumption); have q362 : x13_1 < (y361.length : Int) := (by have h_ : (x13_1 : Int) < ((x7_1.length : Int) : Int) := of_decide_eq_true (by first | (with_reducible assumption) | assumption); first | (have e_ := (Kd.R_reads' HO_7.out).1; omega) | simpa only [Ny359.out, Ny361.out, List.length_set] using h_); have ql362 : ((x13_1 : Int) < ((x7_1.length : Int) : Int)) = True := eq_true (of_decide_eq_true (by first | (with_reducible assumption) | assumption)); obtain ⟨ad362, e362, hx362_0⟩ := Kd.at_int (Kd.R_reads' HO_7.out).2.2 x13_1 p362 q362; obtain rfl : (⟨go11, 0, none⟩ : Addr) = ad362 := (by injection e362); (first | simp only [add_plain] at hx362_0 | simp only [add_at] at hx362_0 | simp only [Addr.add, Nat.zero_add] at hx362_0 | skip); replace p362 := eq_true p362; replace q362 := eq_true q362))
                  (try simp only [← hl7_1])
                  go_roundg k1
                  case measure => have := HK1.out; omega
                  case rel => exact ⟨(y361), (wrap64 (x13_1 + 1)), (by first | rfl | (simp; done) | (simp [*]; done)), H', ⟨by have := HK1.out; omega⟩, ⟨by (try simp only [hl7_1]); (with_reducible repeat (first | apply Kd.R_alloc | apply Kd.R_drewN | apply Kd.R_drew)); exact HO_7.out⟩, ⟨by (try simp only [hl7_1]); (with_reducible repeat (first | refine blk_drewN ?_ _ | refine blk_drew ?_ | refine blk_alloc ?_ _)); exact BK353.out⟩, ⟨by repeat (first | (with_reducible first | exact HB.out | apply below_alloc | apply pw_below_drewN | apply below_drew1 | refine below_set ?_ GE353.out) | exact HB.out)⟩⟩
              · rw [if_neg c13] at H
                exact absurd H (by simp)
            · rw [if_neg c12] at H
              have c12b0 : (x13_1 == a2) = false := beq_eq_false_iff_ne.mpr c12
              have c12b1 : (x13_1 != a2) = true := bne_iff_ne.mpr c12
              by_cases c26 : (rd y359 x13_1) = 0
              · rw [if_pos c26] at H
                have c26b0 : ((rd y359 x13_1) == 0) = true := beq_iff_eq.mpr c26
                have c26b1 : ((rd y359 x13_1) != 0) = false := bne_eq_false_iff_eq.mpr c26
                clear c26
                obtain rfl := Option.some.inj H
                have p358 : 0 ≤ (x13_1 : Int) := of_decide_eq_true (by first | (with_reducible assumption) | assumption)
                have q358 : x13_1 < (x7_1.length : Int) := of_decide_eq_true (by first | (with_reducible assumption) | assumption)
                obtain ⟨ad358, e358, hx358_0⟩ := Kd.at_int (Kd.R_reads' HO_7.out).2.2 x13_1 p358 q358
                cases e358
                replace p358 := eq_true p358
                replace q358 := eq_true q358
                have p11 : 0 ≤ (x13_1 : Int) := of_decide_eq_true (by first | (with_reducible assumption) | assumption)
                have q11 : (x13_1 : Int) < ((x7_1.length : Int) : Int) := of_decide_eq_true (by first | (with_reducible assumption) | assumption)
                obtain ⟨go11, co11, eo11, gb11, gl11, cl11, HG11⟩ := Kd.R_form HO_7.out (by omega)
                (first | cases eo11 | (injection eo11 with ea_ en_ ec_; (first | subst ea_ | (injection ea_ with ea_; subst ea_)); subst ec_; clear en_))
                have GB11 := Aside0.mk gb11
                have GG11 := Aside0.mk HG11
                clear gb11 gl11 HG11
                (first | simp only [add_plain] at hx358_0 | skip)
                obtain ⟨hx11_0, hf11_0⟩ := Kd.R_celln 0 HO_7.out (x13_1 : Int) p11 q11
                replace p11 := eq_true p11
                replace q11 := eq_true q11
                have HP27 := Kd.R_putg HO_7.out (x13_1 : Int) (wrap64 ((rd x7_1 x13_1) - 1))
                go_wp2_with (first | ((with_reducible refine gate_store (t := 2) (p := 21) rfl ?_); refine store_event (t := 2) (p := 21) (v := ?vo_w28) (w1 := (wr.setCell ⟨go11, (x13_1 : Int).toNat, none⟩ (.int .i64 (wrap64 ((rd x7_1 x13_1) - 1))))) ?hg ?ho ?hn ?hr ?_; (case ho => rfl); (case hg => rfl); (case hn => rfl); (case hr => first | (go_simp; done) | (go_simp; rfl)); intro w28 hw; have hg : wr.grownBy w28 (some go11) := (by rw [hw]; exact HP27.2); have hp_ : Kd.R (Kd.int .i64) 2 w28 w.heap.size (fun _ => True) (.slice (some ⟨go11, 0, none⟩) x7_1.length co7) y359 := (by rw [hw, Ny359.out]; exact HP27.1); clear HP27; have n0_ := Aside0.mk (hp_); have n1_ := Aside0.mk (blk_grown (g := gb353) (o := .cells #[.slice A0_0 l0_0.length c0_0] 67 (0, 0)) (by (with_reducible repeat (first | refine blk_drewN ?_ _ | refine blk_drew ?_ | refine blk_alloc ?_ _)); exact BK353.out) hg (Kd.R_ne HO_7.out BK353.out (by decide))); have n2_ := Aside0.mk ((by rw [hw]; exact below_set (HB.out) GB11.out : Below w.heap.size w w28)); clear HO_7; clear BK353; clear HB; have HO_7 := n0_; have BK353 := n1_; have HB := n2_; clear n0_ n1_ n2_; clear hg hw hp_; have p363 : 0 ≤ (x13_1 : Int) := of_decide_eq_true (by first | (with_reducible assumption) | assumption); have q363 : x13_1 < (y359.length : Int) := (by have h_ : (x13_1 : Int) < ((x7_1.length : Int) : Int) := of_decide_eq_true (by first | (with_reducible assumption) | assumption); first | (have e_ := (Kd.R_reads' HO_7.out).1; omega) | simpa only [Ny359.out, List.length_set] using h_); have ql363 : ((x13_1 : Int) < ((x7_1.length : Int) : Int)) = True := eq_true (of_decide_eq_true (by first | (with_reducible assumption) | assumption)); obtain ⟨ad363, e363, hx363_0⟩ := Kd.at_int (Kd.R_reads' HO_7.out).2.2 x13_1 p363 q363; obtain rfl : (⟨go11, 0, none⟩ : Addr) = ad363 := (by injection e363); (first | simp only [add_plain] at hx363_0 | simp only [add_at] at hx363_0 | simp only [Addr.add, Nat.zero_add] at hx363_0 | skip); replace p363 := eq_true p363; replace q363 := eq_true q363))
                go_ret
                exact ⟨by first | rfl | (simp [errW_none, errW_some] <;> rfl) | (simp [*, errW_none, errW_some] <;> rfl), by repeat (first | (with_reducible first | exact HB.out | apply below_alloc | apply pw_below_drewN | apply below_drew1 | refine below_set ?_ GE353.out) | exact HB.out)⟩
              · rw [if_neg c26] at H
                have c26b0 : ((rd y359 x13_1) == 0) = false := beq_eq_false_iff_ne.mpr c26
                have c26b1 : ((rd y359 x13_1) != 0) = true := bne_iff_ne.mpr c26
                have H' := Aside0.mk H
                clear H
                have p358 : 0 ≤ (x13_1 : Int) := of_decide_eq_true (by first | (with_reducible assumption) | assumption)
                have q358 : x13_1 < (x7_1.length : Int) := of_decide_eq_true (by first | (with_reducible assumption) | assumption)
                obtain ⟨ad358, e358, hx358_0⟩ := Kd.at_int (Kd.R_reads' HO_7.out).2.2 x13_1 p358 q358
                cases e358
                replace p358 := eq_true p358
                replace q358 := eq_true q358
                have p11 : 0 ≤ (x13_1 : Int) := of_decide_eq_true (by first | (with_reducible assumption) | assumption)
                have q11 : (x13_1 : Int) < ((x7_1.length : Int) : Int) := of_decide_eq_true (by first | (with_reducible assumption) | assumption)
                obtain ⟨go11, co11, eo11, gb11, gl11, cl11, HG11⟩ := Kd.R_form HO_7.out (by omega)
                (first | cases eo11 | (injection eo11 with ea_ en_ ec_; (first | subst ea_ | (injection ea_ with ea_; subst ea_)); subst ec_; clear en_))
                have GB11 := Aside0.mk gb11
                have GG11 := Aside0.mk HG11
                clear gb11 gl11 HG11
                (first | simp only [add_plain] at hx358_0 | skip)
                obtain ⟨hx11_0, hf11_0⟩ := Kd.R_celln 0 HO_7.out (x13_1 : Int) p11 q11
                replace p11 := eq_true p11
                replace q11 := eq_true q11
                have HP29 := Kd.R_putg HO_7.out (x13_1 : Int) (wrap64 ((rd x7_1 x13_1) - 1))
                go_wp2_with (first | ((with_reducible refine gate_store (t := 2) (p := 21) rfl ?_); refine store_event (t := 2) (p := 21) (v := ?vo_w30) (w1 := (wr.setCell ⟨go11, (x13_1 : Int).toNat, none⟩ (.int .i64 (wrap64 ((rd x7_1 x13_1) - 1))))) ?hg ?ho ?hn ?hr ?_; (case ho => rfl); (case hg => rfl); (case hn => rfl); (case hr => first | (go_simp; done) | (go_simp; rfl)); intro w30 hw; have hg : wr.grownBy w30 (some go11) := (by rw [hw]; exact HP29.2); have hp_ : Kd.R (Kd.int .i64) 2 w30 w.heap.size (fun _ => True) (.slice (some ⟨go11, 0, none⟩) x7_1.length co7) y359 := (by rw [hw, Ny359.out]; exact HP29.1); clear HP29; have n0_ := Aside0.mk (hp_); have n1_ := Aside0.mk (blk_grown (g := gb353) (o := .cells #[.slice A0_0 l0_0.length c0_0] 67 (0, 0)) (by (with_reducible repeat (first | refine blk_drewN ?_ _ | refine blk_drew ?_ | refine blk_alloc ?_ _)); exact BK353.out) hg (Kd.R_ne HO_7.out BK353.out (by decide))); have n2_ := Aside0.mk ((by rw [hw]; exact below_set (HB.out) GB11.out : Below w.heap.size w w30)); clear HO_7; clear BK353; clear HB; have HO_7 := n0_; have BK353 := n1_; have HB := n2_; clear n0_ n1_ n2_; clear hg hw hp_; have p363 : 0 ≤ (x13_1 : Int) := of_decide_eq_true (by first | (with_reducible assumption) | assumption); have q363 : x13_1 < (y359.length : Int) := (by have h_ : (x13_1 : Int) < ((x7_1.length : Int) : Int) := of_decide_eq_true (by first | (with_reducible assumption) | assumption); first | (have e_ := (Kd.R_reads' HO_7.out).1; omega) | simpa only [Ny359.out, List.length_set] using h_); have ql363 : ((x13_1 : Int) < ((x7_1.length : Int) : Int)) = True := eq_true (of_decide_eq_true (by first | (with_reducible assumption) | assumption)); obtain ⟨ad363, e363, hx363_0⟩ := Kd.at_int (Kd.R_reads' HO_7.out).2.2 x13_1 p363 q363; obtain rfl : (⟨go11, 0, none⟩ : Addr) = ad363 := (by injection e363); (first | simp only [add_plain] at hx363_0 | simp only [add_at] at hx363_0 | simp only [Addr.add, Nat.zero_add] at hx363_0 | skip); replace p363 := eq_true p363; replace q363 := eq_true q363))
                (try simp only [← hl7_1])
                go_roundg k1
                case measure => have := HK1.out; omega
                case rel => exact ⟨(y359), (wrap64 (x13_1 + 1)), (by first | rfl | (simp; done) | (simp [*]; done)), H', ⟨by have := HK1.out; omega⟩, ⟨by (try simp only [hl7_1]); (with_reducible repeat (first | apply Kd.R_alloc | apply Kd.R_drewN | apply Kd.R_drew)); exact HO_7.out⟩, ⟨by (try simp only [hl7_1]); (with_reducible repeat (first | refine blk_drewN ?_ _ | refine blk_drew ?_ | refine blk_alloc ?_ _)); exact BK353.out⟩, ⟨by repeat (first | (with_reducible first | exact HB.out | apply below_alloc | apply pw_below_drewN | apply below_drew1 | refine below_set ?_ GE353.out) | exact HB.out)⟩⟩
          · rw [if_neg c10] at H
            exact absurd H (by simp)
        · rw [if_neg c9] at H
          exact absurd H (by simp)
      · rw [if_neg c8] at H
        have c8b0 : decide (x13_1 < (t354.length : Int)) = false := decide_eq_false c8
        (try rw [hl7_1] at c8b0)
        clear c8
        replace H := Option.bind_eq_some_iff.mp H
        obtain ⟨t357, A310, H⟩ := H
        replace H : (some t357) = some r := H
        have A31 := Aside0.mk A310
        clear A310
        obtain rfl := Option.some.inj H
        have hcz32_0 : wr.cell? ⟨gb353, 0, none⟩ = some (.slice A0_0 l0_0.length c0_0) := (blk_cell BK353.out 0).trans rfl
        have hfz32_0 := blk_frozen BK353.out 0
        go_wp2_with (first | ((with_reducible refine gate_callee (f := 96) rfl ?_); refine goesL_ (some 42) rfl rfl Try.func96 (by kernel_rfl) rfl #[.agg #[.slice A0_0 l0_0.length c0_0], .slice Ao7 x7_1.length co7, .int .i64 a2] rfl (by (try simp only [List.map_toArray, List.map_cons, List.map_nil]); first | done | rfl | (simp only [List.length_drop, List.length_take]; rfl)) ?_; (with_reducible refine (spec_l09Number.calls k1 _ _ l0_0 _ _ x7_1 a2 t357 _ ?side1 ?side2 ?side3 ?side4 A31.out).mono ?_); (case side1 => repeat (first | exact (Kd.C_below HR0_0.out HB.out) | (with_reducible refine Kd.C_alloc ?_ _) | (with_reducible refine Kd.C_drewN ?_ _) | (with_reducible refine Kd.C_drew ?_))); (case side2 => exact HC0_0.out); (case side3 => repeat (first | exact (Kd.R_reads' HO_7.out).2.2 | (with_reducible refine Kd.C_alloc ?_ _) | (with_reducible refine Kd.C_drewN ?_ _) | (with_reducible refine Kd.C_drew ?_))); (case side4 => exact (Kd.R_reads' HO_7.out).2.1); rintro e w33 ⟨rfl, hb⟩; refine ⟨_, rfl, ?_⟩; have n0_ := Aside0.mk (Kd.R_below (by (with_reducible repeat (first | apply Kd.R_alloc | apply Kd.R_drewN | apply Kd.R_drew)); exact HO_7.out) hb); have n1_ := Aside0.mk (blk_below (g := gb353) (o := .cells #[.slice A0_0 l0_0.length c0_0] 67 (0, 0)) (by (with_reducible repeat (first | refine blk_drewN ?_ _ | refine blk_drew ?_ | refine blk_alloc ?_ _)); exact BK353.out) hb); have n2_ := Aside0.mk (below_step (by repeat (first | (with_reducible first | exact HB.out | apply below_alloc | apply pw_below_drewN | apply below_drew1 | refine below_set ?_ GE353.out) | exact HB.out)) hb); clear HO_7; clear BK353; clear HB; have HO_7 := n0_; have BK353 := n1_; have HB := n2_; clear n0_ n1_ n2_; (try clear hb); (try clear hb2); (try clear hk); (try clear hi)))
        go_ret
        exact ⟨by first | rfl | (simp [errW_none, errW_some] <;> rfl) | (simp [*, errW_none, errW_some] <;> rfl), by repeat (first | (with_reducible first | exact HB.out | apply below_alloc | apply pw_below_drewN | apply below_drew1 | refine below_set ?_ GE353.out) | exact HB.out)⟩

end Go.Proofs.Ytoakdilhljnjfaa.Q
/- Plain laws of watchers' states: the moves, in the program's functions and in the reference's. -/
namespace Go.Proofs.Ytoakdilhljnjfaa.Pure
open Go.RowKit Go.Proofs.Ytoakdilhljnjfaa.Q Go.Proofs.YtoakdilhljnjfaaW.PrintWords Go.Proofs.YtoakdilhljnjfaaW.PrintLast Go.Proofs.YtoakdilhljnjfaaW.PrintMore
set_option linter.unusedVariables false
set_option linter.unusedSimpArgs false

/-- What watchers are looked at for: places, gaps of so many places, not too many states. -/
structure WOk (P : Int) (gaps : List Int) : Prop where
  hp : P = (gaps.length : Int)
  h1 : 1 ≤ gaps.length
  h6 : gaps.length ≤ 6
  hg : OkG gaps
  hm : prodG gaps * P ≤ 20000

def nearB (P R i j : Int) : Bool := (impl_Ground_isNear.f P R i j).getD false
theorem near_impl (P R i j : Int) (hi : 0 ≤ i ∧ i < 6) (hj : 0 ≤ j ∧ j < 6) : impl_Ground_isNear.f P R i j = some (nearB P R i j) := by
  obtain ⟨b, h1, _⟩ := near_same P R i j hi hj
  simp [nearB, h1]
theorem near_spec (P R i j : Int) (hi : 0 ≤ i ∧ i < 6) (hj : 0 ≤ j ∧ j < 6) : spec_l09Near.f P R i j = some (nearB P R i j) := by
  obtain ⟨b, h1, h2⟩ := near_same P R i j hi hj
  simp [nearB, h1, h2]

def movAt (P R : Int) (gaps : List Int) (place : Int) (st : List Int) (j : Int) : Option Int :=
  match stepFrom j 0 gaps st with
  | some r => if nearB P R place j = true then some (numFrom 0 gaps r * P + j) else none
  | none => none
def movesFrom (P R : Int) (gaps : List Int) (place : Int) (st : List Int) : Nat → Nat → List Int
  | 0, _ => []
  | d + 1, j => (movAt P R gaps place st (j : Int)).toList ++ movesFrom P R gaps place st d (j + 1)

theorem num_bound {P : Int} {gaps r : List Int} (h : WOk P gaps) (hr : OkS gaps r) {j : Int} (hj : 0 ≤ j ∧ j < P) : 0 ≤ numFrom 0 gaps r * P ∧ numFrom 0 gaps r * P ≤ 20000 ∧ 0 ≤ numFrom 0 gaps r * P + j ∧ numFrom 0 gaps r * P + j < prodG gaps * P := by
  obtain ⟨h0, h1⟩ := numFrom_bound hr (n := 0) (B := 1) ⟨by omega, by omega⟩
  rw [Int.one_mul] at h1
  have h2 : 0 ≤ numFrom 0 gaps r * P := Int.mul_nonneg h0 (by omega)
  have h3 : (numFrom 0 gaps r + 1) * P ≤ prodG gaps * P := Int.mul_le_mul_of_nonneg_right (by omega) (by omega)
  rw [Int.add_mul] at h3
  have := h.hm
  omega
theorem movAt_bound {P R : Int} {gaps st : List Int} {place : Int} (h : WOk P gaps) (hs : OkS gaps st) {j m : Int} (hj : 0 ≤ j ∧ j < P) (hm : movAt P R gaps place st j = some m) : 0 ≤ m ∧ m < prodG gaps * P := by
  unfold movAt at hm
  cases hst : stepFrom j 0 gaps st with
  | none => rw [hst] at hm; cases hm
  | some r =>
    rw [hst] at hm
    simp only at hm
    split at hm
    · obtain rfl := Option.some.inj hm
      exact (num_bound h (stepFrom_ok h.hg hs hst) hj).2.2
    · cases hm
theorem movesFrom_bound {P R : Int} {gaps st : List Int} {place : Int} (h : WOk P gaps) (hs : OkS gaps st) : ∀ (d j : Nat), ((j + d : Nat) : Int) = P → ∀ m ∈ movesFrom P R gaps place st d j, 0 ≤ m ∧ m < prodG gaps * P := by
  intro d
  induction d with
  | zero => intro j _ m hm; cases hm
  | succ d ih =>
    intro j hj m hm
    rw [movesFrom] at hm
    rcases List.mem_append.1 hm with hm | hm
    · exact movAt_bound h hs (j := (j : Int)) (by omega) (by simpa using hm)
    · exact ih (j + 1) (by omega) m hm

theorem moves_l {P R : Int} {gaps st : List Int} {place : Int} (h : WOk P gaps) (hs : OkS gaps st) (hpl : 0 ≤ place ∧ place < P) : ∀ (d j : Nat) (out : List Int), ((j + d : Nat) : Int) = P → out.length ≤ j → Ev (fun k => impl_watch_moves.l k P R gaps place st (j : Int) out) (out ++ movesFrom P R gaps place st d j) := by
  have hP := h.hp
  have h6 := h.h6
  intro d
  induction d with
  | zero =>
    intro j out hj ho
    refine Ev.step (fun k => by rw [impl_watch_moves.l]) (Ev.neg (by omega) ?_)
    simpa [movesFrom] using Ev.now out
  | succ d ih =>
    intro j out hj ho
    have hw : wrap64 ((j : Int) + 1) = ((j + 1 : Nat) : Int) := by rw [wrap64_id (by omega) (by omega)]; omega
    have hsp := step_ev gaps st h.hg (by omega) hs (j : Int)
    have hjp : (j : Int) < P := by omega
    refine Ev.step (fun k => by rw [impl_watch_moves.l]) (Ev.pos hjp (Ev.bind hsp ?_))
    rw [movesFrom]
    unfold movAt
    cases hst : stepFrom (j : Int) 0 gaps st with
    | none =>
      rw [stepRes]
      refine Ev.neg (by decide) ?_
      rw [hw]
      simpa using ih (j + 1) out (by omega) (by omega)
    | some r =>
      rw [stepRes, List.nil_append]
      refine Ev.pos rfl (Ev.bindc (near_impl P R place j (by omega) (by omega)) ?_)
      have hr := stepFrom_ok h.hg hs hst
      obtain ⟨b1, b2, b3, b4⟩ := num_bound h hr (j := (j : Int)) (by omega)
      cases hn : nearB P R place (j : Int) with
      | false =>
        refine Ev.neg (by decide) ?_
        rw [hw]
        simpa using ih (j + 1) out (by omega) (by omega)
      | true =>
        refine Ev.pos rfl (Ev.bind (number_ev gaps r h.hg (by omega) hr) (Ev.pos (by omega) ?_))
        rw [hw, wrap64_id (x := numFrom 0 gaps r * P) (by omega) (by omega), wrap64_id (x := numFrom 0 gaps r * P + j) (by omega) (by omega)]
        have := ih (j + 1) (out ++ [numFrom 0 gaps r * P + j]) (by omega) (by simp; omega)
        simpa using this

theorem mvRow_ev (safe : List Bool) : ∀ (l : List Int), (∀ m ∈ l, 0 ≤ m ∧ m < (safe.length : Int)) → ∃ r, mvRow safe l = some r ∧ (r < 0 ↔ l.any (fun m => rdOf false safe m) = false)
  | [], _ => ⟨-1, rfl, by simp⟩
  | y :: l, h => by
    rw [mvRow, if_pos (h y (by simp))]
    cases hy : rdOf false safe y with
    | true => exact ⟨y, by simp, by have := (h y (by simp)).1; simp [hy]; omega⟩
    | false =>
      obtain ⟨r, h1, h2⟩ := mvRow_ev safe l (fun m hm => h m (by simp [hm]))
      exact ⟨r, by simpa using h1, by simpa [hy] using h2⟩

/-- The reference's states are the program's, beside the place. -/
theorem state_num : ∀ (k : Nat) (a n : Int) (o : List Int) (i : Int) (gaps : List Int), spec_l09State.l0 k a n o i gaps = (impl_Tasks_numbered.l0 k n o i gaps).map (fun l => (l, a))
  | 0, _, _, _, _, _ => rfl
  | k + 1, a, n, o, i, gaps => by
    rw [spec_l09State.l0, impl_Tasks_numbered.l0]
    split
    · split
      · split
        · rfl
        · split
          · exact state_num k _ _ _ _ _
          · rfl
      · rfl
    · rfl
theorem state_ev {gaps st : List Int} (h0 : 1 ≤ gaps.length) (h6 : gaps.length ≤ 6) (n : Int) (hn : 0 ≤ n) (hn' : n ≤ 9223372036854775807) (h : Ev (fun k => impl_Tasks_numbered.f k gaps (Int.tdiv n gaps.length)) st) : Ev (fun k => spec_l09State.f k gaps n) (st, Int.tmod n gaps.length) := by
  unfold spec_l09State.f
  have t1 : 0 ≤ Int.tdiv n gaps.length := Int.tdiv_nonneg hn (by omega)
  have t2 : Int.tdiv n gaps.length ≤ n := by rw [Int.tdiv_eq_ediv_of_nonneg hn]; exact Int.ediv_le_self _ hn
  refine Ev.bindc (a := (gaps.length : Int)) rfl (Ev.neg (by omega) (Ev.bindc (a := (gaps.length : Int)) rfl (Ev.neg (by omega) (Ev.bindc (a := (gaps.length : Int)) rfl (Ev.pos (by omega) (Ev.pos (by simp; omega) (Ev.bindc (a := (gaps.length : Int)) rfl ?_)))))))
  rw [wrap64_id (x := Int.tdiv n gaps.length) (by omega) (by omega)]
  obtain ⟨K, hK⟩ := h
  refine ⟨K, fun k hk => ?_⟩
  have h1 : impl_Tasks_numbered.f k gaps (Int.tdiv n gaps.length) = some st := hK k hk
  unfold impl_Tasks_numbered.f at h1
  have hmany : impl_Tasks_many.f gaps = some (gaps.length : Int) := rfl
  rw [hmany, Option.bind_some, if_pos (by omega), if_pos (by simp; omega), Option.bind_some] at h1
  show spec_l09State.l0 k _ _ _ _ _ = _
  rw [state_num, h1]
  rfl
end Go.Proofs.Ytoakdilhljnjfaa.Pure
-- written by wip/tools/printx.py (this session's) out of the translation; Lean checks it
namespace Go.Proofs.Ytoakdilhljnjfaa.Q
open Go.RowKit Go.Proofs.YtoakdilhljnjfaaW.PrintWords Go.Proofs.YtoakdilhljnjfaaW.PrintLast Go.Proofs.YtoakdilhljnjfaaW.PrintMore
attribute [local go_sem] max2_int min2_int max_two min_two max_three min_three max_four min_four   -- for this text's walks alone
set_option linter.unusedVariables false
set_option linter.unusedSimpArgs false

/-! ### spec_l09Size: function 59 -/
def spec_l09Size.l0 : Nat → Int → Int → Int → List Int → Option (Int)
  | 0, _, _, _, _ => none
  | k + 1, x5, x11, x12, x321000 => if x12 < x11 then (if 0 ≤ x12 then (if x12 < (x321000.length : Int) then (spec_l09Size.l0 k (wrap64 (x5 * (rd x321000 x12))) x11 (wrap64 (x12 + 1)) x321000) else (none)) else (none)) else (some x5)
def spec_l09Size.f (k : Nat) (a0_0 : Int) (a0_1 : Int) (l1_0 : List Int) : Option (Int) := spec_l09Size.l0 k a0_0 (l1_0.length : Int) 0 l1_0
theorem spec_l09Size.mono_l : ∀ k, (∀ y0 y1 y2 y3, LeO (spec_l09Size.l0 k y0 y1 y2 y3) (spec_l09Size.l0 (k + 1) y0 y1 y2 y3))
  | 0 => fun _ _ _ _ r h => by simp [spec_l09Size.l0] at h
  | k + 1 => by
    have ih0 := spec_l09Size.mono_l k
    · intro y0 y1 y2 y3
      unfold spec_l09Size.l0
      repeat' first
      | (with_reducible exact ih0 _ _ _ _)
      | (with_reducible exact LeO.refl _)
      | (with_reducible exact LeO.none _)
      | (with_reducible refine LeO.ite ?_ ?_)
      | (with_reducible refine LeO.bind ?_ (fun _ => ?_))
      | exact ih0 _ _ _ _
      | exact LeO.none _
      | refine LeO.ite ?_ ?_
      | refine LeO.bind ?_ (fun _ => ?_)
theorem spec_l09Size.mono : ∀ a0 a1 a2 k, LeO (spec_l09Size.f k a0 a1 a2) (spec_l09Size.f (k + 1) a0 a1 a2) := by
  intro a0 a1 a2 k
  have ih0 := spec_l09Size.mono_l k
  unfold spec_l09Size.f
  repeat' first
      | (with_reducible exact ih0 _ _ _ _)
      | (with_reducible exact LeO.refl _)
      | (with_reducible exact LeO.none _)
      | (with_reducible refine LeO.ite ?_ ?_)
      | (with_reducible refine LeO.bind ?_ (fun _ => ?_))
      | exact ih0 _ _ _ _
      | exact LeO.none _
      | refine LeO.ite ?_ ?_
      | refine LeO.bind ?_ (fun _ => ?_)
set_option maxHeartbeats 8000000 in
set_option maxRecDepth 100000 in
theorem spec_l09Size.calls (k : Nat) (a0_0 : Int) (a0_1 : Int) (A1_0 : Option Addr) (c1_0 : Nat) (l1_0 : List Int) (r : Int) (w : World) (hr1_0 : Kd.C (Kd.int .i64) w A1_0 l1_0.length l1_0) (hc1_0 : l1_0.length ≤ c1_0) (h : spec_l09Size.f k a0_0 a0_1 l1_0 = some r) :
    Calls Try.prog 59 #[.agg #[.int .i64 a0_0, .int .i64 a0_1], .agg #[.slice A1_0 l1_0.length c1_0]] w fun e w' => e = .returned (.int .i64 r) ∧ Below w.heap.size w w' := by
  have hu42 := Try.underlying42
  have hu67 := Try.underlying67
  have HR1_0 := Aside0.mk hr1_0
  have HC1_0 := Aside0.mk hc1_0
  clear hr1_0 hc1_0
  have HB := Aside0.mk (Below.refl w.heap.size w)
  have H : (spec_l09Size.l0 k a0_0 (l1_0.length : Int) 0 l1_0) = some r := h
  clear h
  have H' := Aside0.mk H
  clear H
  go_enter Try.func59, Try.ntmps59
  go_wp2_with (first | ((with_reducible refine gate_dst (N := 2) rfl ?_); refine box_event ?hg (N := 2) ?hd (cs := #[.int .i64 a0_0, .int .i64 a0_1]) (t := 42) ?hr ?_; (case hd => rfl); (case hg => rfl); (case hr => first | (go_simp; done) | (go_simp; rfl)); intro gb319 hg w3 hbox hb; have n0_ := Aside0.mk (below_step (by repeat (first | (with_reducible first | exact HB.out | apply below_alloc | apply pw_below_drewN | apply below_drew1) | exact HB.out)) hb); have n1_ := Aside0.mk (hbox); have n2_ := Aside0.mk ((by rw [hg]; exact (below_size (by repeat (first | (with_reducible first | exact HB.out | apply below_alloc | apply pw_below_drewN | apply below_drew1) | exact HB.out))) : w.heap.size ≤ gb319)); have n3_ := Aside0.mk ((by rw [hg]; exact (below_size (by repeat (first | (with_reducible first | exact HB.out | apply below_alloc | apply pw_below_drewN | apply below_drew1) | exact HB.out))) : w.heap.size ≤ gb319)); clear HB; have HB := n0_; have BK319 := n1_; have GW319 := n2_; have GE319 := n3_; clear n0_ n1_ n2_ n3_; clear hb hbox hg) | ((with_reducible refine gate_dst (N := 3) rfl ?_); refine box_event ?hg (N := 3) ?hd (cs := #[.slice A1_0 l1_0.length c1_0]) (t := 67) ?hr ?_; (case hd => rfl); (case hg => rfl); (case hr => first | (go_simp; done) | (go_simp; rfl)); intro gb320 hg w4 hbox hb; have n0_ := Aside0.mk (blk_below (g := gb319) (o := .cells #[.int .i64 a0_0, .int .i64 a0_1] 42 (0, 0)) (by (with_reducible repeat (first | refine blk_drewN ?_ _ | refine blk_drew ?_ | refine blk_alloc ?_ _)); exact BK319.out) hb); have n1_ := Aside0.mk (below_step (by repeat (first | (with_reducible first | exact HB.out | apply below_alloc | apply pw_below_drewN | apply below_drew1 | refine below_set ?_ GE319.out) | exact HB.out)) hb); have n2_ := Aside0.mk (hbox); have n3_ := Aside0.mk ((by rw [hg]; exact (below_size (by repeat (first | (with_reducible first | exact HB.out | apply below_alloc | apply pw_below_drewN | apply below_drew1 | refine below_set ?_ GE319.out) | exact HB.out))) : w.heap.size ≤ gb320)); have n4_ := Aside0.mk ((by rw [hg]; exact (below_size (by repeat (first | (with_reducible first | exact HB.out | apply below_alloc | apply pw_below_drewN | apply below_drew1 | refine below_set ?_ GE319.out) | exact HB.out))) : w.heap.size ≤ gb320)); have n5_ := Aside0.mk ((by rw [hg]; exact Nat.ne_of_lt (blk_lt (g := gb319) (o := .cells #[.int .i64 a0_0, .int .i64 a0_1] 42 (0, 0)) (by (with_reducible repeat (first | refine blk_drewN ?_ _ | refine blk_drew ?_ | refine blk_alloc ?_ _)); exact BK319.out)) : gb319 ≠ gb320)); have n6_ := Aside0.mk ((by rw [hg]; exact Nat.ne_of_gt (blk_lt (g := gb319) (o := .cells #[.int .i64 a0_0, .int .i64 a0_1] 42 (0, 0)) (by (with_reducible repeat (first | refine blk_drewN ?_ _ | refine blk_drew ?_ | refine blk_alloc ?_ _)); exact BK319.out)) : gb320 ≠ gb319)); clear BK319; clear HB; have BK319 := n0_; have HB := n1_; have BK320 := n2_; have GW320 := n3_; have GE320 := n4_; have NB319_320 := n5_; have NB320_319 := n6_; clear n0_ n1_ n2_ n3_ n4_ n5_ n6_; clear hb hbox hg; have hnb5 := NB319_320.out; have hnc5 := NB320_319.out; have hcz6_0 : w4.cell? ⟨gb319, 0, none⟩ = some (.int .i64 a0_0) := (blk_cell BK319.out 0).trans rfl; have hcz6_1 : w4.cell? ⟨gb319, 1, none⟩ = some (.int .i64 a0_1) := (blk_cell BK319.out 1).trans rfl; have hfz6_0 := blk_frozen BK319.out 0; have hfz6_1 := blk_frozen BK319.out 1; have hcz7_0 : w4.cell? ⟨gb320, 0, none⟩ = some (.slice A1_0 l1_0.length c1_0) := (blk_cell BK320.out 0).trans rfl; have hfz7_0 := blk_frozen BK320.out 0))
  go_loopg [5, 12] k (fun kq v5 v12 w' => ∃ (x5_1 : Int) (x12_1 : Int), v5 = .int .i64 x5_1 ∧ v12 = .int .i64 x12_1 ∧ Aside0 (spec_l09Size.l0 kq x5_1 (l1_0.length : Int) x12_1 l1_0 = some r) ∧ Aside0 (kq ≤ k) ∧ Aside0 (w'.heap[gb319]? = some (.cells #[.int .i64 a0_0, .int .i64 a0_1] 42 (0, 0))) ∧ Aside0 (w'.heap[gb320]? = some (.cells #[(.slice A1_0 l1_0.length c1_0)] 67 (0, 0))) ∧ Aside0 (Below w.heap.size w w'))
  case atStart => exact ⟨(a0_0), (0), (by first | rfl | (simp; done) | (simp [*]; done)), (by first | rfl | (simp; done) | (simp [*]; done)), H', ⟨Nat.le_refl _⟩, ⟨by (with_reducible repeat (first | refine blk_drewN ?_ _ | refine blk_drew ?_ | refine blk_alloc ?_ _)); exact BK319.out⟩, ⟨by (with_reducible repeat (first | refine blk_drewN ?_ _ | refine blk_drew ?_ | refine blk_alloc ?_ _)); exact BK320.out⟩, ⟨by repeat (first | (with_reducible first | exact HB.out | apply below_alloc | apply pw_below_drewN | apply below_drew1 | refine below_set ?_ GE319.out | refine below_set ?_ GE320.out) | exact HB.out)⟩⟩
  case round =>
    clear H'
    try clear c1
    try clear p2
    try clear c5
    try clear hcz6_0
    try clear hcz6_1
    try clear hcz7_0
    try clear hfz6_0
    try clear hfz6_1
    try clear hfz7_0
    obtain ⟨x5_1, x12_1, rfl, rfl, HA, HK1, BK319, BK320, HB⟩ := hrel
    cases gk with
    | zero => exact absurd HA.out (by simp [spec_l09Size.l0])
    | succ k1 =>
      have H := HA.out
      clear HA
      simp only [spec_l09Size.l0] at H
      by_cases c8 : x12_1 < (l1_0.length : Int)
      · rw [if_pos c8] at H
        have c8b0 : decide (x12_1 < (l1_0.length : Int)) = true := decide_eq_true c8
        clear c8
        by_cases c9 : 0 ≤ x12_1
        · rw [if_pos c9] at H
          have c9b0 : decide (0 ≤ x12_1) = true := decide_eq_true c9
          clear c9
          by_cases c10 : x12_1 < (l1_0.length : Int)
          · rw [if_pos c10] at H
            have c10b0 : decide (x12_1 < (l1_0.length : Int)) = true := decide_eq_true c10
            clear c10
            have H' := Aside0.mk H
            clear H
            have hnb11 := NB320_319.out
            have hnc11 := NB319_320.out
            have hcz12_0 : wr.cell? ⟨gb320, 0, none⟩ = some (.slice A1_0 l1_0.length c1_0) := (blk_cell BK320.out 0).trans rfl
            have hfz12_0 := blk_frozen BK320.out 0
            have p321 : 0 ≤ (x12_1 : Int) := of_decide_eq_true (by first | (with_reducible assumption) | assumption)
            have q321 : x12_1 < (l1_0.length : Int) := of_decide_eq_true (by first | (with_reducible assumption) | assumption)
            obtain ⟨ad321, e321, hx321_0⟩ := Kd.at_int HR1_0.out x12_1 p321 q321
            cases e321
            replace hx321_0 := (HB.out.cell (World.block_lt_of_cell? w _ hx321_0)).trans hx321_0
            replace p321 := eq_true p321
            replace q321 := eq_true q321
            go_wp2
            go_roundg k1
            case measure => have := HK1.out; omega
            case rel => exact ⟨(wrap64 (x5_1 * (rd l1_0 x12_1))), (wrap64 (x12_1 + 1)), (by first | rfl | (simp; done) | (simp [*]; done)), (by first | rfl | (simp; done) | (simp [*]; done)), H', ⟨by have := HK1.out; omega⟩, ⟨by (with_reducible repeat (first | refine blk_drewN ?_ _ | refine blk_drew ?_ | refine blk_alloc ?_ _)); exact BK319.out⟩, ⟨by (with_reducible repeat (first | refine blk_drewN ?_ _ | refine blk_drew ?_ | refine blk_alloc ?_ _)); exact BK320.out⟩, ⟨by repeat (first | (with_reducible first | exact HB.out | apply below_alloc | apply pw_below_drewN | apply below_drew1 | refine below_set ?_ GE319.out | refine below_set ?_ GE320.out) | exact HB.out)⟩⟩
          · rw [if_neg c10] at H
            exact absurd H (by simp)
        · rw [if_neg c9] at H
          exact absurd H (by simp)
      · rw [if_neg c8] at H
        have c8b0 : decide (x12_1 < (l1_0.length : Int)) = false := decide_eq_false c8
        clear c8
        obtain rfl := Option.some.inj H
        go_wp2
        go_ret
        exact ⟨by first | rfl | (simp [errW_none, errW_some] <;> rfl) | (simp [*, errW_none, errW_some] <;> rfl), by repeat (first | (with_reducible first | exact HB.out | apply below_alloc | apply pw_below_drewN | apply below_drew1 | refine below_set ?_ GE319.out | refine below_set ?_ GE320.out) | exact HB.out)⟩

end Go.Proofs.Ytoakdilhljnjfaa.Q
-- written by wip/tools/printx.py (this session's) out of the translation; Lean checks it
namespace Go.Proofs.Ytoakdilhljnjfaa.Q
open Go.RowKit Go.Proofs.YtoakdilhljnjfaaW.PrintWords Go.Proofs.YtoakdilhljnjfaaW.PrintLast Go.Proofs.YtoakdilhljnjfaaW.PrintMore
attribute [local go_sem] max2_int min2_int max_two min_two max_three min_three max_four min_four   -- for this text's walks alone
set_option linter.unusedVariables false
set_option linter.unusedSimpArgs false

/-! ### spec_l09Safe: function 62 -/
mutual
def spec_l09Safe.l0 : Nat → List Bool → Int → Int → Int → Int → List Int → Option (List Bool)
  | 0, _, _, _, _, _, _ => none
  | k + 1, x5, x21, x22, x365000, x365001, x366000 => if x22 < x21 then ((spec_l09State.f k x366000 x22).bind fun bt370 => (if 0 ≤ bt370.2 then (if bt370.2 < (bt370.1.length : Int) then (if bt370.2 < (x366000.length : Int) then (if 0 ≤ x22 then (if x22 < (x5.length : Int) then (spec_l09Safe.l0 k (x5.set (x22 : Int).toNat ((rd bt370.1 bt370.2) == (rd x366000 bt370.2))) x21 (wrap64 (x22 + 1)) x365000 x365001 x366000) else (none)) else (none)) else (none)) else (none)) else (none))) else (spec_l09Safe.l1 k x5 true x365000 x365001 x366000)
def spec_l09Safe.l1 : Nat → List Bool → Bool → Int → Int → List Int → Option (List Bool)
  | 0, _, _, _, _, _ => none
  | k + 1, x5, x9, x365000, x365001, x366000 => if x9 = true then (spec_l09Safe.l2 k x5 false (x5.length : Int) 0 x365000 x365001 x366000) else (some x5)
def spec_l09Safe.l2 : Nat → List Bool → Bool → Int → Int → Int → Int → List Int → Option (List Bool)
  | 0, _, _, _, _, _, _, _ => none
  | k + 1, x5, x9, x47, x48, x365000, x365001, x366000 => if x48 < x47 then (if 0 ≤ x48 then (if x48 < (x5.length : Int) then (if rdOf false x5 x48 = true then ((spec_l09State.f k x366000 x48).bind fun bt378 => (spec_l09Safe.l3 k x5 x9 x48 bt378.1 bt378.2 false 0 x47 x48 x365000 x365001 x366000)) else (spec_l09Safe.l2 k x5 x9 x47 (wrap64 (x48 + 1)) x365000 x365001 x366000)) else (none)) else (none)) else (spec_l09Safe.l1 k x5 x9 x365000 x365001 x366000)
def spec_l09Safe.l3 : Nat → List Bool → Bool → Int → List Int → Int → Bool → Int → Int → Int → Int → Int → List Int → Option (List Bool)
  | 0, _, _, _, _, _, _, _, _, _, _, _, _ => none
  | k + 1, x5, x9, x10, x11, x12, x13, x14, x47, x48, x365000, x365001, x366000 => if x14 < x365000 then (spec_l09Safe.j4 k x5 x9 x10 x11 x12 x13 x14 x47 x48 (!x13) x365000 x365001 x366000) else (spec_l09Safe.j4 k x5 x9 x10 x11 x12 x13 x14 x47 x48 false x365000 x365001 x366000)
def spec_l09Safe.j4 : Nat → List Bool → Bool → Int → List Int → Int → Bool → Int → Int → Int → Bool → Int → Int → List Int → Option (List Bool)
  | 0, _, _, _, _, _, _, _, _, _, _, _, _, _ => none
  | k + 1, x5, x9, x10, x11, x12, x13, x14, x47, x48, x69, x365000, x365001, x366000 => if x69 = true then ((spec_l09Near.f x365000 x365001 x12 x14).bind fun t383 => (if t383 = true then ((spec_l09Move.f k x366000 x11 x14).bind fun t384 => (if t384 ≥ 0 then (if 0 ≤ t384 then (if t384 < (x5.length : Int) then (spec_l09Safe.l3 k x5 x9 x10 x11 x12 (rdOf false x5 t384) (wrap64 (x14 + 1)) x47 x48 x365000 x365001 x366000) else (none)) else (none)) else (spec_l09Safe.l3 k x5 x9 x10 x11 x12 false (wrap64 (x14 + 1)) x47 x48 x365000 x365001 x366000))) else (spec_l09Safe.l3 k x5 x9 x10 x11 x12 x13 (wrap64 (x14 + 1)) x47 x48 x365000 x365001 x366000))) else (if x13 = true then (spec_l09Safe.l2 k x5 x9 x47 (wrap64 (x48 + 1)) x365000 x365001 x366000) else (if 0 ≤ x10 then (if x10 < (x5.length : Int) then (spec_l09Safe.l2 k (x5.set (x10 : Int).toNat false) true x47 (wrap64 (x48 + 1)) x365000 x365001 x366000) else (none)) else (none)))
end
def spec_l09Safe.f (k : Nat) (a0_0 : Int) (a0_1 : Int) (l1_0 : List Int) : Option (List Bool) := (spec_l09Size.f k a0_0 a0_1 l1_0).bind fun t366 => (if 0 ≤ t366 then (if (t366 : Int).toNat ≤ 281474976710656 then ((some (List.replicate (t366 : Int).toNat false : List Bool)).bind fun y367 => (spec_l09Safe.l0 k y367 (y367.length : Int) 0 a0_0 a0_1 l1_0)) else (none)) else (none))
theorem spec_l09Safe.mono_l : ∀ k, (∀ y0 y1 y2 y3 y4 y5, LeO (spec_l09Safe.l0 k y0 y1 y2 y3 y4 y5) (spec_l09Safe.l0 (k + 1) y0 y1 y2 y3 y4 y5)) ∧ (∀ y0 y1 y2 y3 y4, LeO (spec_l09Safe.l1 k y0 y1 y2 y3 y4) (spec_l09Safe.l1 (k + 1) y0 y1 y2 y3 y4)) ∧ (∀ y0 y1 y2 y3 y4 y5 y6, LeO (spec_l09Safe.l2 k y0 y1 y2 y3 y4 y5 y6) (spec_l09Safe.l2 (k + 1) y0 y1 y2 y3 y4 y5 y6)) ∧ (∀ y0 y1 y2 y3 y4 y5 y6 y7 y8 y9 y10 y11, LeO (spec_l09Safe.l3 k y0 y1 y2 y3 y4 y5 y6 y7 y8 y9 y10 y11) (spec_l09Safe.l3 (k + 1) y0 y1 y2 y3 y4 y5 y6 y7 y8 y9 y10 y11)) ∧ (∀ y0 y1 y2 y3 y4 y5 y6 y7 y8 y9 y10 y11 y12, LeO (spec_l09Safe.j4 k y0 y1 y2 y3 y4 y5 y6 y7 y8 y9 y10 y11 y12) (spec_l09Safe.j4 (k + 1) y0 y1 y2 y3 y4 y5 y6 y7 y8 y9 y10 y11 y12))
  | 0 => ⟨fun _ _ _ _ _ _ r h => by simp [spec_l09Safe.l0] at h, fun _ _ _ _ _ r h => by simp [spec_l09Safe.l1] at h, fun _ _ _ _ _ _ _ r h => by simp [spec_l09Safe.l2] at h, fun _ _ _ _ _ _ _ _ _ _ _ _ r h => by simp [spec_l09Safe.l3] at h, fun _ _ _ _ _ _ _ _ _ _ _ _ _ r h => by simp [spec_l09Safe.j4] at h⟩
  | k + 1 => by
    obtain ⟨ih0, ih1, ih2, ih3, ih4⟩ := spec_l09Safe.mono_l k
    refine ⟨?_, ?_, ?_, ?_, ?_⟩
    · intro y0 y1 y2 y3 y4 y5
      unfold spec_l09Safe.l0
      repeat' first
      | (with_reducible exact ih0 _ _ _ _ _ _)
      | (with_reducible exact ih1 _ _ _ _ _)
      | (with_reducible exact ih2 _ _ _ _ _ _ _)
      | (with_reducible exact ih3 _ _ _ _ _ _ _ _ _ _ _ _)
      | (with_reducible exact ih4 _ _ _ _ _ _ _ _ _ _ _ _ _)
      | (with_reducible exact spec_l09Move.mono _ _ _ _)
      | (with_reducible exact spec_l09Size.mono _ _ _ _)
      | (with_reducible exact spec_l09State.mono _ _ _)
      | (with_reducible exact LeO.refl _)
      | (with_reducible exact LeO.none _)
      | (with_reducible refine LeO.ite ?_ ?_)
      | (with_reducible refine LeO.bind ?_ (fun _ => ?_))
      | exact ih0 _ _ _ _ _ _
      | exact ih1 _ _ _ _ _
      | exact ih2 _ _ _ _ _ _ _
      | exact ih3 _ _ _ _ _ _ _ _ _ _ _ _
      | exact ih4 _ _ _ _ _ _ _ _ _ _ _ _ _
      | exact spec_l09Move.mono _ _ _ _
      | exact spec_l09Size.mono _ _ _ _
      | exact spec_l09State.mono _ _ _
      | exact LeO.none _
      | refine LeO.ite ?_ ?_
      | refine LeO.bind ?_ (fun _ => ?_)
    · intro y0 y1 y2 y3 y4
      unfold spec_l09Safe.l1
      repeat' first
      | (with_reducible exact ih0 _ _ _ _ _ _)
      | (with_reducible exact ih1 _ _ _ _ _)
      | (with_reducible exact ih2 _ _ _ _ _ _ _)
      | (with_reducible exact ih3 _ _ _ _ _ _ _ _ _ _ _ _)
      | (with_reducible exact ih4 _ _ _ _ _ _ _ _ _ _ _ _ _)
      | (with_reducible exact spec_l09Move.mono _ _ _ _)
      | (with_reducible exact spec_l09Size.mono _ _ _ _)
      | (with_reducible exact spec_l09State.mono _ _ _)
      | (with_reducible exact LeO.refl _)
      | (with_reducible exact LeO.none _)
      | (with_reducible refine LeO.ite ?_ ?_)
      | (with_reducible refine LeO.bind ?_ (fun _ => ?_))
      | exact ih0 _ _ _ _ _ _
      | exact ih1 _ _ _ _ _
      | exact ih2 _ _ _ _ _ _ _
      | exact ih3 _ _ _ _ _ _ _ _ _ _ _ _
      | exact ih4 _ _ _ _ _ _ _ _ _ _ _ _ _
      | exact spec_l09Move.mono _ _ _ _
      | exact spec_l09Size.mono _ _ _ _
      | exact spec_l09State.mono _ _ _
      | exact LeO.none _
      | refine LeO.ite ?_ ?_
      | refine LeO.bind ?_ (fun _ => ?_)
    · intro y0 y1 y2 y3 y4 y5 y6
      unfold spec_l09Safe.l2
      repeat' first
      | (with_reducible exact ih0 _ _ _ _ _ _)
      | (with_reducible exact ih1 _ _ _ _ _)
      | (with_reducible exact ih2 _ _ _ _ _ _ _)
      | (with_reducible exact ih3 _ _ _ _ _ _ _ _ _ _ _ _)
      | (with_reducible exact ih4 _ _ _ _ _ _ _ _ _ _ _ _ _)
      | (with_reducible exact spec_l09Move.mono _ _ _ _)
      | (with_reducible exact spec_l09Size.mono _ _ _ _)
      | (with_reducible exact spec_l09State.mono _ _ _)
      | (with_reducible exact LeO.refl _)
      | (with_reducible exact LeO.none _)
      | (with_reducible refine LeO.ite ?_ ?_)
      | (with_reducible refine LeO.bind ?_ (fun _ => ?_))
      | exact ih0 _ _ _ _ _ _
      | exact ih1 _ _ _ _ _
      | exact ih2 _ _ _ _ _ _ _
      | exact ih3 _ _ _ _ _ _ _ _ _ _ _ _
      | exact ih4 _ _ _ _ _ _ _ _ _ _ _ _ _
      | exact spec_l09Move.mono _ _ _ _
      | exact spec_l09Size.mono _ _ _ _
      | exact spec_l09State.mono _ _ _
      | exact LeO.none _
      | refine LeO.ite ?_ ?_
      | refine LeO.bind ?_ (fun _ => ?_)
    · intro y0 y1 y2 y3 y4 y5 y6 y7 y8 y9 y10 y11
      unfold spec_l09Safe.l3
      repeat' first
      | (with_reducible exact ih0 _ _ _ _ _ _)
      | (with_reducible exact ih1 _ _ _ _ _)
      | (with_reducible exact ih2 _ _ _ _ _ _ _)
      | (with_reducible exact ih3 _ _ _ _ _ _ _ _ _ _ _ _)
      | (with_reducible exact ih4 _ _ _ _ _ _ _ _ _ _ _ _ _)
      | (with_reducible exact spec_l09Move.mono _ _ _ _)
      | (with_reducible exact spec_l09Size.mono _ _ _ _)
      | (with_reducible exact spec_l09State.mono _ _ _)
      | (with_reducible exact LeO.refl _)
      | (with_reducible exact LeO.none _)
      | (with_reducible refine LeO.ite ?_ ?_)
      | (with_reducible refine LeO.bind ?_ (fun _ => ?_))
      | exact ih0 _ _ _ _ _ _
      | exact ih1 _ _ _ _ _
      | exact ih2 _ _ _ _ _ _ _
      | exact ih3 _ _ _ _ _ _ _ _ _ _ _ _
      | exact ih4 _ _ _ _ _ _ _ _ _ _ _ _ _
      | exact spec_l09Move.mono _ _ _ _
      | exact spec_l09Size.mono _ _ _ _
      | exact spec_l09State.mono _ _ _
      | exact LeO.none _
      | refine LeO.ite ?_ ?_
      | refine LeO.bind ?_ (fun _ => ?_)
    · intro y0 y1 y2 y3 y4 y5 y6 y7 y8 y9 y10 y11 y12
      unfold spec_l09Safe.j4
      repeat' first
      | (with_reducible exact ih0 _ _ _ _ _ _)
      | (with_reducible exact ih1 _ _ _ _ _)
      | (with_reducible exact ih2 _ _ _ _ _ _ _)
      | (with_reducible exact ih3 _ _ _ _ _ _ _ _ _ _ _ _)
      | (with_reducible exact ih4 _ _ _ _ _ _ _ _ _ _ _ _ _)
      | (with_reducible exact spec_l09Move.mono _ _ _ _)
      | (with_reducible exact spec_l09Size.mono _ _ _ _)
      | (with_reducible exact spec_l09State.mono _ _ _)
      | (with_reducible exact LeO.refl _)
      | (with_reducible exact LeO.none _)
      | (with_reducible refine LeO.ite ?_ ?_)
      | (with_reducible refine LeO.bind ?_ (fun _ => ?_))
      | exact ih0 _ _ _ _ _ _
      | exact ih1 _ _ _ _ _
      | exact ih2 _ _ _ _ _ _ _
      | exact ih3 _ _ _ _ _ _ _ _ _ _ _ _
      | exact ih4 _ _ _ _ _ _ _ _ _ _ _ _ _
      | exact spec_l09Move.mono _ _ _ _
      | exact spec_l09Size.mono _ _ _ _
      | exact spec_l09State.mono _ _ _
      | exact LeO.none _
      | refine LeO.ite ?_ ?_
      | refine LeO.bind ?_ (fun _ => ?_)
theorem spec_l09Safe.mono : ∀ a0 a1 a2 k, LeO (spec_l09Safe.f k a0 a1 a2) (spec_l09Safe.f (k + 1) a0 a1 a2) := by
  intro a0 a1 a2 k
  obtain ⟨ih0, ih1, ih2, ih3, ih4⟩ := spec_l09Safe.mono_l k
  unfold spec_l09Safe.f
  repeat' first
      | (with_reducible exact ih0 _ _ _ _ _ _)
      | (with_reducible exact ih1 _ _ _ _ _)
      | (with_reducible exact ih2 _ _ _ _ _ _ _)
      | (with_reducible exact ih3 _ _ _ _ _ _ _ _ _ _ _ _)
      | (with_reducible exact ih4 _ _ _ _ _ _ _ _ _ _ _ _ _)
      | (with_reducible exact spec_l09Move.mono _ _ _ _)
      | (with_reducible exact spec_l09Size.mono _ _ _ _)
      | (with_reducible exact spec_l09State.mono _ _ _)
      | (with_reducible exact LeO.refl _)
      | (with_reducible exact LeO.none _)
      | (with_reducible refine LeO.ite ?_ ?_)
      | (with_reducible refine LeO.bind ?_ (fun _ => ?_))
      | exact ih0 _ _ _ _ _ _
      | exact ih1 _ _ _ _ _
      | exact ih2 _ _ _ _ _ _ _
      | exact ih3 _ _ _ _ _ _ _ _ _ _ _ _
      | exact ih4 _ _ _ _ _ _ _ _ _ _ _ _ _
      | exact spec_l09Move.mono _ _ _ _
      | exact spec_l09Size.mono _ _ _ _
      | exact spec_l09State.mono _ _ _
      | exact LeO.none _
      | refine LeO.ite ?_ ?_
      | refine LeO.bind ?_ (fun _ => ?_)
def spec_l09Safe.T6 : Bool × List (List Nat × List Nat) := (true, [([], []), ([], []), ([], []), ([], []), ([2, 3], [2, 3]), ([4], [4]), ([], []), ([6], [6]), ([], []), ([7, 8], [7, 8]), ([9], [9]), ([5, 10], [5, 10]), ([0, 1, 0, 1, 2, 3, 4, 5, 6, 7, 8, 9, 10, 11], [0, 1]), ([12, 11, 0, 1, 2, 3, 4, 5, 6, 7, 8, 9, 10, 11], [11, 12])])
def spec_l09Safe.B6 : List Nat := [0, 0, 0, 0, 12, 28, 0, 64, 0, 448, 960, 2044, 4095, 8191]
theorem spec_l09Safe.tab6 : rtab .any (opsOf Try.f62 6) = spec_l09Safe.T6 := by kernel_rfl
theorem spec_l09Safe.bits6 : waitsOk spec_l09Safe.T6.2 spec_l09Safe.B6 = true := by kernel_rfl
set_option maxHeartbeats 8000000 in
set_option maxRecDepth 100000 in
theorem spec_l09Safe.calls (k : Nat) (a0_0 : Int) (a0_1 : Int) (A1_0 : Option Addr) (c1_0 : Nat) (l1_0 : List Int) (r : List Bool) (w : World) (hr1_0 : Kd.C (Kd.int .i64) w A1_0 l1_0.length l1_0) (hc1_0 : l1_0.length ≤ c1_0) (h : spec_l09Safe.f k a0_0 a0_1 l1_0 = some r) :
    Calls Try.prog 62 #[.agg #[.int .i64 a0_0, .int .i64 a0_1], .agg #[.slice A1_0 l1_0.length c1_0]] w fun e w' => ∃ v0_ : Value, e = .returned (v0_) ∧ Kd.R Kd.bool 4 w' w.heap.size (fun _ => True) v0_ r ∧ Below w.heap.size w w' := by
  have hu42 := Try.underlying42
  have hu67 := Try.underlying67
  have HR1_0 := Aside0.mk hr1_0
  have HC1_0 := Aside0.mk hc1_0
  clear hr1_0 hc1_0
  have HB := Aside0.mk (Below.refl w.heap.size w)
  have H : ((spec_l09Size.f k a0_0 a0_1 l1_0).bind fun t366 => (if 0 ≤ t366 then (if (t366 : Int).toNat ≤ 281474976710656 then ((some (List.replicate (t366 : Int).toNat false : List Bool)).bind fun y367 => (spec_l09Safe.l0 k y367 (y367.length : Int) 0 a0_0 a0_1 l1_0)) else (none)) else (none))) = some r := h
  clear h
  replace H := Option.bind_eq_some_iff.mp H
  obtain ⟨t366, A30, H⟩ := H
  replace H : (if 0 ≤ t366 then (if (t366 : Int).toNat ≤ 281474976710656 then ((some (List.replicate (t366 : Int).toNat false : List Bool)).bind fun y367 => (spec_l09Safe.l0 k y367 (y367.length : Int) 0 a0_0 a0_1 l1_0)) else (none)) else (none)) = some r := H
  have A3 := Aside0.mk A30
  clear A30
  by_cases c4 : 0 ≤ t366
  · rw [if_pos c4] at H
    have c4b0 := eq_true c4
    have c4b1 : decide (0 ≤ t366) = true := decide_eq_true c4
    clear c4
    by_cases c5 : (t366 : Int).toNat ≤ 281474976710656
    · rw [if_pos c5] at H
      have c5b0 := eq_true c5
      have c5b1 : decide ((t366 : Int).toNat ≤ 281474976710656) = true := decide_eq_true c5
      clear c5
      obtain ⟨y367, hy367⟩ : ∃ y_ : List Bool, y_ = (List.replicate (t366 : Int).toNat false) := ⟨_, rfl⟩
      replace H : (spec_l09Safe.l0 k y367 (y367.length : Int) 0 a0_0 a0_1 l1_0) = some r := by first | (rw [hy367]; with_reducible exact H) | (have H2_ := (Option.bind_some _ _).symm.trans H; rw [hy367]; with_reducible exact H2_) | (have H2_ := (Option.bind_some _ _).symm.trans H; with_reducible exact H2_) | with_reducible exact H | (rw [hy367]; exact H) | exact H
      have Ny367 := Aside0.mk hy367
      clear hy367
      have H' := Aside0.mk H
      clear H
      go_enter Try.func62, Try.ntmps62
      go_wp2_with (first | ((with_reducible refine gate_dst (N := 2) rfl ?_); refine box_event ?hg (N := 2) ?hd (cs := #[.int .i64 a0_0, .int .i64 a0_1]) (t := 42) ?hr ?_; (case hd => rfl); (case hg => rfl); (case hr => first | (go_simp; done) | (go_simp; rfl)); intro gb364 hg w6 hbox hb; have n0_ := Aside0.mk (below_step (by repeat (first | (with_reducible first | exact HB.out | apply below_alloc | apply pw_below_drewN | apply below_drew1) | exact HB.out)) hb); have n1_ := Aside0.mk (hbox); have n2_ := Aside0.mk ((by rw [hg]; exact (below_size (by repeat (first | (with_reducible first | exact HB.out | apply below_alloc | apply pw_below_drewN | apply below_drew1) | exact HB.out))) : w.heap.size ≤ gb364)); have n3_ := Aside0.mk ((by rw [hg]; exact (below_size (by repeat (first | (with_reducible first | exact HB.out | apply below_alloc | apply pw_below_drewN | apply below_drew1) | exact HB.out))) : w.heap.size ≤ gb364)); clear HB; have HB := n0_; have BK364 := n1_; have GW364 := n2_; have GE364 := n3_; clear n0_ n1_ n2_ n3_; clear hb hbox hg) | ((with_reducible refine gate_dst (N := 3) rfl ?_); refine box_event ?hg (N := 3) ?hd (cs := #[.slice A1_0 l1_0.length c1_0]) (t := 67) ?hr ?_; (case hd => rfl); (case hg => rfl); (case hr => first | (go_simp; done) | (go_simp; rfl)); intro gb365 hg w7 hbox hb; have n0_ := Aside0.mk (blk_below (g := gb364) (o := .cells #[.int .i64 a0_0, .int .i64 a0_1] 42 (0, 0)) (by (with_reducible repeat (first | refine blk_drewN ?_ _ | refine blk_drew ?_ | refine blk_alloc ?_ _)); exact BK364.out) hb); have n1_ := Aside0.mk (below_step (by repeat (first | (with_reducible first | exact HB.out | apply below_alloc | apply pw_below_drewN | apply below_drew1 | refine below_set ?_ GE364.out) | exact HB.out)) hb); have n2_ := Aside0.mk (hbox); have n3_ := Aside0.mk ((by rw [hg]; exact (below_size (by repeat (first | (with_reducible first | exact HB.out | apply below_alloc | apply pw_below_drewN | apply below_drew1 | refine below_set ?_ GE364.out) | exact HB.out))) : w.heap.size ≤ gb365)); have n4_ := Aside0.mk ((by rw [hg]; exact (below_size (by repeat (first | (with_reducible first | exact HB.out | apply below_alloc | apply pw_below_drewN | apply below_drew1 | refine below_set ?_ GE364.out) | exact HB.out))) : w.heap.size ≤ gb365)); have n5_ := Aside0.mk ((by rw [hg]; exact Nat.ne_of_lt (blk_lt (g := gb364) (o := .cells #[.int .i64 a0_0, .int .i64 a0_1] 42 (0, 0)) (by (with_reducible repeat (first | refine blk_drewN ?_ _ | refine blk_drew ?_ | refine blk_alloc ?_ _)); exact BK364.out)) : gb364 ≠ gb365)); have n6_ := Aside0.mk ((by rw [hg]; exact Nat.ne_of_gt (blk_lt (g := gb364) (o := .cells #[.int .i64 a0_0, .int .i64 a0_1] 42 (0, 0)) (by (with_reducible repeat (first | refine blk_drewN ?_ _ | refine blk_drew ?_ | refine blk_alloc ?_ _)); exact BK364.out)) : gb365 ≠ gb364)); clear BK364; clear HB; have BK364 := n0_; have HB := n1_; have BK365 := n2_; have GW365 := n3_; have GE365 := n4_; have NB364_365 := n5_; have NB365_364 := n6_; clear n0_ n1_ n2_ n3_ n4_ n5_ n6_; clear hb hbox hg; have hnb8 := NB364_365.out; have hnc8 := NB365_364.out; have hcz9_0 : w7.cell? ⟨gb364, 0, none⟩ = some (.int .i64 a0_0) := (blk_cell BK364.out 0).trans rfl; have hcz9_1 : w7.cell? ⟨gb364, 1, none⟩ = some (.int .i64 a0_1) := (blk_cell BK364.out 1).trans rfl; have hfz9_0 := blk_frozen BK364.out 0; have hfz9_1 := blk_frozen BK364.out 1; have hcz10_0 : w7.cell? ⟨gb365, 0, none⟩ = some (.slice A1_0 l1_0.length c1_0) := (blk_cell BK365.out 0).trans rfl; have hfz10_0 := blk_frozen BK365.out 0) | ((with_reducible refine gate_callee (f := 59) rfl ?_); refine goesL_ (some 18) rfl rfl Try.func59 (by kernel_rfl) rfl #[.agg #[.int .i64 a0_0, .int .i64 a0_1], .agg #[.slice A1_0 l1_0.length c1_0]] rfl (by (try simp only [List.map_toArray, List.map_cons, List.map_nil]); first | done | rfl | (simp only [List.length_drop, List.length_take]; rfl)) ?_; (with_reducible refine (spec_l09Size.calls k a0_0 a0_1 _ _ l1_0 t366 _ ?side1 ?side2 A3.out).mono ?_); (case side1 => repeat (first | exact (Kd.C_below HR1_0.out HB.out) | (with_reducible refine Kd.C_alloc ?_ _) | (with_reducible refine Kd.C_drewN ?_ _) | (with_reducible refine Kd.C_drew ?_))); (case side2 => exact HC1_0.out); rintro e w11 ⟨rfl, hb⟩; refine ⟨_, rfl, ?_⟩; have n0_ := Aside0.mk (blk_below (g := gb364) (o := .cells #[.int .i64 a0_0, .int .i64 a0_1] 42 (0, 0)) (by (with_reducible repeat (first | refine blk_drewN ?_ _ | refine blk_drew ?_ | refine blk_alloc ?_ _)); exact BK364.out) hb); have n1_ := Aside0.mk (blk_below (g := gb365) (o := .cells #[.slice A1_0 l1_0.length c1_0] 67 (0, 0)) (by (with_reducible repeat (first | refine blk_drewN ?_ _ | refine blk_drew ?_ | refine blk_alloc ?_ _)); exact BK365.out) hb); have n2_ := Aside0.mk (below_step (by repeat (first | (with_reducible first | exact HB.out | apply below_alloc | apply pw_below_drewN | apply below_drew1 | refine below_set ?_ GE364.out | refine below_set ?_ GE365.out) | exact HB.out)) hb); clear BK364; clear BK365; clear HB; have BK364 := n0_; have BK365 := n1_; have HB := n2_; clear n0_ n1_ n2_; (try clear hb); (try clear hb2); (try clear hk); (try clear hi)) | ((with_reducible refine gate_dst (N := 19) rfl ?_); refine Kd.R_make Kd.bool _ 4 rfl (N := 19) rfl 73 _ _ rfl t366 rfl rfl Try.underlying73 (.bool false) 1 info4 rfl (by decide) (by omega) false (ok := fun _ => True) (okp := fun _ => True) rfl (fun _ hk => hk) trivial (of_decide_eq_true (by first | (with_reducible assumption) | assumption)) (Nat.le_trans (Nat.mul_le_mul_right _ (of_decide_eq_true (by first | (with_reducible assumption) | assumption) : t366.toNat ≤ 281474976710656)) (by omega)) (Below.refl _ _) (Nat.le_refl _) ?_; intro v368 w12 ho13 hb hg_ hnew_; clear hg_ hnew_; (first | rw [← Ny367.out] at ho13 | (simp only [Int.reduceToNat] at ho13; rw [← Ny367.out] at ho13)); have n0_ := Aside0.mk (Kd.R_lower ho13 (below_size (by repeat (first | (with_reducible first | exact HB.out | apply below_alloc | apply pw_below_drewN | apply below_drew1 | refine below_set ?_ GE364.out | refine below_set ?_ GE365.out) | exact HB.out)))); have n1_ := Aside0.mk (blk_below (g := gb364) (o := .cells #[.int .i64 a0_0, .int .i64 a0_1] 42 (0, 0)) (by (with_reducible repeat (first | refine blk_drewN ?_ _ | refine blk_drew ?_ | refine blk_alloc ?_ _)); exact BK364.out) hb); have n2_ := Aside0.mk (blk_below (g := gb365) (o := .cells #[.slice A1_0 l1_0.length c1_0] 67 (0, 0)) (by (with_reducible repeat (first | refine blk_drewN ?_ _ | refine blk_drew ?_ | refine blk_alloc ?_ _)); exact BK365.out) hb); have n3_ := Aside0.mk (below_step (by repeat (first | (with_reducible first | exact HB.out | apply below_alloc | apply pw_below_drewN | apply below_drew1 | refine below_set ?_ GE364.out | refine below_set ?_ GE365.out) | exact HB.out)) hb); clear BK364; clear BK365; clear HB; have HO369 := n0_; have BK364 := n1_; have BK365 := n2_; have HB := n3_; clear n0_ n1_ n2_ n3_; clear hb ho13; obtain ⟨Ao14, co14, eo14⟩ := Kd.R_slice HO369.out; subst eo14))
      go_loopg [22] k (fun kq v22 w' => ∃ (x5_1 : List Bool) (x22_1 : Int), v22 = .int .i64 x22_1 ∧ Aside0 (spec_l09Safe.l0 kq x5_1 (y367.length : Int) x22_1 a0_0 a0_1 l1_0 = some r) ∧ Aside0 (kq ≤ k) ∧ Aside0 (Kd.R Kd.bool 4 w' w.heap.size (fun _ => True) (.slice Ao14 y367.length co14) x5_1) ∧ Aside0 (w'.heap[gb364]? = some (.cells #[.int .i64 a0_0, .int .i64 a0_1] 42 (0, 0))) ∧ Aside0 (w'.heap[gb365]? = some (.cells #[(.slice A1_0 l1_0.length c1_0)] 67 (0, 0))) ∧ Aside0 (Below w.heap.size w w'))
      case atStart => exact ⟨(y367), (0), (by first | rfl | (simp; done) | (simp [*]; done)), H', ⟨Nat.le_refl _⟩, ⟨by (with_reducible repeat (first | apply Kd.R_alloc | apply Kd.R_drewN | apply Kd.R_drew)); exact HO369.out⟩, ⟨by (with_reducible repeat (first | refine blk_drewN ?_ _ | refine blk_drew ?_ | refine blk_alloc ?_ _)); exact BK364.out⟩, ⟨by (with_reducible repeat (first | refine blk_drewN ?_ _ | refine blk_drew ?_ | refine blk_alloc ?_ _)); exact BK365.out⟩, ⟨by repeat (first | (with_reducible first | exact HB.out | apply below_alloc | apply pw_below_drewN | apply below_drew1 | refine below_set ?_ GE364.out | refine below_set ?_ GE365.out) | exact HB.out)⟩⟩
      case round =>
        clear H'
        try clear c1
        try clear p2
        try clear c4
        try clear c4b0
        try clear c4b1
        try clear c5
        try clear c5b0
        try clear c5b1
        try clear c6
        try clear c8
        try clear hcz10_0
        try clear hcz9_0
        try clear hcz9_1
        try clear hfz10_0
        try clear hfz9_0
        try clear hfz9_1
        obtain ⟨x5_1, x22_1, rfl, HA, HK1, HO_5, BK364, BK365, HB⟩ := hrel
        have hl5_1 := (Kd.R_reads' HO_5.out).1
        rw [hl5_1] at HO_5
        (try simp only [hl5_1])
        (try simp only [hl5_1] at BK364)
        (try simp only [hl5_1] at BK365)
        cases gk with
        | zero => exact absurd HA.out (by simp [spec_l09Safe.l0])
        | succ k1 =>
          have H := HA.out
          clear HA
          simp only [spec_l09Safe.l0] at H
          by_cases c15 : x22_1 < (y367.length : Int)
          · rw [if_pos c15] at H
            have c15b0 : decide (x22_1 < (y367.length : Int)) = true := decide_eq_true c15
            (try rw [hl5_1] at c15b0)
            (try rw [hl5_2] at c15b0)
            (try rw [hl5_3] at c15b0)
            clear c15
            replace H := Option.bind_eq_some_iff.mp H
            obtain ⟨⟨t370, t373⟩, A160, H⟩ := H
            replace H : (if 0 ≤ t373 then (if t373 < (t370.length : Int) then (if t373 < (l1_0.length : Int) then (if 0 ≤ x22_1 then (if x22_1 < (x5_1.length : Int) then (spec_l09Safe.l0 k1 (x5_1.set (x22_1 : Int).toNat ((rd t370 t373) == (rd l1_0 t373))) (y367.length : Int) (wrap64 (x22_1 + 1)) a0_0 a0_1 l1_0) else (none)) else (none)) else (none)) else (none)) else (none)) = some r := H
            have A16 := Aside0.mk A160
            clear A160
            by_cases c17 : 0 ≤ t373
            · rw [if_pos c17] at H
              have c17b0 : decide (0 ≤ t373) = true := decide_eq_true c17
              clear c17
              by_cases c18 : t373 < (t370.length : Int)
              · rw [if_pos c18] at H
                have c18b0 : decide (t373 < (t370.length : Int)) = true := decide_eq_true c18
                (try rw [hl5_1] at c18b0)
                (try rw [hl5_2] at c18b0)
                (try rw [hl5_3] at c18b0)
                clear c18
                by_cases c19 : t373 < (l1_0.length : Int)
                · rw [if_pos c19] at H
                  have c19b0 : decide (t373 < (l1_0.length : Int)) = true := decide_eq_true c19
                  clear c19
                  by_cases c20 : 0 ≤ x22_1
                  · rw [if_pos c20] at H
                    have c20b0 : decide (0 ≤ x22_1) = true := decide_eq_true c20
                    clear c20
                    by_cases c21 : x22_1 < (x5_1.length : Int)
                    · rw [if_pos c21] at H
                      have c21b0 : decide (x22_1 < (x5_1.length : Int)) = true := decide_eq_true c21
                      (try rw [hl5_1] at c21b0)
                      (try rw [hl5_2] at c21b0)
                      (try rw [hl5_3] at c21b0)
                      clear c21
                      obtain ⟨y376, hy376⟩ : ∃ y_ : List Bool, y_ = (x5_1.set (x22_1 : Int).toNat ((rd t370 t373) == (rd l1_0 t373))) := ⟨_, rfl⟩
                      replace H : (spec_l09Safe.l0 k1 y376 (y367.length : Int) (wrap64 (x22_1 + 1)) a0_0 a0_1 l1_0) = some r := by first | (rw [hy376]; with_reducible exact H) | (have H2_ := (Option.bind_some _ _).symm.trans H; rw [hy376]; with_reducible exact H2_) | (have H2_ := (Option.bind_some _ _).symm.trans H; with_reducible exact H2_) | with_reducible exact H | (rw [hy376]; exact H) | exact H
                      have Ny376 := Aside0.mk hy376
                      clear hy376
                      have H' := Aside0.mk H
                      clear H
                      have hnb23 := NB365_364.out
                      have hnc23 := NB364_365.out
                      have hcz24_0 : wr.cell? ⟨gb365, 0, none⟩ = some (.slice A1_0 l1_0.length c1_0) := (blk_cell BK365.out 0).trans rfl
                      have hfz24_0 := blk_frozen BK365.out 0
                      try go_wp2_with (first | ((with_reducible refine gate_callee (f := 97) rfl ?_); refine goesL_ (some 28) rfl rfl Try.func97 (by kernel_rfl) rfl #[.agg #[.slice A1_0 l1_0.length c1_0], .int .i64 x22_1] rfl (by (try simp only [List.map_toArray, List.map_cons, List.map_nil]); first | done | rfl | (simp only [List.length_drop, List.length_take]; rfl)) ?_; (with_reducible refine (spec_l09State.calls k1 _ _ l1_0 x22_1 t370 t373 _ ?side1 ?side2 A16.out).mono ?_); (case side1 => repeat (first | exact (Kd.C_below HR1_0.out HB.out) | (with_reducible refine Kd.C_alloc ?_ _) | (with_reducible refine Kd.C_drewN ?_ _) | (with_reducible refine Kd.C_drew ?_))); (case side2 => exact HC1_0.out); rintro e w25 ⟨v371, rfl, ho0, hb⟩; refine ⟨_, rfl, ?_⟩; have n0_ := Aside0.mk (Kd.R_below (by (with_reducible repeat (first | apply Kd.R_alloc | apply Kd.R_drewN | apply Kd.R_drew)); exact HO_5.out) hb); have n1_ := Aside0.mk (Kd.R_lower ho0 (below_size (by repeat (first | (with_reducible first | exact HB.out | apply below_alloc | apply pw_below_drewN | apply below_drew1 | refine below_set ?_ GE364.out | refine below_set ?_ GE365.out) | exact HB.out)))); have n2_ := Aside0.mk (blk_below (g := gb364) (o := .cells #[.int .i64 a0_0, .int .i64 a0_1] 42 (0, 0)) (by (with_reducible repeat (first | refine blk_drewN ?_ _ | refine blk_drew ?_ | refine blk_alloc ?_ _)); exact BK364.out) hb); have n3_ := Aside0.mk (blk_below (g := gb365) (o := .cells #[.slice A1_0 l1_0.length c1_0] 67 (0, 0)) (by (with_reducible repeat (first | refine blk_drewN ?_ _ | refine blk_drew ?_ | refine blk_alloc ?_ _)); exact BK365.out) hb); have n4_ := Aside0.mk (below_step (by repeat (first | (with_reducible first | exact HB.out | apply below_alloc | apply pw_below_drewN | apply below_drew1 | refine below_set ?_ GE364.out | refine below_set ?_ GE365.out) | exact HB.out)) hb); clear HO_5; clear BK364; clear BK365; clear HB; have HO_5 := n0_; have HO372 := n1_; have BK364 := n2_; have BK365 := n3_; have HB := n4_; clear n0_ n1_ n2_ n3_ n4_; (try clear hb); (try clear hb2); (try clear hk); (try clear hi); (try clear ho0)))
                      have n0_ := Aside0.mk (Kd.R_drew HO_5.out)
                      have n1_ := Aside0.mk (Kd.R_drew HO372.out)
                      have n2_ := Aside0.mk (blk_drew BK364.out)
                      have n3_ := Aside0.mk (blk_drew BK365.out)
                      have n4_ := Aside0.mk (below_drew1 HB.out)
                      clear HO_5
                      clear HO372
                      clear BK364
                      clear BK365
                      clear HB
                      have HO_5 := n0_
                      have HO372 := n1_
                      have BK364 := n2_
                      have BK365 := n3_
                      have HB := n4_
                      clear n0_ n1_ n2_ n3_ n4_
                      obtain ⟨Ao27, co27, eo27⟩ := Kd.R_slice HO372.out
                      (first | subst eo27 | (injection eo27 with f1_ f2_ f3_; have f4_ := f1_.symm; have f5_ := f3_.symm; clear f1_ f2_ f3_; subst f4_; subst f5_))
                      have p374 : 0 ≤ (t373 : Int) := of_decide_eq_true (by first | (with_reducible assumption) | assumption)
                      have q374 : t373 < (t370.length : Int) := of_decide_eq_true (by first | (with_reducible assumption) | assumption)
                      obtain ⟨ad374, e374, hx374_0⟩ := Kd.at_int (Kd.R_reads' HO372.out).2.2 t373 p374 q374
                      cases e374
                      replace p374 := eq_true p374
                      replace q374 := eq_true q374
                      have p375 : 0 ≤ (t373 : Int) := of_decide_eq_true (by first | (with_reducible assumption) | assumption)
                      have q375 : t373 < (l1_0.length : Int) := of_decide_eq_true (by first | (with_reducible assumption) | assumption)
                      obtain ⟨ad375, e375, hx375_0⟩ := Kd.at_int HR1_0.out t373 p375 q375
                      have hw375_0 := hx375_0
                      cases e375
                      replace hx375_0 := (HB.out.cell (World.block_lt_of_cell? w _ hx375_0)).trans hx375_0
                      replace p375 := eq_true p375
                      replace q375 := eq_true q375
                      have p22 : 0 ≤ (x22_1 : Int) := of_decide_eq_true (by first | (with_reducible assumption) | assumption)
                      have q22 : (x22_1 : Int) < ((x5_1.length : Int) : Int) := of_decide_eq_true (by first | (with_reducible assumption) | assumption)
                      obtain ⟨go22, co22, eo22, gb22, gl22, cl22, HG22⟩ := Kd.R_form HO_5.out (by omega)
                      (first | cases eo22 | (injection eo22 with ea_ en_ ec_; (first | subst ea_ | (injection ea_ with ea_; subst ea_)); subst ec_; clear en_))
                      have GB22 := Aside0.mk gb22
                      have GG22 := Aside0.mk HG22
                      clear gb22 gl22 HG22
                      obtain ⟨hx22_0, hf22_0⟩ := Kd.R_celln false HO_5.out (x22_1 : Int) p22 q22
                      replace p22 := eq_true p22
                      replace q22 := eq_true q22
                      have HP28 := Kd.R_putn HO_5.out (x22_1 : Int) ((rd t370 t373) == (rd l1_0 t373))
                      rw [← Ny376.out] at HP28
                      have HQ28 := Aside0.mk HP28
                      clear HP28
                      refine start_ (n := 14) (S := fun w' => w'.cell? ⟨gb365, 0, none⟩ = some (.slice (some ad375) l1_0.length c1_0) ∧ w'.cell? (ad374.add (t373).toNat) = some (.int .i64 (rd t370 t373)) ∧ w'.cell? (ad375.add (t373).toNat) = some (.int .i64 (rd l1_0 t373))) (ds := [13]) #[false, false, false, false, false, false, false, false, false, false, false, false, false, false] (by kernel_rfl) rfl rfl ⟨(blk_cell BK365.out 0).trans rfl, hx374_0, ((HB.out.cell (World.block_lt_of_cell? w _ hw375_0)).trans hw375_0)⟩ (fun hHeld => ?_); refine with_tabW spec_l09Safe.tab6 spec_l09Safe.bits6 (fun HT_ HW_ => ?_)
                      generalize w25.drew = w26 at HO_5 HO372 BK364 BK365 HB GG22 HQ28 hf22_0 hx22_0 hx374_0 hx375_0 hHeld ⊢
                      refine pure_ (i := 0) (N := some 31) (v := ?_) (a' := ?_) #[true, false, false, false, false, false, false, false, false, false, false, false, false, false] rfl rfl (any_of HT_.out (by kernel_rfl)) (fun _ _ _ h => h) (Or.inl ⟨by rfl, ?_⟩) ?_ ?_
                      rotate_left
                      · intro w'
                        go_simp
                        with_reducible rfl
                      rotate_left
                      · simp only [Act.put, List.setIfInBounds_toArray, List.set_cons_zero, List.set_cons_succ, i64_w, i32_w]
                        rfl
                      refine pure_ (i := 1) (N := some 32) (v := ?_) (a' := ?_) #[true, true, false, false, false, false, false, false, false, false, false, false, false, false] rfl rfl (any_of HT_.out (by kernel_rfl)) (fun _ _ _ h => h) (Or.inl ⟨by rfl, ?_⟩) ?_ ?_
                      rotate_left
                      · intro w'
                        go_simp
                        with_reducible rfl
                      rotate_left
                      · simp only [Act.put, List.setIfInBounds_toArray, List.set_cons_zero, List.set_cons_succ, i64_w, i32_w]
                        rfl
                      refine pure_ (i := 2) (N := some 33) (v := ?_) (a' := ?_) #[true, true, true, false, false, false, false, false, false, false, false, false, false, false] rfl rfl (any_of HT_.out (by kernel_rfl)) (fun _ _ _ h => h) (Or.inl ⟨by rfl, ?_⟩) ?_ ?_
                      rotate_left
                      · intro w'
                        go_simp
                        with_reducible rfl
                      rotate_left
                      · simp only [Act.put, List.setIfInBounds_toArray, List.set_cons_zero, List.set_cons_succ, i64_w, i32_w]
                        rfl
                      refine pure_ (i := 3) (N := some 34) (v := ?_) (a' := ?_) #[true, true, true, true, false, false, false, false, false, false, false, false, false, false] rfl rfl (any_of HT_.out (by kernel_rfl)) (fun _ _ _ h => h) (Or.inl ⟨by rfl, ?_⟩) ?_ ?_
                      rotate_left
                      · intro w'
                        go_simp
                        with_reducible rfl
                      rotate_left
                      · simp only [Act.put, List.setIfInBounds_toArray, List.set_cons_zero, List.set_cons_succ, i64_w, i32_w]
                        rfl
                      refine pure_ (i := 4) (N := some 35) (v := ?_) (a' := ?_) #[true, true, true, true, true, false, false, false, false, false, false, false, false, false] rfl rfl (any_of HT_.out (by kernel_rfl)) (fun _ _ _ h => h) (Or.inl ⟨by rfl, ?_⟩) ?_ ?_
                      rotate_left
                      · intro w'
                        go_simp
                        with_reducible rfl
                      rotate_left
                      · simp only [Act.put, List.setIfInBounds_toArray, List.set_cons_zero, List.set_cons_succ, i64_w, i32_w]
                        rfl
                      refine pure_ (i := 6) (N := some 37) (v := ?_) (a' := ?_) #[true, true, true, true, true, false, true, false, false, false, false, false, false, false] rfl rfl (any_of HT_.out (by kernel_rfl)) (fun _ _ _ h => h) (Or.inl ⟨by rfl, ?_⟩) ?_ ?_
                      rotate_left
                      · intro w'
                        go_simp
                        with_reducible rfl
                      rotate_left
                      · simp only [Act.put, List.setIfInBounds_toArray, List.set_cons_zero, List.set_cons_succ, i64_w, i32_w]
                        rfl
                      refine pure_ (i := 8) (N := some 39) (v := ?_) (a' := ?_) #[true, true, true, true, true, false, true, false, true, false, false, false, false, false] rfl rfl (any_of HT_.out (by kernel_rfl)) (fun _ _ _ h => h) (Or.inl ⟨by rfl, ?_⟩) ?_ ?_
                      rotate_left
                      · intro w'
                        go_simp
                        with_reducible rfl
                      rotate_left
                      · simp only [Act.put, List.setIfInBounds_toArray, List.set_cons_zero, List.set_cons_succ, i64_w, i32_w]
                        rfl
                      refine take_ (i := 5) (N := some 36) (v := ?_) (a' := ?_) #[true, true, true, true, true, true, true, false, true, false, false, false, false, false] rfl rfl (take_ofW HT_.out HW_.out (by kernel_rfl)) (fun _ _ _ h => h) (Or.inl ⟨by rfl, ?_⟩) hHeld ?_ ?_
                      rotate_left
                      · rintro w' ⟨s0, s1, s2⟩
                        go_simp
                        with_reducible rfl
                      rotate_left
                      · simp only [Act.put, List.setIfInBounds_toArray, List.set_cons_zero, List.set_cons_succ, i64_w, i32_w]
                        rfl
                      refine take_ (i := 7) (N := some 38) (v := ?_) (a' := ?_) #[true, true, true, true, true, true, true, true, true, false, false, false, false, false] rfl rfl (take_ofW HT_.out HW_.out (by kernel_rfl)) (fun _ _ _ h => h) (Or.inl ⟨by rfl, ?_⟩) hHeld ?_ ?_
                      rotate_left
                      · rintro w' ⟨s0, s1, s2⟩
                        go_simp
                        with_reducible rfl
                      rotate_left
                      · simp only [Act.put, List.setIfInBounds_toArray, List.set_cons_zero, List.set_cons_succ, i64_w, i32_w]
                        rfl
                      refine pure_ (i := 9) (N := some 40) (v := ?_) (a' := ?_) #[true, true, true, true, true, true, true, true, true, true, false, false, false, false] rfl rfl (any_of HT_.out (by kernel_rfl)) (fun _ _ _ h => h) (Or.inl ⟨by rfl, ?_⟩) ?_ ?_
                      rotate_left
                      · intro w'
                        go_simp
                        with_reducible rfl
                      rotate_left
                      · simp only [Act.put, List.setIfInBounds_toArray, List.set_cons_zero, List.set_cons_succ, i64_w, i32_w]
                        rfl
                      refine take_ (i := 10) (N := some 41) (v := ?_) (a' := ?_) #[true, true, true, true, true, true, true, true, true, true, true, false, false, false] rfl rfl (take_ofW HT_.out HW_.out (by kernel_rfl)) (fun _ _ _ h => h) (Or.inl ⟨by rfl, ?_⟩) hHeld ?_ ?_
                      rotate_left
                      · rintro w' ⟨s0, s1, s2⟩
                        go_simp
                        with_reducible rfl
                      rotate_left
                      · simp only [Act.put, List.setIfInBounds_toArray, List.set_cons_zero, List.set_cons_succ, i64_w, i32_w]
                        rfl
                      refine pure_ (i := 11) (N := some 42) (v := ?_) (a' := ?_) #[true, true, true, true, true, true, true, true, true, true, true, true, false, false] rfl rfl (any_of HT_.out (by kernel_rfl)) (fun _ _ _ h => h) (Or.inl ⟨by rfl, ?_⟩) ?_ ?_
                      rotate_left
                      · intro w'
                        go_simp
                        with_reducible rfl
                      rotate_left
                      · simp only [Act.put, List.setIfInBounds_toArray, List.set_cons_zero, List.set_cons_succ, i64_w, i32_w]
                        rfl
                      refine pure_ (i := 12) (N := some 43) (v := ?_) (a' := ?_) #[true, true, true, true, true, true, true, true, true, true, true, true, true, false] rfl rfl (any_of HT_.out (by kernel_rfl)) (fun _ _ _ h => h) (Or.inl ⟨by rfl, ?_⟩) ?_ ?_
                      rotate_left
                      · intro w'
                        go_simp
                        with_reducible rfl
                      rotate_left
                      · simp only [Act.put, List.setIfInBounds_toArray, List.set_cons_zero, List.set_cons_succ, i64_w, i32_w]
                        rfl
                      refine last_ (i := 13) (N := none) #[true, true, true, true, true, true, true, true, true, true, true, true, true, true] rfl rfl (one_of HT_.out (by kernel_rfl)) (by decide) (fun K hK => ?_)
                      refine skip_ (w1 := ?_) (by rfl) rfl ?_ ?_
                      rotate_left
                      · go_simp
                        rfl
                      refine hK.out _ _ ?_
                      clear hK K
                      refine done_ (done_of HT_.out (by kernel_rfl)) ?_
                      try go_wp2
                      (try simp only [← hl5_1])
                      go_roundg k1
                      case measure => have := HK1.out; omega
                      case rel => exact ⟨(y376), (wrap64 (x22_1 + 1)), (by first | rfl | (simp; done) | (simp [*]; done)), H', ⟨by have := HK1.out; omega⟩, ⟨by (try simp only [hl5_1]); (with_reducible repeat (first | apply Kd.R_alloc | apply Kd.R_drewN | apply Kd.R_drew)); exact HQ28.out⟩, ⟨by (try simp only [hl5_1]); (with_reducible repeat (first | refine blk_drewN ?_ _ | refine blk_drew ?_ | refine blk_alloc ?_ _)); refine blk_far ?_ (by have h_ := Kd.R_ne HO_5.out BK364.out (by decide); intro e_; exact h_ (by rw [e_]; rfl)) _; (with_reducible repeat (first | refine blk_drewN ?_ _ | refine blk_drew ?_ | refine blk_alloc ?_ _)); exact BK364.out⟩, ⟨by (try simp only [hl5_1]); (with_reducible repeat (first | refine blk_drewN ?_ _ | refine blk_drew ?_ | refine blk_alloc ?_ _)); refine blk_far ?_ (by have h_ := Kd.R_ne HO_5.out BK365.out (by decide); intro e_; exact h_ (by rw [e_]; rfl)) _; (with_reducible repeat (first | refine blk_drewN ?_ _ | refine blk_drew ?_ | refine blk_alloc ?_ _)); exact BK365.out⟩, ⟨by repeat (first | (with_reducible first | exact HB.out | apply below_alloc | apply pw_below_drewN | apply below_drew1 | refine below_set ?_ GB22.out | refine below_set ?_ GE364.out | refine below_set ?_ GE365.out) | exact HB.out)⟩⟩
                    · rw [if_neg c21] at H
                      exact absurd H (by simp)
                  · rw [if_neg c20] at H
                    exact absurd H (by simp)
                · rw [if_neg c19] at H
                  exact absurd H (by simp)
              · rw [if_neg c18] at H
                exact absurd H (by simp)
            · rw [if_neg c17] at H
              exact absurd H (by simp)
          · rw [if_neg c15] at H
            have c15b0 : decide (x22_1 < (y367.length : Int)) = false := decide_eq_false c15
            (try rw [hl5_1] at c15b0)
            (try rw [hl5_2] at c15b0)
            (try rw [hl5_3] at c15b0)
            clear c15
            have H' := Aside0.mk H
            clear H
            go_wp2
            go_loopg [9] k1 (fun kq v9 w' => ∃ (x5_2 : List Bool) (x9_2 : Bool), v9 = .bool x9_2 ∧ Aside0 (spec_l09Safe.l1 kq x5_2 x9_2 a0_0 a0_1 l1_0 = some r) ∧ Aside0 (kq ≤ k1) ∧ Aside0 (Kd.R Kd.bool 4 w' w.heap.size (fun _ => True) (.slice Ao14 x5_1.length co14) x5_2) ∧ Aside0 (w'.heap[gb364]? = some (.cells #[.int .i64 a0_0, .int .i64 a0_1] 42 (0, 0))) ∧ Aside0 (w'.heap[gb365]? = some (.cells #[(.slice A1_0 l1_0.length c1_0)] 67 (0, 0))) ∧ Aside0 (Below w.heap.size w w'))
            case atStart => exact ⟨(x5_1), (true), (by first | rfl | (simp; done) | (simp [*]; done)), H', ⟨Nat.le_refl _⟩, ⟨by (try simp only [hl5_1]); (with_reducible repeat (first | apply Kd.R_alloc | apply Kd.R_drewN | apply Kd.R_drew)); exact HO_5.out⟩, ⟨by (try simp only [hl5_1]); (with_reducible repeat (first | refine blk_drewN ?_ _ | refine blk_drew ?_ | refine blk_alloc ?_ _)); exact BK364.out⟩, ⟨by (try simp only [hl5_1]); (with_reducible repeat (first | refine blk_drewN ?_ _ | refine blk_drew ?_ | refine blk_alloc ?_ _)); exact BK365.out⟩, ⟨by repeat (first | (with_reducible first | exact HB.out | apply below_alloc | apply pw_below_drewN | apply below_drew1 | refine below_set ?_ GE364.out | refine below_set ?_ GE365.out) | exact HB.out)⟩⟩
            case round =>
              clear H'
              try clear c1
              try clear c2
              try clear p2
              try clear q2
              try clear hx2
              try clear hf2
              try clear p3
              try clear q3
              try clear hx3
              try clear c4
              try clear c4b0
              try clear c4b1
              try clear c5
              try clear c5b0
              try clear c5b1
              try clear c6
              try clear p6
              try clear c8
              try clear c9
              try clear c15
              try clear c15b0
              try clear c17
              try clear c17b0
              try clear c18
              try clear c18b0
              try clear c19
              try clear c19b0
              try clear c20
              try clear c20b0
              try clear c21
              try clear c21b0
              try clear p22
              try clear q22
              try clear hx22
              try clear hf22
              try clear c23
              try clear hcz10_0
              try clear hcz24_0
              try clear hcz9_0
              try clear hcz9_1
              try clear hfz10_0
              try clear hfz24_0
              try clear hfz9_0
              try clear hfz9_1
              try clear hx22_0
              try clear hx374_0
              try clear hx375_0
              try clear p2
              try clear p22
              try clear p374
              try clear p375
              try clear q22
              try clear q374
              try clear q375
              obtain ⟨x5_2, x9_2, rfl, HA, HK2, HO_5, BK364, BK365, HB⟩ := hrel
              have hl5_2 := (Kd.R_reads' HO_5.out).1
              rw [hl5_2] at HO_5
              (try simp only [hl5_2])
              (try simp only [hl5_2] at BK364)
              (try simp only [hl5_2] at BK365)
              cases gk with
              | zero => exact absurd HA.out (by simp [spec_l09Safe.l1])
              | succ k2 =>
                have H := HA.out
                clear HA
                simp only [spec_l09Safe.l1] at H
                by_cases c29 : x9_2 = true
                · subst c29
                  have H1 : (spec_l09Safe.l2 k2 x5_2 false (x5_2.length : Int) 0 a0_0 a0_1 l1_0) = some r := by rw [if_pos rfl] at H; exact H
                  clear H
                  have H := H1
                  clear H1
                  have H' := Aside0.mk H
                  clear H
                  go_wp2
                  go_loopg [9, 48] k2 (fun kq v9 v48 w' => ∃ (x5_3 : List Bool) (x9_3 : Bool) (x48_3 : Int), v9 = .bool x9_3 ∧ v48 = .int .i64 x48_3 ∧ Aside0 (spec_l09Safe.l2 kq x5_3 x9_3 (x5_2.length : Int) x48_3 a0_0 a0_1 l1_0 = some r) ∧ Aside0 (kq ≤ k2) ∧ Aside0 (Kd.R Kd.bool 4 w' w.heap.size (fun _ => True) (.slice Ao14 x5_2.length co14) x5_3) ∧ Aside0 (w'.heap[gb364]? = some (.cells #[.int .i64 a0_0, .int .i64 a0_1] 42 (0, 0))) ∧ Aside0 (w'.heap[gb365]? = some (.cells #[(.slice A1_0 l1_0.length c1_0)] 67 (0, 0))) ∧ Aside0 (Below w.heap.size w w'))
                  case atStart => exact ⟨(x5_2), (false), (0), (by first | rfl | (simp; done) | (simp [*]; done)), (by first | rfl | (simp; done) | (simp [*]; done)), H', ⟨Nat.le_refl _⟩, ⟨by (try simp only [hl5_1]); (try simp only [hl5_2]); (with_reducible repeat (first | apply Kd.R_alloc | apply Kd.R_drewN | apply Kd.R_drew)); exact HO_5.out⟩, ⟨by (try simp only [hl5_1]); (try simp only [hl5_2]); (with_reducible repeat (first | refine blk_drewN ?_ _ | refine blk_drew ?_ | refine blk_alloc ?_ _)); exact BK364.out⟩, ⟨by (try simp only [hl5_1]); (try simp only [hl5_2]); (with_reducible repeat (first | refine blk_drewN ?_ _ | refine blk_drew ?_ | refine blk_alloc ?_ _)); exact BK365.out⟩, ⟨by repeat (first | (with_reducible first | exact HB.out | apply below_alloc | apply pw_below_drewN | apply below_drew1 | refine below_set ?_ GE364.out | refine below_set ?_ GE365.out) | exact HB.out)⟩⟩
                  case round =>
                    clear H'
                    try clear c1
                    try clear c2
                    try clear p2
                    try clear q2
                    try clear hx2
                    try clear hf2
                    try clear p3
                    try clear q3
                    try clear hx3
                    try clear c4
                    try clear c4b0
                    try clear c4b1
                    try clear c5
                    try clear c5b0
                    try clear c5b1
                    try clear c6
                    try clear p6
                    try clear c8
                    try clear c9
                    try clear c15
                    try clear c15b0
                    try clear c17
                    try clear c17b0
                    try clear c18
                    try clear c18b0
                    try clear c19
                    try clear c19b0
                    try clear c20
                    try clear c20b0
                    try clear c21
                    try clear c21b0
                    try clear p22
                    try clear q22
                    try clear hx22
                    try clear hf22
                    try clear c23
                    try clear c29
                    try clear hcz10_0
                    try clear hcz24_0
                    try clear hcz9_0
                    try clear hcz9_1
                    try clear hfz10_0
                    try clear hfz24_0
                    try clear hfz9_0
                    try clear hfz9_1
                    try clear hx22_0
                    try clear hx374_0
                    try clear hx375_0
                    try clear p2
                    try clear p22
                    try clear p3
                    try clear p374
                    try clear p375
                    try clear p6
                    try clear q2
                    try clear q22
                    try clear q3
                    try clear q374
                    try clear q375
                    obtain ⟨x5_3, x9_3, x48_3, rfl, rfl, HA, HK3, HO_5, BK364, BK365, HB⟩ := hrel
                    have hl5_3 := (Kd.R_reads' HO_5.out).1
                    rw [hl5_3] at HO_5
                    (try simp only [hl5_3])
                    (try simp only [hl5_3] at BK364)
                    (try simp only [hl5_3] at BK365)
                    cases gk with
                    | zero => exact absurd HA.out (by simp [spec_l09Safe.l2])
                    | succ k3 =>
                      have H := HA.out
                      clear HA
                      simp only [spec_l09Safe.l2] at H
                      by_cases c30 : x48_3 < (x5_2.length : Int)
                      · rw [if_pos c30] at H
                        have c30b0 : decide (x48_3 < (x5_2.length : Int)) = true := decide_eq_true c30
                        (try rw [hl5_1] at c30b0)
                        (try rw [hl5_2] at c30b0)
                        (try rw [hl5_3] at c30b0)
                        clear c30
                        by_cases c31 : 0 ≤ x48_3
                        · rw [if_pos c31] at H
                          have c31b0 : decide (0 ≤ x48_3) = true := decide_eq_true c31
                          clear c31
                          by_cases c32 : x48_3 < (x5_3.length : Int)
                          · rw [if_pos c32] at H
                            have c32b0 : decide (x48_3 < (x5_3.length : Int)) = true := decide_eq_true c32
                            (try rw [hl5_1] at c32b0)
                            (try rw [hl5_2] at c32b0)
                            (try rw [hl5_3] at c32b0)
                            clear c32
                            obtain ⟨bq33, hbq33⟩ : ∃ b_ : Bool, b_ = (rdOf false x5_3 x48_3) := ⟨_, rfl⟩
                            replace H : (if bq33 = true then ((spec_l09State.f k3 l1_0 x48_3).bind fun bt378 => (spec_l09Safe.l3 k3 x5_3 x9_3 x48_3 bt378.1 bt378.2 false 0 (x5_2.length : Int) x48_3 a0_0 a0_1 l1_0)) else (spec_l09Safe.l2 k3 x5_3 x9_3 (x5_2.length : Int) (wrap64 (x48_3 + 1)) a0_0 a0_1 l1_0)) = some r := by rw [← hbq33] at H; exact H
                            have Nbq33 := Aside0.mk hbq33
                            clear hbq33
                            by_cases c34 : bq33 = true
                            · subst c34
                              have H1 : ((spec_l09State.f k3 l1_0 x48_3).bind fun bt378 => (spec_l09Safe.l3 k3 x5_3 x9_3 x48_3 bt378.1 bt378.2 false 0 (x5_2.length : Int) x48_3 a0_0 a0_1 l1_0)) = some r := by rw [if_pos rfl] at H; exact H
                              clear H
                              have H := H1
                              clear H1
                              replace H := Option.bind_eq_some_iff.mp H
                              obtain ⟨⟨t378, t381⟩, A350, H⟩ := H
                              replace H : (spec_l09Safe.l3 k3 x5_3 x9_3 x48_3 t378 t381 false 0 (x5_2.length : Int) x48_3 a0_0 a0_1 l1_0) = some r := H
                              have A35 := Aside0.mk A350
                              clear A350
                              have H' := Aside0.mk H
                              clear H
                              have p377 : 0 ≤ (x48_3 : Int) := of_decide_eq_true (by first | (with_reducible assumption) | assumption)
                              have q377 : x48_3 < (x5_3.length : Int) := of_decide_eq_true (by first | (with_reducible assumption) | assumption)
                              obtain ⟨ad377, e377, hx377_0⟩ := Kd.at_bool (Kd.R_reads' HO_5.out).2.2 x48_3 p377 q377
                              (try rw [← Nbq33.out] at hx377_0)
                              cases e377
                              replace p377 := eq_true p377
                              replace q377 := eq_true q377
                              have hnb36 := NB365_364.out
                              have hnc36 := NB364_365.out
                              have hcz37_0 : wr.cell? ⟨gb365, 0, none⟩ = some (.slice A1_0 l1_0.length c1_0) := (blk_cell BK365.out 0).trans rfl
                              have hfz37_0 := blk_frozen BK365.out 0
                              go_wp2_with (first | ((with_reducible refine gate_callee (f := 97) rfl ?_); refine goesL_ (some 59) rfl rfl Try.func97 (by kernel_rfl) rfl #[.agg #[.slice A1_0 l1_0.length c1_0], .int .i64 x48_3] rfl (by (try simp only [List.map_toArray, List.map_cons, List.map_nil]); first | done | rfl | (simp only [List.length_drop, List.length_take]; rfl)) ?_; (with_reducible refine (spec_l09State.calls k3 _ _ l1_0 x48_3 t378 t381 _ ?side1 ?side2 A35.out).mono ?_); (case side1 => repeat (first | exact (Kd.C_below HR1_0.out HB.out) | (with_reducible refine Kd.C_alloc ?_ _) | (with_reducible refine Kd.C_drewN ?_ _) | (with_reducible refine Kd.C_drew ?_))); (case side2 => exact HC1_0.out); rintro e w38 ⟨v379, rfl, ho0, hb⟩; refine ⟨_, rfl, ?_⟩; have n0_ := Aside0.mk (Kd.R_below (by (with_reducible repeat (first | apply Kd.R_alloc | apply Kd.R_drewN | apply Kd.R_drew)); exact HO_5.out) hb); have n1_ := Aside0.mk (Kd.R_lower ho0 (below_size (by repeat (first | (with_reducible first | exact HB.out | apply below_alloc | apply pw_below_drewN | apply below_drew1 | refine below_set ?_ GE364.out | refine below_set ?_ GE365.out) | exact HB.out)))); have n2_ := Aside0.mk (blk_below (g := gb364) (o := .cells #[.int .i64 a0_0, .int .i64 a0_1] 42 (0, 0)) (by (with_reducible repeat (first | refine blk_drewN ?_ _ | refine blk_drew ?_ | refine blk_alloc ?_ _)); exact BK364.out) hb); have n3_ := Aside0.mk (blk_below (g := gb365) (o := .cells #[.slice A1_0 l1_0.length c1_0] 67 (0, 0)) (by (with_reducible repeat (first | refine blk_drewN ?_ _ | refine blk_drew ?_ | refine blk_alloc ?_ _)); exact BK365.out) hb); have n4_ := Aside0.mk (below_step (by repeat (first | (with_reducible first | exact HB.out | apply below_alloc | apply pw_below_drewN | apply below_drew1 | refine below_set ?_ GE364.out | refine below_set ?_ GE365.out) | exact HB.out)) hb); clear HO_5; clear BK364; clear BK365; clear HB; have HO_5 := n0_; have HO380 := n1_; have BK364 := n2_; have BK365 := n3_; have HB := n4_; clear n0_ n1_ n2_ n3_ n4_; (try clear hb); (try clear hb2); (try clear hk); (try clear hi); (try clear ho0)))
                              go_loopg [13, 14] k3 (fun kq v13 v14 w' => ∃ (x13_4 : Bool) (x14_4 : Int), v13 = .bool x13_4 ∧ v14 = .int .i64 x14_4 ∧ Aside0 (spec_l09Safe.l3 kq x5_3 x9_3 x48_3 t378 t381 x13_4 x14_4 (x5_2.length : Int) x48_3 a0_0 a0_1 l1_0 = some r) ∧ Aside0 (kq ≤ k3) ∧ Aside0 (Kd.R Kd.bool 4 w' w.heap.size (fun _ => True) (.slice (some ad377) x5_3.length co14) x5_3) ∧ Aside0 (Kd.R (Kd.int .i64) 2 w' w.heap.size (fun _ => True) v379 t378) ∧ Aside0 (w'.heap[gb364]? = some (.cells #[.int .i64 a0_0, .int .i64 a0_1] 42 (0, 0))) ∧ Aside0 (w'.heap[gb365]? = some (.cells #[(.slice A1_0 l1_0.length c1_0)] 67 (0, 0))) ∧ Aside0 (Below w.heap.size w w'))
                              case atStart => exact ⟨(false), (0), (by first | rfl | (simp; done) | (simp [*]; done)), (by first | rfl | (simp; done) | (simp [*]; done)), H', ⟨Nat.le_refl _⟩, ⟨by (try simp only [hl5_1]); (try simp only [hl5_2]); (try simp only [hl5_3]); (with_reducible repeat (first | apply Kd.R_alloc | apply Kd.R_drewN | apply Kd.R_drew)); exact HO_5.out⟩, ⟨by (try simp only [hl5_1]); (try simp only [hl5_2]); (try simp only [hl5_3]); (with_reducible repeat (first | apply Kd.R_alloc | apply Kd.R_drewN | apply Kd.R_drew)); exact HO380.out⟩, ⟨by (try simp only [hl5_1]); (try simp only [hl5_2]); (try simp only [hl5_3]); (with_reducible repeat (first | refine blk_drewN ?_ _ | refine blk_drew ?_ | refine blk_alloc ?_ _)); exact BK364.out⟩, ⟨by (try simp only [hl5_1]); (try simp only [hl5_2]); (try simp only [hl5_3]); (with_reducible repeat (first | refine blk_drewN ?_ _ | refine blk_drew ?_ | refine blk_alloc ?_ _)); exact BK365.out⟩, ⟨by repeat (first | (with_reducible first | exact HB.out | apply below_alloc | apply pw_below_drewN | apply below_drew1 | refine below_set ?_ GE364.out | refine below_set ?_ GE365.out) | exact HB.out)⟩⟩
                              case round =>
                                clear H'
                                try clear c1
                                try clear c2
                                try clear p2
                                try clear q2
                                try clear hx2
                                try clear hf2
                                try clear c3
                                try clear p3
                                try clear q3
                                try clear hx3
                                try clear c4
                                try clear c4b0
                                try clear c4b1
                                try clear c5
                                try clear c5b0
                                try clear c5b1
                                try clear c6
                                try clear p6
                                try clear c8
                                try clear c9
                                try clear c15
                                try clear c15b0
                                try clear c17
                                try clear c17b0
                                try clear c18
                                try clear c18b0
                                try clear c19
                                try clear c19b0
                                try clear c20
                                try clear c20b0
                                try clear c21
                                try clear c21b0
                                try clear p22
                                try clear q22
                                try clear hx22
                                try clear hf22
                                try clear c23
                                try clear c29
                                try clear c30
                                try clear c30b0
                                try clear c31
                                try clear c31b0
                                try clear c32
                                try clear c32b0
                                try clear q33
                                try clear c34
                                try clear c36
                                try clear p37
                                try clear q37
                                try clear hx37
                                try clear hcz10_0
                                try clear hcz24_0
                                try clear hcz37_0
                                try clear hcz9_0
                                try clear hcz9_1
                                try clear hfz10_0
                                try clear hfz24_0
                                try clear hfz37_0
                                try clear hfz9_0
                                try clear hfz9_1
                                try clear hx22_0
                                try clear hx374_0
                                try clear hx375_0
                                try clear hx377_0
                                try clear p2
                                try clear p22
                                try clear p3
                                try clear p374
                                try clear p375
                                try clear p377
                                try clear p6
                                try clear q2
                                try clear q22
                                try clear q3
                                try clear q374
                                try clear q375
                                try clear q377
                                obtain ⟨x13_4, x14_4, rfl, rfl, HA, HK4, HO_5, HO_11, BK364, BK365, HB⟩ := hrel
                                cases gk with
                                | zero => exact absurd HA.out (by simp [spec_l09Safe.l3])
                                | succ k4 =>
                                  have H := HA.out
                                  clear HA
                                  simp only [spec_l09Safe.l3] at H
                                  have HC39 := Aside0.mk H
                                  clear H
                                  go_upto_region 18 with (fail)
                                  go_cut [69] (fun v69 wc => ∃ (kq : Nat) (x69_38 : Bool), v69 = .bool x69_38 ∧ Aside0 (spec_l09Safe.j4 kq x5_3 x9_3 x48_3 t378 t381 x13_4 x14_4 (x5_2.length : Int) x48_3 x69_38 a0_0 a0_1 l1_0 = some r) ∧ Aside0 (kq ≤ k4) ∧ Aside0 (Kd.R Kd.bool 4 wc w.heap.size (fun _ => True) (.slice (some ad377) x5_3.length co14) x5_3) ∧ Aside0 (Kd.R (Kd.int .i64) 2 wc w.heap.size (fun _ => True) v379 t378) ∧ Aside0 (wc.heap[gb364]? = some (.cells #[.int .i64 a0_0, .int .i64 a0_1] 42 (0, 0))) ∧ Aside0 (wc.heap[gb365]? = some (.cells #[(.slice A1_0 l1_0.length c1_0)] 67 (0, 0))) ∧ Aside0 (Below w.heap.size w wc))
                                  case first =>
                                    have H := HC39.out
                                    clear HC39
                                    by_cases c40 : x14_4 < a0_0
                                    · rw [if_pos c40] at H
                                      have c40b0 : decide (x14_4 < a0_0) = true := decide_eq_true c40
                                      clear c40
                                      (first | rw [c40b0] | (simp only [i64_w, i32_w]; rw [c40b0]) | skip)
                                      have H' := Aside0.mk H
                                      clear H
                                      have hnb41 := NB364_365.out
                                      have hnc41 := NB365_364.out
                                      have hcz42_0 : wr.cell? ⟨gb364, 0, none⟩ = some (.int .i64 a0_0) := (blk_cell BK364.out 0).trans rfl
                                      have hcz42_1 : wr.cell? ⟨gb364, 1, none⟩ = some (.int .i64 a0_1) := (blk_cell BK364.out 1).trans rfl
                                      have hfz42_0 := blk_frozen BK364.out 0
                                      have hfz42_1 := blk_frozen BK364.out 1
                                      go_wp2
                                      go_meet
                                      case rel => exact ⟨_, (!x13_4), (by first | rfl | (simp; done) | (simp [*]; done)), H', ⟨by have := HK1.out; have := HK2.out; have := HK3.out; have := HK4.out; first | omega | exact Nat.le_refl _⟩, ⟨by (try simp only [hl5_1]); (try simp only [hl5_2]); (try simp only [hl5_3]); (with_reducible repeat (first | apply Kd.R_alloc | apply Kd.R_drewN | apply Kd.R_drew)); exact HO_5.out⟩, ⟨by (try simp only [hl5_1]); (try simp only [hl5_2]); (try simp only [hl5_3]); (with_reducible repeat (first | apply Kd.R_alloc | apply Kd.R_drewN | apply Kd.R_drew)); exact HO_11.out⟩, ⟨by (try simp only [hl5_1]); (try simp only [hl5_2]); (try simp only [hl5_3]); (with_reducible repeat (first | refine blk_drewN ?_ _ | refine blk_drew ?_ | refine blk_alloc ?_ _)); exact BK364.out⟩, ⟨by (try simp only [hl5_1]); (try simp only [hl5_2]); (try simp only [hl5_3]); (with_reducible repeat (first | refine blk_drewN ?_ _ | refine blk_drew ?_ | refine blk_alloc ?_ _)); exact BK365.out⟩, ⟨by repeat (first | (with_reducible first | exact HB.out | apply below_alloc | apply pw_below_drewN | apply below_drew1 | refine below_set ?_ GE364.out | refine below_set ?_ GE365.out) | exact HB.out)⟩⟩
                                    · rw [if_neg c40] at H
                                      have c40b0 : decide (x14_4 < a0_0) = false := decide_eq_false c40
                                      clear c40
                                      (first | rw [c40b0] | (simp only [i64_w, i32_w]; rw [c40b0]) | skip)
                                      have H' := Aside0.mk H
                                      clear H
                                      have hnb43 := NB364_365.out
                                      have hnc43 := NB365_364.out
                                      have hcz44_0 : wr.cell? ⟨gb364, 0, none⟩ = some (.int .i64 a0_0) := (blk_cell BK364.out 0).trans rfl
                                      have hcz44_1 : wr.cell? ⟨gb364, 1, none⟩ = some (.int .i64 a0_1) := (blk_cell BK364.out 1).trans rfl
                                      have hfz44_0 := blk_frozen BK364.out 0
                                      have hfz44_1 := blk_frozen BK364.out 1
                                      go_wp2
                                      go_meet
                                      case rel => exact ⟨_, (false), (by first | rfl | (simp; done) | (simp [*]; done)), H', ⟨by have := HK1.out; have := HK2.out; have := HK3.out; have := HK4.out; first | omega | exact Nat.le_refl _⟩, ⟨by (try simp only [hl5_1]); (try simp only [hl5_2]); (try simp only [hl5_3]); (with_reducible repeat (first | apply Kd.R_alloc | apply Kd.R_drewN | apply Kd.R_drew)); exact HO_5.out⟩, ⟨by (try simp only [hl5_1]); (try simp only [hl5_2]); (try simp only [hl5_3]); (with_reducible repeat (first | apply Kd.R_alloc | apply Kd.R_drewN | apply Kd.R_drew)); exact HO_11.out⟩, ⟨by (try simp only [hl5_1]); (try simp only [hl5_2]); (try simp only [hl5_3]); (with_reducible repeat (first | refine blk_drewN ?_ _ | refine blk_drew ?_ | refine blk_alloc ?_ _)); exact BK364.out⟩, ⟨by (try simp only [hl5_1]); (try simp only [hl5_2]); (try simp only [hl5_3]); (with_reducible repeat (first | refine blk_drewN ?_ _ | refine blk_drew ?_ | refine blk_alloc ?_ _)); exact BK365.out⟩, ⟨by repeat (first | (with_reducible first | exact HB.out | apply below_alloc | apply pw_below_drewN | apply below_drew1 | refine below_set ?_ GE364.out | refine below_set ?_ GE365.out) | exact HB.out)⟩⟩
                                  case rest =>
                                    clear HC39
                                    try clear c1
                                    try clear c2
                                    try clear p2
                                    try clear q2
                                    try clear hx2
                                    try clear hf2
                                    try clear c3
                                    try clear p3
                                    try clear q3
                                    try clear hx3
                                    try clear c4
                                    try clear c4b0
                                    try clear c4b1
                                    try clear c5
                                    try clear c5b0
                                    try clear c5b1
                                    try clear c6
                                    try clear p6
                                    try clear c8
                                    try clear c9
                                    try clear c15
                                    try clear c15b0
                                    try clear c17
                                    try clear c17b0
                                    try clear c18
                                    try clear c18b0
                                    try clear c19
                                    try clear c19b0
                                    try clear c20
                                    try clear c20b0
                                    try clear c21
                                    try clear c21b0
                                    try clear p22
                                    try clear q22
                                    try clear hx22
                                    try clear hf22
                                    try clear c23
                                    try clear c29
                                    try clear c30
                                    try clear c30b0
                                    try clear c31
                                    try clear c31b0
                                    try clear c32
                                    try clear c32b0
                                    try clear q33
                                    try clear c34
                                    try clear c36
                                    try clear p37
                                    try clear q37
                                    try clear hx37
                                    try clear c40
                                    try clear c40b0
                                    try clear c41
                                    try clear c43
                                    try clear hcz10_0
                                    try clear hcz24_0
                                    try clear hcz37_0
                                    try clear hcz42_0
                                    try clear hcz42_1
                                    try clear hcz44_0
                                    try clear hcz44_1
                                    try clear hcz9_0
                                    try clear hcz9_1
                                    try clear hfz10_0
                                    try clear hfz24_0
                                    try clear hfz37_0
                                    try clear hfz42_0
                                    try clear hfz42_1
                                    try clear hfz44_0
                                    try clear hfz44_1
                                    try clear hfz9_0
                                    try clear hfz9_1
                                    try clear hx22_0
                                    try clear hx374_0
                                    try clear hx375_0
                                    try clear hx377_0
                                    try clear p2
                                    try clear p22
                                    try clear p3
                                    try clear p37
                                    try clear p374
                                    try clear p375
                                    try clear p377
                                    try clear p6
                                    try clear q2
                                    try clear q22
                                    try clear q3
                                    try clear q33
                                    try clear q37
                                    try clear q374
                                    try clear q375
                                    try clear q377
                                    obtain ⟨kq, x69_38, rfl, HA, HJ38, HO_5, HO_11, BK364, BK365, HB⟩ := hcut
                                    cases kq with
                                    | zero => exact absurd HA.out (by simp [spec_l09Safe.j4])
                                    | succ kj38 =>
                                      have H := HA.out
                                      clear HA
                                      simp only [spec_l09Safe.j4] at H
                                      by_cases c45 : x69_38 = true
                                      · subst c45
                                        have H1 : ((spec_l09Near.f a0_0 a0_1 t381 x14_4).bind fun t383 => (if t383 = true then ((spec_l09Move.f kj38 l1_0 t378 x14_4).bind fun t384 => (if t384 ≥ 0 then (if 0 ≤ t384 then (if t384 < (x5_3.length : Int) then (spec_l09Safe.l3 kj38 x5_3 x9_3 x48_3 t378 t381 (rdOf false x5_3 t384) (wrap64 (x14_4 + 1)) (x5_2.length : Int) x48_3 a0_0 a0_1 l1_0) else (none)) else (none)) else (spec_l09Safe.l3 kj38 x5_3 x9_3 x48_3 t378 t381 false (wrap64 (x14_4 + 1)) (x5_2.length : Int) x48_3 a0_0 a0_1 l1_0))) else (spec_l09Safe.l3 kj38 x5_3 x9_3 x48_3 t378 t381 x13_4 (wrap64 (x14_4 + 1)) (x5_2.length : Int) x48_3 a0_0 a0_1 l1_0))) = some r := by rw [if_pos rfl] at H; exact H
                                        clear H
                                        have H := H1
                                        clear H1
                                        replace H := Option.bind_eq_some_iff.mp H
                                        obtain ⟨t383, A460, H⟩ := H
                                        replace H : (if t383 = true then ((spec_l09Move.f kj38 l1_0 t378 x14_4).bind fun t384 => (if t384 ≥ 0 then (if 0 ≤ t384 then (if t384 < (x5_3.length : Int) then (spec_l09Safe.l3 kj38 x5_3 x9_3 x48_3 t378 t381 (rdOf false x5_3 t384) (wrap64 (x14_4 + 1)) (x5_2.length : Int) x48_3 a0_0 a0_1 l1_0) else (none)) else (none)) else (spec_l09Safe.l3 kj38 x5_3 x9_3 x48_3 t378 t381 false (wrap64 (x14_4 + 1)) (x5_2.length : Int) x48_3 a0_0 a0_1 l1_0))) else (spec_l09Safe.l3 kj38 x5_3 x9_3 x48_3 t378 t381 x13_4 (wrap64 (x14_4 + 1)) (x5_2.length : Int) x48_3 a0_0 a0_1 l1_0)) = some r := H
                                        have A46 := Aside0.mk A460
                                        clear A460
                                        by_cases c47 : t383 = true
                                        · subst c47
                                          have H1 : ((spec_l09Move.f kj38 l1_0 t378 x14_4).bind fun t384 => (if t384 ≥ 0 then (if 0 ≤ t384 then (if t384 < (x5_3.length : Int) then (spec_l09Safe.l3 kj38 x5_3 x9_3 x48_3 t378 t381 (rdOf false x5_3 t384) (wrap64 (x14_4 + 1)) (x5_2.length : Int) x48_3 a0_0 a0_1 l1_0) else (none)) else (none)) else (spec_l09Safe.l3 kj38 x5_3 x9_3 x48_3 t378 t381 false (wrap64 (x14_4 + 1)) (x5_2.length : Int) x48_3 a0_0 a0_1 l1_0))) = some r := by rw [if_pos rfl] at H; exact H
                                          clear H
                                          have H := H1
                                          clear H1
                                          replace H := Option.bind_eq_some_iff.mp H
                                          obtain ⟨t384, A480, H⟩ := H
                                          replace H : (if t384 ≥ 0 then (if 0 ≤ t384 then (if t384 < (x5_3.length : Int) then (spec_l09Safe.l3 kj38 x5_3 x9_3 x48_3 t378 t381 (rdOf false x5_3 t384) (wrap64 (x14_4 + 1)) (x5_2.length : Int) x48_3 a0_0 a0_1 l1_0) else (none)) else (none)) else (spec_l09Safe.l3 kj38 x5_3 x9_3 x48_3 t378 t381 false (wrap64 (x14_4 + 1)) (x5_2.length : Int) x48_3 a0_0 a0_1 l1_0)) = some r := H
                                          have A48 := Aside0.mk A480
                                          clear A480
                                          by_cases c49 : t384 ≥ 0
                                          · rw [if_pos c49] at H
                                            have c49b0 : decide (0 ≤ t384) = true := decide_eq_true c49
                                            clear c49
                                            by_cases c50 : 0 ≤ t384
                                            · rw [if_pos c50] at H
                                              have c50b0 : decide (0 ≤ t384) = true := decide_eq_true c50
                                              clear c50
                                              by_cases c51 : t384 < (x5_3.length : Int)
                                              · rw [if_pos c51] at H
                                                have c51b0 : decide (t384 < (x5_3.length : Int)) = true := decide_eq_true c51
                                                (try rw [hl5_1] at c51b0)
                                                (try rw [hl5_2] at c51b0)
                                                (try rw [hl5_3] at c51b0)
                                                clear c51
                                                have H' := Aside0.mk H
                                                clear H
                                                have hnb52 := NB364_365.out
                                                have hnc52 := NB365_364.out
                                                have hcz53_0 : wc.cell? ⟨gb364, 0, none⟩ = some (.int .i64 a0_0) := (blk_cell BK364.out 0).trans rfl
                                                have hcz53_1 : wc.cell? ⟨gb364, 1, none⟩ = some (.int .i64 a0_1) := (blk_cell BK364.out 1).trans rfl
                                                have hfz53_0 := blk_frozen BK364.out 0
                                                have hfz53_1 := blk_frozen BK364.out 1
                                                go_wp2_with (first | ((with_reducible refine gate_callee (f := 98) rfl ?_); refine goesL_ (some 75) rfl rfl Try.func98 (by kernel_rfl) rfl #[.agg #[.int .i64 a0_0, .int .i64 a0_1], .int .i64 t381, .int .i64 x14_4] rfl (by (try simp only [List.map_toArray, List.map_cons, List.map_nil]); first | done | rfl | (simp only [List.length_drop, List.length_take]; rfl)) ?_; (with_reducible refine (spec_l09Near.calls a0_0 a0_1 t381 x14_4 true _ A46.out).mono ?_); rintro e w54 ⟨rfl, hb⟩; refine ⟨_, rfl, ?_⟩; have n0_ := Aside0.mk (Kd.R_below (by (with_reducible repeat (first | apply Kd.R_alloc | apply Kd.R_drewN | apply Kd.R_drew)); exact HO_5.out) hb); have n1_ := Aside0.mk (Kd.R_below (by (with_reducible repeat (first | apply Kd.R_alloc | apply Kd.R_drewN | apply Kd.R_drew)); exact HO_11.out) hb); have n2_ := Aside0.mk (blk_below (g := gb364) (o := .cells #[.int .i64 a0_0, .int .i64 a0_1] 42 (0, 0)) (by (with_reducible repeat (first | refine blk_drewN ?_ _ | refine blk_drew ?_ | refine blk_alloc ?_ _)); exact BK364.out) hb); have n3_ := Aside0.mk (blk_below (g := gb365) (o := .cells #[.slice A1_0 l1_0.length c1_0] 67 (0, 0)) (by (with_reducible repeat (first | refine blk_drewN ?_ _ | refine blk_drew ?_ | refine blk_alloc ?_ _)); exact BK365.out) hb); have n4_ := Aside0.mk (below_step (by repeat (first | (with_reducible first | exact HB.out | apply below_alloc | apply pw_below_drewN | apply below_drew1 | refine below_set ?_ GE364.out | refine below_set ?_ GE365.out) | exact HB.out)) hb); clear HO_5; clear HO_11; clear BK364; clear BK365; clear HB; have HO_5 := n0_; have HO_11 := n1_; have BK364 := n2_; have BK365 := n3_; have HB := n4_; clear n0_ n1_ n2_ n3_ n4_; (try clear hb); (try clear hb2); (try clear hk); (try clear hi); have hcz55_0 : w54.cell? ⟨gb365, 0, none⟩ = some (.slice A1_0 l1_0.length c1_0) := (blk_cell BK365.out 0).trans rfl; have hfz55_0 := blk_frozen BK365.out 0; obtain ⟨Ao56, co56, eo56⟩ := Kd.R_slice HO_11.out; subst eo56) | ((with_reducible refine gate_callee (f := 99) rfl ?_); refine goesL_ (some 79) rfl rfl Try.func99 (by kernel_rfl) rfl #[.agg #[.slice A1_0 l1_0.length c1_0], .slice Ao56 t378.length co56, .int .i64 x14_4] rfl (by (try simp only [List.map_toArray, List.map_cons, List.map_nil]); first | done | rfl | (simp only [List.length_drop, List.length_take]; rfl)) ?_; (with_reducible refine (spec_l09Move.calls kj38 _ _ l1_0 _ _ t378 x14_4 t384 _ ?side1 ?side2 ?side3 ?side4 A48.out).mono ?_); (case side1 => repeat (first | exact (Kd.C_below HR1_0.out HB.out) | (with_reducible refine Kd.C_alloc ?_ _) | (with_reducible refine Kd.C_drewN ?_ _) | (with_reducible refine Kd.C_drew ?_))); (case side2 => exact HC1_0.out); (case side3 => repeat (first | exact (Kd.R_reads' HO_11.out).2.2 | (with_reducible refine Kd.C_alloc ?_ _) | (with_reducible refine Kd.C_drewN ?_ _) | (with_reducible refine Kd.C_drew ?_))); (case side4 => exact (Kd.R_reads' HO_11.out).2.1); rintro e w57 ⟨rfl, hb⟩; refine ⟨_, rfl, ?_⟩; have n0_ := Aside0.mk (Kd.R_below (by (with_reducible repeat (first | apply Kd.R_alloc | apply Kd.R_drewN | apply Kd.R_drew)); exact HO_5.out) hb); have n1_ := Aside0.mk (Kd.R_below (by (with_reducible repeat (first | apply Kd.R_alloc | apply Kd.R_drewN | apply Kd.R_drew)); exact HO_11.out) hb); have n2_ := Aside0.mk (blk_below (g := gb364) (o := .cells #[.int .i64 a0_0, .int .i64 a0_1] 42 (0, 0)) (by (with_reducible repeat (first | refine blk_drewN ?_ _ | refine blk_drew ?_ | refine blk_alloc ?_ _)); exact BK364.out) hb); have n3_ := Aside0.mk (blk_below (g := gb365) (o := .cells #[.slice A1_0 l1_0.length c1_0] 67 (0, 0)) (by (with_reducible repeat (first | refine blk_drewN ?_ _ | refine blk_drew ?_ | refine blk_alloc ?_ _)); exact BK365.out) hb); have n4_ := Aside0.mk (below_step (by repeat (first | (with_reducible first | exact HB.out | apply below_alloc | apply pw_below_drewN | apply below_drew1 | refine below_set ?_ GE364.out | refine below_set ?_ GE365.out) | exact HB.out)) hb); clear HO_5; clear HO_11; clear BK364; clear BK365; clear HB; have HO_5 := n0_; have HO_11 := n1_; have BK364 := n2_; have BK365 := n3_; have HB := n4_; clear n0_ n1_ n2_ n3_ n4_; (try clear hb); (try clear hb2); (try clear hk); (try clear hi); have p385 : 0 ≤ (t384 : Int) := of_decide_eq_true (by first | (with_reducible assumption) | assumption); have q385 : t384 < (x5_3.length : Int) := of_decide_eq_true (by first | (with_reducible assumption) | assumption); obtain ⟨ad385, e385, hx385_0⟩ := Kd.at_bool (Kd.R_reads' HO_5.out).2.2 t384 p385 q385; (try rw [← Nbq33.out] at hx385_0); obtain rfl : ad377 = ad385 := (by injection e385); replace p385 := eq_true p385; replace q385 := eq_true q385))
                                                go_roundg kj38
                                                case measure => have := HK1.out; have := HK2.out; have := HK3.out; have := HK4.out; have := HJ38.out; omega
                                                case rel => exact ⟨(rdOf false x5_3 t384), (wrap64 (x14_4 + 1)), (by first | rfl | (simp; done) | (simp [*]; done)), (by first | rfl | (simp; done) | (simp [*]; done)), H', ⟨by have := HK1.out; have := HK2.out; have := HK3.out; have := HK4.out; have := HJ38.out; omega⟩, ⟨by (try simp only [hl5_1]); (try simp only [hl5_2]); (try simp only [hl5_3]); (with_reducible repeat (first | apply Kd.R_alloc | apply Kd.R_drewN | apply Kd.R_drew)); exact HO_5.out⟩, ⟨by (try simp only [hl5_1]); (try simp only [hl5_2]); (try simp only [hl5_3]); (with_reducible repeat (first | apply Kd.R_alloc | apply Kd.R_drewN | apply Kd.R_drew)); exact HO_11.out⟩, ⟨by (try simp only [hl5_1]); (try simp only [hl5_2]); (try simp only [hl5_3]); (with_reducible repeat (first | refine blk_drewN ?_ _ | refine blk_drew ?_ | refine blk_alloc ?_ _)); exact BK364.out⟩, ⟨by (try simp only [hl5_1]); (try simp only [hl5_2]); (try simp only [hl5_3]); (with_reducible repeat (first | refine blk_drewN ?_ _ | refine blk_drew ?_ | refine blk_alloc ?_ _)); exact BK365.out⟩, ⟨by repeat (first | (with_reducible first | exact HB.out | apply below_alloc | apply pw_below_drewN | apply below_drew1 | refine below_set ?_ GE364.out | refine below_set ?_ GE365.out) | exact HB.out)⟩⟩
                                              · rw [if_neg c51] at H
                                                exact absurd H (by simp)
                                            · rw [if_neg c50] at H
                                              exact absurd H (by simp)
                                          · rw [if_neg c49] at H
                                            have c49b0 : decide (0 ≤ t384) = false := decide_eq_false c49
                                            clear c49
                                            have H' := Aside0.mk H
                                            clear H
                                            have hnb58 := NB364_365.out
                                            have hnc58 := NB365_364.out
                                            have hcz59_0 : wc.cell? ⟨gb364, 0, none⟩ = some (.int .i64 a0_0) := (blk_cell BK364.out 0).trans rfl
                                            have hcz59_1 : wc.cell? ⟨gb364, 1, none⟩ = some (.int .i64 a0_1) := (blk_cell BK364.out 1).trans rfl
                                            have hfz59_0 := blk_frozen BK364.out 0
                                            have hfz59_1 := blk_frozen BK364.out 1
                                            go_wp2_with (first | ((with_reducible refine gate_callee (f := 98) rfl ?_); refine goesL_ (some 75) rfl rfl Try.func98 (by kernel_rfl) rfl #[.agg #[.int .i64 a0_0, .int .i64 a0_1], .int .i64 t381, .int .i64 x14_4] rfl (by (try simp only [List.map_toArray, List.map_cons, List.map_nil]); first | done | rfl | (simp only [List.length_drop, List.length_take]; rfl)) ?_; (with_reducible refine (spec_l09Near.calls a0_0 a0_1 t381 x14_4 true _ A46.out).mono ?_); rintro e w60 ⟨rfl, hb⟩; refine ⟨_, rfl, ?_⟩; have n0_ := Aside0.mk (Kd.R_below (by (with_reducible repeat (first | apply Kd.R_alloc | apply Kd.R_drewN | apply Kd.R_drew)); exact HO_5.out) hb); have n1_ := Aside0.mk (Kd.R_below (by (with_reducible repeat (first | apply Kd.R_alloc | apply Kd.R_drewN | apply Kd.R_drew)); exact HO_11.out) hb); have n2_ := Aside0.mk (blk_below (g := gb364) (o := .cells #[.int .i64 a0_0, .int .i64 a0_1] 42 (0, 0)) (by (with_reducible repeat (first | refine blk_drewN ?_ _ | refine blk_drew ?_ | refine blk_alloc ?_ _)); exact BK364.out) hb); have n3_ := Aside0.mk (blk_below (g := gb365) (o := .cells #[.slice A1_0 l1_0.length c1_0] 67 (0, 0)) (by (with_reducible repeat (first | refine blk_drewN ?_ _ | refine blk_drew ?_ | refine blk_alloc ?_ _)); exact BK365.out) hb); have n4_ := Aside0.mk (below_step (by repeat (first | (with_reducible first | exact HB.out | apply below_alloc | apply pw_below_drewN | apply below_drew1 | refine below_set ?_ GE364.out | refine below_set ?_ GE365.out) | exact HB.out)) hb); clear HO_5; clear HO_11; clear BK364; clear BK365; clear HB; have HO_5 := n0_; have HO_11 := n1_; have BK364 := n2_; have BK365 := n3_; have HB := n4_; clear n0_ n1_ n2_ n3_ n4_; (try clear hb); (try clear hb2); (try clear hk); (try clear hi); have hcz61_0 : w60.cell? ⟨gb365, 0, none⟩ = some (.slice A1_0 l1_0.length c1_0) := (blk_cell BK365.out 0).trans rfl; have hfz61_0 := blk_frozen BK365.out 0; obtain ⟨Ao62, co62, eo62⟩ := Kd.R_slice HO_11.out; subst eo62) | ((with_reducible refine gate_callee (f := 99) rfl ?_); refine goesL_ (some 79) rfl rfl Try.func99 (by kernel_rfl) rfl #[.agg #[.slice A1_0 l1_0.length c1_0], .slice Ao62 t378.length co62, .int .i64 x14_4] rfl (by (try simp only [List.map_toArray, List.map_cons, List.map_nil]); first | done | rfl | (simp only [List.length_drop, List.length_take]; rfl)) ?_; (with_reducible refine (spec_l09Move.calls kj38 _ _ l1_0 _ _ t378 x14_4 t384 _ ?side1 ?side2 ?side3 ?side4 A48.out).mono ?_); (case side1 => repeat (first | exact (Kd.C_below HR1_0.out HB.out) | (with_reducible refine Kd.C_alloc ?_ _) | (with_reducible refine Kd.C_drewN ?_ _) | (with_reducible refine Kd.C_drew ?_))); (case side2 => exact HC1_0.out); (case side3 => repeat (first | exact (Kd.R_reads' HO_11.out).2.2 | (with_reducible refine Kd.C_alloc ?_ _) | (with_reducible refine Kd.C_drewN ?_ _) | (with_reducible refine Kd.C_drew ?_))); (case side4 => exact (Kd.R_reads' HO_11.out).2.1); rintro e w63 ⟨rfl, hb⟩; refine ⟨_, rfl, ?_⟩; have n0_ := Aside0.mk (Kd.R_below (by (with_reducible repeat (first | apply Kd.R_alloc | apply Kd.R_drewN | apply Kd.R_drew)); exact HO_5.out) hb); have n1_ := Aside0.mk (Kd.R_below (by (with_reducible repeat (first | apply Kd.R_alloc | apply Kd.R_drewN | apply Kd.R_drew)); exact HO_11.out) hb); have n2_ := Aside0.mk (blk_below (g := gb364) (o := .cells #[.int .i64 a0_0, .int .i64 a0_1] 42 (0, 0)) (by (with_reducible repeat (first | refine blk_drewN ?_ _ | refine blk_drew ?_ | refine blk_alloc ?_ _)); exact BK364.out) hb); have n3_ := Aside0.mk (blk_below (g := gb365) (o := .cells #[.slice A1_0 l1_0.length c1_0] 67 (0, 0)) (by (with_reducible repeat (first | refine blk_drewN ?_ _ | refine blk_drew ?_ | refine blk_alloc ?_ _)); exact BK365.out) hb); have n4_ := Aside0.mk (below_step (by repeat (first | (with_reducible first | exact HB.out | apply below_alloc | apply pw_below_drewN | apply below_drew1 | refine below_set ?_ GE364.out | refine below_set ?_ GE365.out) | exact HB.out)) hb); clear HO_5; clear HO_11; clear BK364; clear BK365; clear HB; have HO_5 := n0_; have HO_11 := n1_; have BK364 := n2_; have BK365 := n3_; have HB := n4_; clear n0_ n1_ n2_ n3_ n4_; (try clear hb); (try clear hb2); (try clear hk); (try clear hi)))
                                            go_roundg kj38
                                            case measure => have := HK1.out; have := HK2.out; have := HK3.out; have := HK4.out; have := HJ38.out; omega
                                            case rel => exact ⟨(false), (wrap64 (x14_4 + 1)), (by first | rfl | (simp; done) | (simp [*]; done)), (by first | rfl | (simp; done) | (simp [*]; done)), H', ⟨by have := HK1.out; have := HK2.out; have := HK3.out; have := HK4.out; have := HJ38.out; omega⟩, ⟨by (try simp only [hl5_1]); (try simp only [hl5_2]); (try simp only [hl5_3]); (with_reducible repeat (first | apply Kd.R_alloc | apply Kd.R_drewN | apply Kd.R_drew)); exact HO_5.out⟩, ⟨by (try simp only [hl5_1]); (try simp only [hl5_2]); (try simp only [hl5_3]); (with_reducible repeat (first | apply Kd.R_alloc | apply Kd.R_drewN | apply Kd.R_drew)); exact HO_11.out⟩, ⟨by (try simp only [hl5_1]); (try simp only [hl5_2]); (try simp only [hl5_3]); (with_reducible repeat (first | refine blk_drewN ?_ _ | refine blk_drew ?_ | refine blk_alloc ?_ _)); exact BK364.out⟩, ⟨by (try simp only [hl5_1]); (try simp only [hl5_2]); (try simp only [hl5_3]); (with_reducible repeat (first | refine blk_drewN ?_ _ | refine blk_drew ?_ | refine blk_alloc ?_ _)); exact BK365.out⟩, ⟨by repeat (first | (with_reducible first | exact HB.out | apply below_alloc | apply pw_below_drewN | apply below_drew1 | refine below_set ?_ GE364.out | refine below_set ?_ GE365.out) | exact HB.out)⟩⟩
                                        · replace c47 := Bool.eq_false_iff.mpr c47
                                          subst c47
                                          have H1 : (spec_l09Safe.l3 kj38 x5_3 x9_3 x48_3 t378 t381 x13_4 (wrap64 (x14_4 + 1)) (x5_2.length : Int) x48_3 a0_0 a0_1 l1_0) = some r := by rw [if_neg (show ¬ (false = true) by decide)] at H; exact H
                                          clear H
                                          have H := H1
                                          clear H1
                                          have H' := Aside0.mk H
                                          clear H
                                          have hnb64 := NB364_365.out
                                          have hnc64 := NB365_364.out
                                          have hcz65_0 : wc.cell? ⟨gb364, 0, none⟩ = some (.int .i64 a0_0) := (blk_cell BK364.out 0).trans rfl
                                          have hcz65_1 : wc.cell? ⟨gb364, 1, none⟩ = some (.int .i64 a0_1) := (blk_cell BK364.out 1).trans rfl
                                          have hfz65_0 := blk_frozen BK364.out 0
                                          have hfz65_1 := blk_frozen BK364.out 1
                                          go_wp2_with (first | ((with_reducible refine gate_callee (f := 98) rfl ?_); refine goesL_ (some 75) rfl rfl Try.func98 (by kernel_rfl) rfl #[.agg #[.int .i64 a0_0, .int .i64 a0_1], .int .i64 t381, .int .i64 x14_4] rfl (by (try simp only [List.map_toArray, List.map_cons, List.map_nil]); first | done | rfl | (simp only [List.length_drop, List.length_take]; rfl)) ?_; (with_reducible refine (spec_l09Near.calls a0_0 a0_1 t381 x14_4 false _ A46.out).mono ?_); rintro e w66 ⟨rfl, hb⟩; refine ⟨_, rfl, ?_⟩; have n0_ := Aside0.mk (Kd.R_below (by (with_reducible repeat (first | apply Kd.R_alloc | apply Kd.R_drewN | apply Kd.R_drew)); exact HO_5.out) hb); have n1_ := Aside0.mk (Kd.R_below (by (with_reducible repeat (first | apply Kd.R_alloc | apply Kd.R_drewN | apply Kd.R_drew)); exact HO_11.out) hb); have n2_ := Aside0.mk (blk_below (g := gb364) (o := .cells #[.int .i64 a0_0, .int .i64 a0_1] 42 (0, 0)) (by (with_reducible repeat (first | refine blk_drewN ?_ _ | refine blk_drew ?_ | refine blk_alloc ?_ _)); exact BK364.out) hb); have n3_ := Aside0.mk (blk_below (g := gb365) (o := .cells #[.slice A1_0 l1_0.length c1_0] 67 (0, 0)) (by (with_reducible repeat (first | refine blk_drewN ?_ _ | refine blk_drew ?_ | refine blk_alloc ?_ _)); exact BK365.out) hb); have n4_ := Aside0.mk (below_step (by repeat (first | (with_reducible first | exact HB.out | apply below_alloc | apply pw_below_drewN | apply below_drew1 | refine below_set ?_ GE364.out | refine below_set ?_ GE365.out) | exact HB.out)) hb); clear HO_5; clear HO_11; clear BK364; clear BK365; clear HB; have HO_5 := n0_; have HO_11 := n1_; have BK364 := n2_; have BK365 := n3_; have HB := n4_; clear n0_ n1_ n2_ n3_ n4_; (try clear hb); (try clear hb2); (try clear hk); (try clear hi)))
                                          go_roundg kj38
                                          case measure => have := HK1.out; have := HK2.out; have := HK3.out; have := HK4.out; have := HJ38.out; omega
                                          case rel => exact ⟨(x13_4), (wrap64 (x14_4 + 1)), (by first | rfl | (simp; done) | (simp [*]; done)), (by first | rfl | (simp; done) | (simp [*]; done)), H', ⟨by have := HK1.out; have := HK2.out; have := HK3.out; have := HK4.out; have := HJ38.out; omega⟩, ⟨by (try simp only [hl5_1]); (try simp only [hl5_2]); (try simp only [hl5_3]); (with_reducible repeat (first | apply Kd.R_alloc | apply Kd.R_drewN | apply Kd.R_drew)); exact HO_5.out⟩, ⟨by (try simp only [hl5_1]); (try simp only [hl5_2]); (try simp only [hl5_3]); (with_reducible repeat (first | apply Kd.R_alloc | apply Kd.R_drewN | apply Kd.R_drew)); exact HO_11.out⟩, ⟨by (try simp only [hl5_1]); (try simp only [hl5_2]); (try simp only [hl5_3]); (with_reducible repeat (first | refine blk_drewN ?_ _ | refine blk_drew ?_ | refine blk_alloc ?_ _)); exact BK364.out⟩, ⟨by (try simp only [hl5_1]); (try simp only [hl5_2]); (try simp only [hl5_3]); (with_reducible repeat (first | refine blk_drewN ?_ _ | refine blk_drew ?_ | refine blk_alloc ?_ _)); exact BK365.out⟩, ⟨by repeat (first | (with_reducible first | exact HB.out | apply below_alloc | apply pw_below_drewN | apply below_drew1 | refine below_set ?_ GE364.out | refine below_set ?_ GE365.out) | exact HB.out)⟩⟩
                                      · replace c45 := Bool.eq_false_iff.mpr c45
                                        subst c45
                                        have H1 : (if x13_4 = true then (spec_l09Safe.l2 kj38 x5_3 x9_3 (x5_2.length : Int) (wrap64 (x48_3 + 1)) a0_0 a0_1 l1_0) else (if 0 ≤ x48_3 then (if x48_3 < (x5_3.length : Int) then (spec_l09Safe.l2 kj38 (x5_3.set (x48_3 : Int).toNat false) true (x5_2.length : Int) (wrap64 (x48_3 + 1)) a0_0 a0_1 l1_0) else (none)) else (none))) = some r := by rw [if_neg (show ¬ (false = true) by decide)] at H; exact H
                                        clear H
                                        have H := H1
                                        clear H1
                                        by_cases c67 : x13_4 = true
                                        · subst c67
                                          have H1 : (spec_l09Safe.l2 kj38 x5_3 x9_3 (x5_2.length : Int) (wrap64 (x48_3 + 1)) a0_0 a0_1 l1_0) = some r := by rw [if_pos rfl] at H; exact H
                                          clear H
                                          have H := H1
                                          clear H1
                                          have H' := Aside0.mk H
                                          clear H
                                          go_wp2
                                          (try simp only [← hl5_3])
                                          go_roundg kj38
                                          case measure => have := HK1.out; have := HK2.out; have := HK3.out; have := HK4.out; have := HJ38.out; omega
                                          case rel => exact ⟨(x5_3), (x9_3), (wrap64 (x48_3 + 1)), (by first | rfl | (simp; done) | (simp [*]; done)), (by first | rfl | (simp; done) | (simp [*]; done)), H', ⟨by have := HK1.out; have := HK2.out; have := HK3.out; have := HK4.out; have := HJ38.out; omega⟩, ⟨by (try simp only [hl5_1]); (try simp only [hl5_2]); (try simp only [hl5_3]); (with_reducible repeat (first | apply Kd.R_alloc | apply Kd.R_drewN | apply Kd.R_drew)); exact HO_5.out⟩, ⟨by (try simp only [hl5_1]); (try simp only [hl5_2]); (try simp only [hl5_3]); (with_reducible repeat (first | refine blk_drewN ?_ _ | refine blk_drew ?_ | refine blk_alloc ?_ _)); exact BK364.out⟩, ⟨by (try simp only [hl5_1]); (try simp only [hl5_2]); (try simp only [hl5_3]); (with_reducible repeat (first | refine blk_drewN ?_ _ | refine blk_drew ?_ | refine blk_alloc ?_ _)); exact BK365.out⟩, ⟨by repeat (first | (with_reducible first | exact HB.out | apply below_alloc | apply pw_below_drewN | apply below_drew1 | refine below_set ?_ GE364.out | refine below_set ?_ GE365.out) | exact HB.out)⟩⟩
                                        · replace c67 := Bool.eq_false_iff.mpr c67
                                          subst c67
                                          have H1 : (if 0 ≤ x48_3 then (if x48_3 < (x5_3.length : Int) then (spec_l09Safe.l2 kj38 (x5_3.set (x48_3 : Int).toNat false) true (x5_2.length : Int) (wrap64 (x48_3 + 1)) a0_0 a0_1 l1_0) else (none)) else (none)) = some r := by rw [if_neg (show ¬ (false = true) by decide)] at H; exact H
                                          clear H
                                          have H := H1
                                          clear H1
                                          by_cases c68 : 0 ≤ x48_3
                                          · rw [if_pos c68] at H
                                            have c68b0 : decide (0 ≤ x48_3) = true := decide_eq_true c68
                                            clear c68
                                            by_cases c69 : x48_3 < (x5_3.length : Int)
                                            · rw [if_pos c69] at H
                                              have c69b0 : decide (x48_3 < (x5_3.length : Int)) = true := decide_eq_true c69
                                              (try rw [hl5_1] at c69b0)
                                              (try rw [hl5_2] at c69b0)
                                              (try rw [hl5_3] at c69b0)
                                              clear c69
                                              obtain ⟨y382, hy382⟩ : ∃ y_ : List Bool, y_ = (x5_3.set (x48_3 : Int).toNat false) := ⟨_, rfl⟩
                                              replace H : (spec_l09Safe.l2 kj38 y382 true (x5_2.length : Int) (wrap64 (x48_3 + 1)) a0_0 a0_1 l1_0) = some r := by first | (rw [hy382]; with_reducible exact H) | (have H2_ := (Option.bind_some _ _).symm.trans H; rw [hy382]; with_reducible exact H2_) | (have H2_ := (Option.bind_some _ _).symm.trans H; with_reducible exact H2_) | with_reducible exact H | (rw [hy382]; exact H) | exact H
                                              have Ny382 := Aside0.mk hy382
                                              clear hy382
                                              have H' := Aside0.mk H
                                              clear H
                                              have p70 : 0 ≤ (x48_3 : Int) := of_decide_eq_true (by first | (with_reducible assumption) | assumption)
                                              have q70 : (x48_3 : Int) < ((x5_3.length : Int) : Int) := of_decide_eq_true (by first | (with_reducible assumption) | assumption)
                                              obtain ⟨go70, co70, eo70, gb70, gl70, cl70, HG70⟩ := Kd.R_form HO_5.out (by omega)
                                              (first | cases eo70 | (injection eo70 with ea_ en_ ec_; (first | subst ea_ | (injection ea_ with ea_; subst ea_)); subst ec_; clear en_))
                                              have GB70 := Aside0.mk gb70
                                              have GG70 := Aside0.mk HG70
                                              clear gb70 gl70 HG70
                                              (first | simp only [add_plain] at hx377_0 | skip)
                                              (first | simp only [add_plain] at hx385_0 | skip)
                                              obtain ⟨hx70_0, hf70_0⟩ := Kd.R_celln false HO_5.out (x48_3 : Int) p70 q70
                                              replace p70 := eq_true p70
                                              replace q70 := eq_true q70
                                              have HP71 := Kd.R_putg HO_5.out (x48_3 : Int) false
                                              go_wp2_with (first | ((with_reducible refine gate_store (t := 4) (p := 92) rfl ?_); refine store_event (t := 4) (p := 92) (v := ?vo_w72) (w1 := (wc.setCell ⟨go70, (x48_3 : Int).toNat, none⟩ (.bool false))) ?hg ?ho ?hn ?hr ?_; (case ho => rfl); (case hg => rfl); (case hn => rfl); (case hr => first | (go_simp; done) | (go_simp; rfl)); intro w72 hw; have hg : wc.grownBy w72 (some go70) := (by rw [hw]; exact HP71.2); have hp_ : Kd.R Kd.bool 4 w72 w.heap.size (fun _ => True) (.slice (some ⟨go70, 0, none⟩) x5_3.length co14) y382 := (by rw [hw, Ny382.out]; exact HP71.1); clear HP71; have n0_ := Aside0.mk (hp_); have n1_ := Aside0.mk (Kd.R_over' (v := (.slice (some ⟨go70, 0, none⟩) x5_3.length co14)) (by (with_reducible repeat (first | apply Kd.R_alloc | apply Kd.R_drewN | apply Kd.R_drew)); exact HO_11.out) (Kd.R_typed HO_5.out) (by decide) hg); have n2_ := Aside0.mk (blk_grown (g := gb364) (o := .cells #[.int .i64 a0_0, .int .i64 a0_1] 42 (0, 0)) (by (with_reducible repeat (first | refine blk_drewN ?_ _ | refine blk_drew ?_ | refine blk_alloc ?_ _)); exact BK364.out) hg (Kd.R_ne HO_5.out BK364.out (by decide))); have n3_ := Aside0.mk (blk_grown (g := gb365) (o := .cells #[.slice A1_0 l1_0.length c1_0] 67 (0, 0)) (by (with_reducible repeat (first | refine blk_drewN ?_ _ | refine blk_drew ?_ | refine blk_alloc ?_ _)); exact BK365.out) hg (Kd.R_ne HO_5.out BK365.out (by decide))); have n4_ := Aside0.mk ((by rw [hw]; exact below_set (HB.out) GB70.out : Below w.heap.size w w72)); clear HO_5; clear HO_11; clear BK364; clear BK365; clear HB; have HO_5 := n0_; have HO_11 := n1_; have BK364 := n2_; have BK365 := n3_; have HB := n4_; clear n0_ n1_ n2_ n3_ n4_; clear hg hw hp_))
                                              (try simp only [← hl5_3])
                                              go_roundg kj38
                                              case measure => have := HK1.out; have := HK2.out; have := HK3.out; have := HK4.out; have := HJ38.out; omega
                                              case rel => exact ⟨(y382), (true), (wrap64 (x48_3 + 1)), (by first | rfl | (simp; done) | (simp [*]; done)), (by first | rfl | (simp; done) | (simp [*]; done)), H', ⟨by have := HK1.out; have := HK2.out; have := HK3.out; have := HK4.out; have := HJ38.out; omega⟩, ⟨by (try simp only [hl5_1]); (try simp only [hl5_2]); (try simp only [hl5_3]); (with_reducible repeat (first | apply Kd.R_alloc | apply Kd.R_drewN | apply Kd.R_drew)); exact HO_5.out⟩, ⟨by (try simp only [hl5_1]); (try simp only [hl5_2]); (try simp only [hl5_3]); (with_reducible repeat (first | refine blk_drewN ?_ _ | refine blk_drew ?_ | refine blk_alloc ?_ _)); exact BK364.out⟩, ⟨by (try simp only [hl5_1]); (try simp only [hl5_2]); (try simp only [hl5_3]); (with_reducible repeat (first | refine blk_drewN ?_ _ | refine blk_drew ?_ | refine blk_alloc ?_ _)); exact BK365.out⟩, ⟨by repeat (first | (with_reducible first | exact HB.out | apply below_alloc | apply pw_below_drewN | apply below_drew1 | refine below_set ?_ GE364.out | refine below_set ?_ GE365.out) | exact HB.out)⟩⟩
                                            · rw [if_neg c69] at H
                                              exact absurd H (by simp)
                                          · rw [if_neg c68] at H
                                            exact absurd H (by simp)
                            · replace c34 := Bool.eq_false_iff.mpr c34
                              subst c34
                              have H1 : (spec_l09Safe.l2 k3 x5_3 x9_3 (x5_2.length : Int) (wrap64 (x48_3 + 1)) a0_0 a0_1 l1_0) = some r := by rw [if_neg (show ¬ (false = true) by decide)] at H; exact H
                              clear H
                              have H := H1
                              clear H1
                              have H' := Aside0.mk H
                              clear H
                              have p377 : 0 ≤ (x48_3 : Int) := of_decide_eq_true (by first | (with_reducible assumption) | assumption)
                              have q377 : x48_3 < (x5_3.length : Int) := of_decide_eq_true (by first | (with_reducible assumption) | assumption)
                              obtain ⟨ad377, e377, hx377_0⟩ := Kd.at_bool (Kd.R_reads' HO_5.out).2.2 x48_3 p377 q377
                              (try rw [← Nbq33.out] at hx377_0)
                              cases e377
                              replace p377 := eq_true p377
                              replace q377 := eq_true q377
                              go_wp2
                              (try simp only [← hl5_3])
                              go_roundg k3
                              case measure => have := HK1.out; have := HK2.out; have := HK3.out; omega
                              case rel => exact ⟨(x5_3), (x9_3), (wrap64 (x48_3 + 1)), (by first | rfl | (simp; done) | (simp [*]; done)), (by first | rfl | (simp; done) | (simp [*]; done)), H', ⟨by have := HK1.out; have := HK2.out; have := HK3.out; omega⟩, ⟨by (try simp only [hl5_1]); (try simp only [hl5_2]); (try simp only [hl5_3]); (with_reducible repeat (first | apply Kd.R_alloc | apply Kd.R_drewN | apply Kd.R_drew)); exact HO_5.out⟩, ⟨by (try simp only [hl5_1]); (try simp only [hl5_2]); (try simp only [hl5_3]); (with_reducible repeat (first | refine blk_drewN ?_ _ | refine blk_drew ?_ | refine blk_alloc ?_ _)); exact BK364.out⟩, ⟨by (try simp only [hl5_1]); (try simp only [hl5_2]); (try simp only [hl5_3]); (with_reducible repeat (first | refine blk_drewN ?_ _ | refine blk_drew ?_ | refine blk_alloc ?_ _)); exact BK365.out⟩, ⟨by repeat (first | (with_reducible first | exact HB.out | apply below_alloc | apply pw_below_drewN | apply below_drew1 | refine below_set ?_ GE364.out | refine below_set ?_ GE365.out) | exact HB.out)⟩⟩
                          · rw [if_neg c32] at H
                            exact absurd H (by simp)
                        · rw [if_neg c31] at H
                          exact absurd H (by simp)
                      · rw [if_neg c30] at H
                        have c30b0 : decide (x48_3 < (x5_2.length : Int)) = false := decide_eq_false c30
                        (try rw [hl5_1] at c30b0)
                        (try rw [hl5_2] at c30b0)
                        (try rw [hl5_3] at c30b0)
                        clear c30
                        have H' := Aside0.mk H
                        clear H
                        go_wp2
                        (try simp only [← hl5_2, ← hl5_3])
                        go_roundg k3
                        case measure => have := HK1.out; have := HK2.out; have := HK3.out; omega
                        case rel => exact ⟨(x5_3), (x9_3), (by first | rfl | (simp; done) | (simp [*]; done)), H', ⟨by have := HK1.out; have := HK2.out; have := HK3.out; omega⟩, ⟨by (try simp only [hl5_1]); (try simp only [hl5_2]); (try simp only [hl5_3]); (with_reducible repeat (first | apply Kd.R_alloc | apply Kd.R_drewN | apply Kd.R_drew)); exact HO_5.out⟩, ⟨by (try simp only [hl5_1]); (try simp only [hl5_2]); (try simp only [hl5_3]); (with_reducible repeat (first | refine blk_drewN ?_ _ | refine blk_drew ?_ | refine blk_alloc ?_ _)); exact BK364.out⟩, ⟨by (try simp only [hl5_1]); (try simp only [hl5_2]); (try simp only [hl5_3]); (with_reducible repeat (first | refine blk_drewN ?_ _ | refine blk_drew ?_ | refine blk_alloc ?_ _)); exact BK365.out⟩, ⟨by repeat (first | (with_reducible first | exact HB.out | apply below_alloc | apply pw_below_drewN | apply below_drew1 | refine below_set ?_ GE364.out | refine below_set ?_ GE365.out) | exact HB.out)⟩⟩
                · replace c29 := Bool.eq_false_iff.mpr c29
                  subst c29
                  have H1 : (some x5_2) = some r := by rw [if_neg (show ¬ (false = true) by decide)] at H; exact H
                  clear H
                  have H := H1
                  clear H1
                  obtain rfl := Option.some.inj H
                  go_wp2
                  go_ret
                  exact ⟨_, by first | rfl | (simp [errW_none, errW_some] <;> rfl) | (simp [*, errW_none, errW_some] <;> rfl), by (with_reducible repeat (first | apply Kd.R_alloc | apply Kd.R_drewN | apply Kd.R_drew)); exact HO_5.out, by repeat (first | (with_reducible first | exact HB.out | apply below_alloc | apply pw_below_drewN | apply below_drew1 | refine below_set ?_ GE364.out | refine below_set ?_ GE365.out) | exact HB.out)⟩
    · rw [if_neg c5] at H
      exact absurd H (by simp)
  · rw [if_neg c4] at H
    exact absurd H (by simp)

end Go.Proofs.Ytoakdilhljnjfaa.Q
/- Plain laws of watchers' states: the reference's move and its search for a good one. -/
namespace Go.Proofs.Ytoakdilhljnjfaa.Pure
open Go.RowKit Go.Proofs.Ytoakdilhljnjfaa.Q Go.Proofs.YtoakdilhljnjfaaW.PrintWords Go.Proofs.YtoakdilhljnjfaaW.PrintLast Go.Proofs.YtoakdilhljnjfaaW.PrintMore
set_option linter.unusedVariables false
set_option linter.unusedSimpArgs false

theorem spec_number_l {P : Int} {gaps ls : List Int} (h : WOk P gaps) (hs : OkS gaps ls) (a : Int) (ha : 0 ≤ a ∧ a < P) (d : Nat) : ∀ (q : Nat) (n B : Int), q + d = gaps.length → (0 ≤ n ∧ n < B) → B * prodG (gaps.drop q) = prodG gaps → numFrom n (gaps.drop q) (ls.drop q) = numFrom 0 gaps ls → Ev (fun k => spec_l09Number.l0 k ls a n (ls.length : Int) q gaps) (numFrom 0 gaps ls * P + a) := by
  have hlen := hs.length
  have hg := h.hg
  have h6 := h.h6
  induction d with
  | zero =>
    intro q n B hq hn hB he
    refine Ev.step (fun k => by rw [spec_l09Number.l0]) ?_
    refine Ev.neg (by omega) (Ev.bindc (a := (gaps.length : Int)) rfl ?_)
    obtain ⟨b1, b2, b3, b4⟩ := num_bound h hs ha
    have hm := h.hm
    rw [List.drop_of_length_le (by omega), numFrom] at he
    · rw [he, ← h.hp, wrap64_id (x := numFrom 0 gaps ls * P) (by omega) (by omega), wrap64_id (x := numFrom 0 gaps ls * P + a) (by omega) (by omega)]
      exact Ev.now _
    · intros; rename_i h _; cases h
  | succ d ih =>
    intro q n B hq hn hB he
    have hx := hs.at q (by omega)
    have h4 := prodG_8 hg (by omega)
    have hd : 1 ≤ prodG (gaps.drop (q + 1)) := prodG_pos (fun x hx => hg x (List.mem_of_mem_drop hx))
    rw [drop_cons gaps q (by omega), prodG, ← Int.mul_assoc] at hB
    rw [drop_cons gaps q (by omega), drop_cons ls q (by omega), numFrom] at he
    obtain ⟨s1, s2⟩ := numFrom_step hn hx
    have h3 : B * rd gaps q ≤ prodG gaps := by
      rw [← hB]
      have := Int.mul_le_mul_of_nonneg_left hd (show 0 ≤ B * rd gaps q by omega)
      omega
    have hm := hg _ (rd_memP gaps q (by omega))
    have h5 : 0 ≤ n * rd gaps q := Int.mul_nonneg hn.1 (by omega)
    refine Ev.step (fun k => by rw [spec_l09Number.l0]) ?_
    refine Ev.pos (by omega) (Ev.pos (by omega) (Ev.pos (by omega) (Ev.pos (by omega) ?_)))
    rw [wrap64_id (x := n * rd gaps q) (by omega) (by omega), wrap64_id (x := n * rd gaps q + rd ls q) (by omega) (by omega), wrap64_id (x := n * rd gaps q + rd ls q - 1) (by omega) (by omega), wrap64_id (by omega) (by omega)]
    simpa using ih (q + 1) _ _ (by omega) ⟨s1, s2⟩ hB he
theorem spec_number_ev {P : Int} {gaps ls : List Int} (h : WOk P gaps) (hs : OkS gaps ls) (a : Int) (ha : 0 ≤ a ∧ a < P) : Ev (fun k => spec_l09Number.f k gaps ls a) (numFrom 0 gaps ls * P + a) := by
  unfold spec_l09Number.f
  simpa using spec_number_l h hs a ha gaps.length 0 0 1 (by omega) ⟨by omega, by omega⟩ (by simp) (by simp)

def movRes (P c : Int) (gaps pre : List Int) : Option (List Int) → Int
  | some r => numFrom 0 gaps (pre ++ r) * P + c
  | none => -1
theorem movRes_map (P c : Int) (gaps pre : List Int) (y : Int) (o : Option (List Int)) : movRes P c gaps pre (o.map (fun l => y :: l)) = movRes P c gaps (pre ++ [y]) o := by cases o <;> simp [movRes]
theorem OkS.append {us bs cs ds : List Int} (h : OkS us bs) (h' : OkS cs ds) : OkS (us ++ cs) (bs ++ ds) := by
  induction h with
  | nil => exact h'
  | cons hx _ ih => exact .cons hx ih
set_option maxHeartbeats 800000 in
theorem move_l {P : Int} {gaps : List Int} (h : WOk P gaps) (c : Int) (hc : 0 ≤ c ∧ c < P) : ∀ (gs ls gpre pre : List Int) (q : Nat), gaps = gpre ++ gs → gpre.length = q → OkS gpre pre → OkS gs ls → Ev (fun k => spec_l09Move.l0 k c (pre ++ ls) (gaps.length : Int) q gaps) (movRes P c gaps pre (stepFrom c q gs ls)) := by
  have hgs := h.hg
  have h6 := h.h6
  intro gs
  induction gs with
  | nil =>
    intro ls gpre pre q hgp hq hpr hs
    cases hs
    rw [List.append_nil] at hgp ⊢
    subst hgp
    refine Ev.step (fun k => by rw [spec_l09Move.l0]) ?_
    refine Ev.neg (by omega) ?_
    rw [stepFrom, movRes, List.append_nil]
    · exact Ev.bind (spec_number_ev h hpr c hc) (Ev.now _)
    · intros; rename_i h _; cases h
  | cons g gs ih =>
    intro ls gpre pre q hgp hq hpr hs
    cases hs with
    | cons hx ht =>
    rename_i x ls
    have hp : pre.length = q := by rw [hpr.length, hq]
    have hlen : gaps.length = q + 1 + gs.length := by rw [hgp]; simp; omega
    have hrg : rd gaps q = g := by rw [hgp]; exact rd_mid gpre gs g q hq
    have hrx : rd (pre ++ x :: ls) q = x := rd_mid pre ls x q hp
    have i0 : (0 : Int) ≤ (q : Int) := Int.natCast_nonneg _
    have i1 : (q : Int) < (gaps.length : Int) := by omega
    have i2 : (q : Int) < ((pre ++ x :: ls).length : Int) := by rw [List.length_append, List.length_cons]; omega
    have hw : wrap64 ((q : Int) + 1) = ((q + 1 : Nat) : Int) := by rw [wrap64_id (by omega) (by omega)]; omega
    have hb := hgs g (by rw [hgp]; simp)
    have hwx : wrap64 (x - 1) = x - 1 := wrap64_id (by omega) (by omega)
    clear hlen
    rw [stepFrom]
    refine Ev.step (fun k => by rw [spec_l09Move.l0]) ?_
    refine Ev.pos i1 (Ev.pos i0 (Ev.pos i2 ?_))
    rw [Int.toNat_natCast, hrx, hwx, set_mid pre ls x (x - 1) q hp]
    refine Ev.bindc rfl ?_
    by_cases hcq : (q : Int) = c
    · rw [if_pos hcq, movRes_map]
      refine Ev.pos hcq (Ev.pos i1 ?_)
      have e1 : ((pre ++ [x - 1]) ++ ls).set q g = (pre ++ [g]) ++ ls := by
        rw [List.append_assoc]; exact set_mid pre ls (x - 1) g q hp
      have e2 : rd ((pre ++ [g]) ++ ls) q = g := by rw [List.append_assoc]; exact rd_mid pre ls g q hp
      rw [hrg, e1]
      refine Ev.bindc rfl ?_
      rw [e2, hw]
      refine Ev.neg (by omega) ?_
      exact ih ls (gpre ++ [g]) (pre ++ [g]) (q + 1) (by simp [hgp]) (by simp [hq]) (hpr.append (.cons ⟨hb.1, Int.le_refl _⟩ .nil)) ht
    · rw [if_neg hcq]
      refine Ev.neg hcq ?_
      have e2 : rd ((pre ++ [x - 1]) ++ ls) q = x - 1 := by rw [List.append_assoc]; exact rd_mid pre ls (x - 1) q hp
      rw [e2, hw]
      by_cases h2 : x < 2
      · rw [if_pos h2]
        exact Ev.pos (by omega) (Ev.now _)
      · rw [if_neg h2, movRes_map]
        refine Ev.neg (by omega) ?_
        exact ih ls (gpre ++ [g]) (pre ++ [x - 1]) (q + 1) (by simp [hgp]) (by simp [hq]) (hpr.append (.cons (by omega) .nil)) ht
theorem move_ev {P : Int} {gaps st : List Int} (h : WOk P gaps) (hs : OkS gaps st) (c : Int) (hc : 0 ≤ c ∧ c < P) : Ev (fun k => spec_l09Move.f k gaps st c) (movRes P c gaps [] (stepFrom c 0 gaps st)) := by
  have hl := hs.length
  have h6 := h.h6
  unfold spec_l09Move.f
  refine Ev.bindc (a := st) (by unfold spec_l01Own.f; simp; omega) ?_
  rw [hl]
  simpa using move_l h c hc gaps st [] [] 0 rfl rfl .nil hs
end Go.Proofs.Ytoakdilhljnjfaa.Pure
