/- The program's BestTurns returns what the reference's returns, for all arguments. (Part 2 of 2.) No conditions beside those of the statement. -/
import Derived.Test.YtoakdilhljnjfaaCBT1
import Derived.Test.YtoakdilhljnjfaaRows
import Derived.WalkKit
import Derived.ProofKit
import Derived.OpenShut
import Derived.ShutString
import Derived.ChangeOld
import Derived.Below
import Derived.SizedLaws
import Derived.Test.YtoakdilhljnjfaaWSized
-- written by wip/tools/printx.py (this session's) out of the translation; Lean checks it
namespace Go.Proofs.Ytoakdilhljnjfaa.Q
open Go.RowKit Go.Proofs.YtoakdilhljnjfaaW.PrintWords Go.Proofs.YtoakdilhljnjfaaW.PrintLast Go.Proofs.YtoakdilhljnjfaaW.PrintMore
attribute [local go_sem] max2_int min2_int max_two min_two max_three min_three max_four min_four   -- for this text's walks alone
set_option linter.unusedVariables false
set_option linter.unusedSimpArgs false

/-! ### spec_l10Best: function 44 -/
mutual
def spec_l10Best.l0 : Nat → List Int → List Int → Int → Option (List Int × Int)
  | 0, _, _, _ => none
  | k + 1, x0, x1, x8 => if x8 < (x0.length : Int) then ((spec_l10Wait.f k x1 x8 0).bind fun t116 => (if t116 < 0 then (some (([] : List Int), (-1))) else (spec_l10Best.l0 k x0 x1 (wrap64 (x8 + 1))))) else ((spec_l10Mean.f k x1 x0).bind fun t117 => (some (x1, t117)))
def spec_l10Best.l1 : Nat → List Int → List Int → Int → List Int → Int → Int → Option (List Int × Int)
  | 0, _, _, _, _, _, _ => none
  | k + 1, x0, x1, x2, x9, x10, x11 => if x11 < (x0.length : Int) then ((spec_l01Own.f x1).bind fun t121 => (if t121.length < 17592186044416 then ((spec_l10Best.f k x0 (t121 ++ [x11]) x2).bind fun bt127 => (if bt127.2 ≥ 0 then (if x10 < 0 then (spec_l10Best.l1 k x0 x1 x2 bt127.1 bt127.2 (wrap64 (x11 + 1))) else (if bt127.2 < x10 then (spec_l10Best.l1 k x0 x1 x2 bt127.1 bt127.2 (wrap64 (x11 + 1))) else (spec_l10Best.l1 k x0 x1 x2 x9 x10 (wrap64 (x11 + 1))))) else (spec_l10Best.l1 k x0 x1 x2 x9 x10 (wrap64 (x11 + 1))))) else (none))) else (some (x9, x10))
def spec_l10Best.f : Nat → List Int → List Int → Int → Option (List Int × Int)
  | 0, _, _, _ => none
  | k + 1, l0, l1, a2 => if (l1.length : Int) = a2 then (spec_l10Best.l0 k l0 l1 0) else (spec_l10Best.l1 k l0 l1 a2 (([] : List Int)) (-1) 0)
end
theorem spec_l10Best.mono_l : ∀ k, (∀ y0 y1 y2, LeO (spec_l10Best.f k y0 y1 y2) (spec_l10Best.f (k + 1) y0 y1 y2)) ∧ (∀ y0 y1 y2, LeO (spec_l10Best.l0 k y0 y1 y2) (spec_l10Best.l0 (k + 1) y0 y1 y2)) ∧ (∀ y0 y1 y2 y3 y4 y5, LeO (spec_l10Best.l1 k y0 y1 y2 y3 y4 y5) (spec_l10Best.l1 (k + 1) y0 y1 y2 y3 y4 y5))
  | 0 => ⟨fun _ _ _ r h => by simp [spec_l10Best.f] at h, fun _ _ _ r h => by simp [spec_l10Best.l0] at h, fun _ _ _ _ _ _ r h => by simp [spec_l10Best.l1] at h⟩
  | k + 1 => by
    obtain ⟨ih0, ih1, ih2⟩ := spec_l10Best.mono_l k
    refine ⟨?_, ?_, ?_⟩
    · intro y0 y1 y2
      unfold spec_l10Best.f
      repeat' first
      | (with_reducible exact ih0 _ _ _)
      | (with_reducible exact ih1 _ _ _)
      | (with_reducible exact ih2 _ _ _ _ _ _)
      | (with_reducible exact spec_l10Mean.mono _ _ _)
      | (with_reducible exact spec_l10Wait.mono _ _ _ _)
      | (with_reducible exact LeO.refl _)
      | (with_reducible exact LeO.none _)
      | (with_reducible refine LeO.ite ?_ ?_)
      | (with_reducible refine LeO.bind ?_ (fun _ => ?_))
      | exact ih0 _ _ _
      | exact ih1 _ _ _
      | exact ih2 _ _ _ _ _ _
      | exact spec_l10Mean.mono _ _ _
      | exact spec_l10Wait.mono _ _ _ _
      | exact LeO.none _
      | refine LeO.ite ?_ ?_
      | refine LeO.bind ?_ (fun _ => ?_)
    · intro y0 y1 y2
      unfold spec_l10Best.l0
      repeat' first
      | (with_reducible exact ih0 _ _ _)
      | (with_reducible exact ih1 _ _ _)
      | (with_reducible exact ih2 _ _ _ _ _ _)
      | (with_reducible exact spec_l10Mean.mono _ _ _)
      | (with_reducible exact spec_l10Wait.mono _ _ _ _)
      | (with_reducible exact LeO.refl _)
      | (with_reducible exact LeO.none _)
      | (with_reducible refine LeO.ite ?_ ?_)
      | (with_reducible refine LeO.bind ?_ (fun _ => ?_))
      | exact ih0 _ _ _
      | exact ih1 _ _ _
      | exact ih2 _ _ _ _ _ _
      | exact spec_l10Mean.mono _ _ _
      | exact spec_l10Wait.mono _ _ _ _
      | exact LeO.none _
      | refine LeO.ite ?_ ?_
      | refine LeO.bind ?_ (fun _ => ?_)
    · intro y0 y1 y2 y3 y4 y5
      unfold spec_l10Best.l1
      repeat' first
      | (with_reducible exact ih0 _ _ _)
      | (with_reducible exact ih1 _ _ _)
      | (with_reducible exact ih2 _ _ _ _ _ _)
      | (with_reducible exact spec_l10Mean.mono _ _ _)
      | (with_reducible exact spec_l10Wait.mono _ _ _ _)
      | (with_reducible exact LeO.refl _)
      | (with_reducible exact LeO.none _)
      | (with_reducible refine LeO.ite ?_ ?_)
      | (with_reducible refine LeO.bind ?_ (fun _ => ?_))
      | exact ih0 _ _ _
      | exact ih1 _ _ _
      | exact ih2 _ _ _ _ _ _
      | exact spec_l10Mean.mono _ _ _
      | exact spec_l10Wait.mono _ _ _ _
      | exact LeO.none _
      | refine LeO.ite ?_ ?_
      | refine LeO.bind ?_ (fun _ => ?_)
theorem spec_l10Best.mono : ∀ a0 a1 a2 k, LeO (spec_l10Best.f k a0 a1 a2) (spec_l10Best.f (k + 1) a0 a1 a2) := by
  intro a0 a1 a2 k
  obtain ⟨ih0, ih1, ih2⟩ := spec_l10Best.mono_l k
  exact ih0 a0 a1 a2
set_option maxHeartbeats 8000000 in
set_option maxRecDepth 100000 in
theorem spec_l10Best.calls (k : Nat) : ∀ (A0 : Option Addr) (c0 : Nat) (l0 : List Int) (P1_ : Nat → Prop) (u9000_ : Value) (l1 : List Int) (a2 : Int) (r1 : List Int) (r2 : Int) (w0 w : World) (hB : Below w0.heap.size w0 w) (hr0 : ∀ W_, Kept w W_ (fun k_ => P1_ k_) → Kd.C (Kd.int .i64) W_ A0 l0.length l0) (hc0 : l0.length ≤ c0) (ho1 : Kd.R (Kd.int .i64) 2 w w0.heap.size P1_ u9000_ l1) (h : spec_l10Best.f k l0 l1 a2 = some (r1, r2)),
    Calls Try.prog 44 #[.slice A0 l0.length c0, u9000_, .int .i64 a2] w fun e w' => ∃ v0_ : Value, e = .returned (.tuple #[v0_, .int .i64 r2]) ∧ Kd.R (Kd.int .i64) 2 w' w0.heap.size (fun k_ => (P1_ k_ ∨ w.heap.size ≤ k_)) v0_ r1 ∧ Below w0.heap.size w0 w' ∧ Kept w w' (fun k_ => P1_ k_) := by
  induction k using Nat.strongRecOn with
  | _ k ih =>
  intro A0 c0 l0 P1_ u9000_ l1 a2 r1 r2 w0 w hB hr0 hc0 ho1 h
  cases k with
  | zero => exact absurd h (by simp [spec_l10Best.f])
  | succ k =>
  simp only [spec_l10Best.f] at h
  have HR0 := Aside0.mk hr0
  have HC0 := Aside0.mk hc0
  clear hr0 hc0
  have HO1 := Aside0.mk (show Kd.R (Kd.int .i64) 2 w w0.heap.size (fun k_ => (P1_ k_ ∨ w.heap.size ≤ k_)) u9000_ l1 from Kd.R_mono ho1 (fun k_ hk => (.inl hk)))
  have HK := Aside0.mk (Kept.refl w (fun k_ => P1_ k_))
  have HW0 := Aside0.mk hB.size
  have HB := Aside0.mk hB
  clear hB
  have H : (if (l1.length : Int) = a2 then (spec_l10Best.l0 k l0 l1 0) else (spec_l10Best.l1 k l0 l1 a2 (([] : List Int)) (-1) 0)) = some (r1, r2) := h
  clear h
  by_cases c4 : (l1.length : Int) = a2
  · rw [if_pos c4] at H
    have c4b0 : ((l1.length : Int) == a2) = true := beq_iff_eq.mpr c4
    have c4b1 : ((l1.length : Int) != a2) = false := bne_eq_false_iff_eq.mpr c4
    clear c4
    have H' := Aside0.mk H
    clear H
    obtain ⟨Ao5, co5, eo5⟩ := Kd.R_slice HO1.out
    subst eo5
    go_enter Try.func44, Try.ntmps44
    go_wp2
    go_loopg [8] k (fun kq v8 w' => ∃ (x8_1 : Int), v8 = .int .i64 x8_1 ∧ Aside0 (spec_l10Best.l0 kq l0 l1 x8_1 = some (r1, r2)) ∧ Aside0 (kq ≤ k) ∧ Aside0 (Kd.R (Kd.int .i64) 2 w' w0.heap.size (fun k_ => (P1_ k_ ∨ w.heap.size ≤ k_)) (.slice Ao5 l1.length co5) l1) ∧ Aside0 (Kept w w' (fun k_ => P1_ k_)) ∧ Aside0 (Below w0.heap.size w0 w'))
    case atStart => exact ⟨(0), (by first | rfl | (simp; done) | (simp [*]; done)), H', ⟨Nat.le_refl _⟩, ⟨by (with_reducible repeat (first | apply Kd.R_alloc | apply Kd.R_drewN | apply Kd.R_drew)); exact HO1.out⟩, ⟨by repeat (first | (with_reducible first | exact HK.out | apply Kept.alloc | apply Kept.drewN | apply Kept.drew) | exact HK.out)⟩, ⟨by repeat (first | (with_reducible first | exact HB.out | apply below_alloc | apply pw_below_drewN | apply below_drew1) | exact HB.out)⟩⟩
    case round =>
      clear H'
      try clear p2
      try clear c4
      try clear c4b0
      try clear c4b1
      obtain ⟨x8_1, rfl, HA, HK1, HO_1, HK, HB⟩ := hrel
      cases gk with
      | zero => exact absurd HA.out (by simp [spec_l10Best.l0])
      | succ k1 =>
        have H := HA.out
        clear HA
        simp only [spec_l10Best.l0] at H
        by_cases c6 : x8_1 < (l0.length : Int)
        · rw [if_pos c6] at H
          have c6b0 : decide (x8_1 < (l0.length : Int)) = true := decide_eq_true c6
          clear c6
          replace H := Option.bind_eq_some_iff.mp H
          obtain ⟨t116, A70, H⟩ := H
          replace H : (if t116 < 0 then (some (([] : List Int), (-1))) else (spec_l10Best.l0 k1 l0 l1 (wrap64 (x8_1 + 1)))) = some (r1, r2) := H
          have A7 := Aside0.mk A70
          clear A70
          by_cases c8 : t116 < 0
          · rw [if_pos c8] at H
            have c8b0 : decide (t116 < 0) = true := decide_eq_true c8
            clear c8
            simp only [Option.some.injEq, Prod.mk.injEq] at H
            obtain ⟨rfl, rfl⟩ := H
            go_wp2_with (first | ((with_reducible refine gate_callee (f := 82) rfl ?_); refine goesL_ (some 26) rfl rfl Try.func82 (by kernel_rfl) rfl #[.slice Ao5 l1.length co5, .int .i64 x8_1, .int .i64 0] rfl (by (try simp only [List.map_toArray, List.map_cons, List.map_nil]); first | done | rfl | (simp only [List.length_drop, List.length_take]; rfl)) ?_; (with_reducible refine (spec_l10Wait.calls k1 _ _ l1 x8_1 0 t116 _ ?side1 ?side2 A7.out).mono ?_); (case side1 => repeat (first | exact (Kd.R_reads' HO_1.out).2.2 | (with_reducible refine Kd.C_alloc ?_ _) | (with_reducible refine Kd.C_drewN ?_ _) | (with_reducible refine Kd.C_drew ?_))); (case side2 => exact (Kd.R_reads' HO_1.out).2.1); rintro e w' ⟨rfl, ⟨nd, rfl⟩⟩; refine ⟨_, rfl, ?_⟩))
            go_ret2
            exact ⟨_, by first | rfl | (simp [errW_none, errW_some] <;> rfl) | (simp [*, errW_none, errW_some] <;> rfl), by first | exact Kd.R_nil _ _ _ _ _ | exact Kd.N_nil _ _ _ _ _ | exact Kd.V_nil _ _ _ _ _ | exact Kd.Q_nil _ _ _ _ _ | exact Kd.S_nil _ _ _ _ _, by repeat (first | (with_reducible first | exact HB.out | apply below_alloc | apply pw_below_drewN | apply below_drew1) | exact HB.out), by repeat (first | (with_reducible first | exact HK.out | apply Kept.alloc | apply Kept.drewN | apply Kept.drew) | exact HK.out)⟩
          · rw [if_neg c8] at H
            have c8b0 : decide (t116 < 0) = false := decide_eq_false c8
            clear c8
            have H' := Aside0.mk H
            clear H
            go_wp2_with (first | ((with_reducible refine gate_callee (f := 82) rfl ?_); refine goesL_ (some 26) rfl rfl Try.func82 (by kernel_rfl) rfl #[.slice Ao5 l1.length co5, .int .i64 x8_1, .int .i64 0] rfl (by (try simp only [List.map_toArray, List.map_cons, List.map_nil]); first | done | rfl | (simp only [List.length_drop, List.length_take]; rfl)) ?_; (with_reducible refine (spec_l10Wait.calls k1 _ _ l1 x8_1 0 t116 _ ?side1 ?side2 A7.out).mono ?_); (case side1 => repeat (first | exact (Kd.R_reads' HO_1.out).2.2 | (with_reducible refine Kd.C_alloc ?_ _) | (with_reducible refine Kd.C_drewN ?_ _) | (with_reducible refine Kd.C_drew ?_))); (case side2 => exact (Kd.R_reads' HO_1.out).2.1); rintro e w' ⟨rfl, ⟨nd, rfl⟩⟩; refine ⟨_, rfl, ?_⟩))
            go_roundg k1
            case measure => have := HK1.out; omega
            case rel => exact ⟨(wrap64 (x8_1 + 1)), (by first | rfl | (simp; done) | (simp [*]; done)), H', ⟨by have := HK1.out; omega⟩, ⟨by (with_reducible repeat (first | apply Kd.R_alloc | apply Kd.R_drewN | apply Kd.R_drew)); exact HO_1.out⟩, ⟨by repeat (first | (with_reducible first | exact HK.out | apply Kept.alloc | apply Kept.drewN | apply Kept.drew) | exact HK.out)⟩, ⟨by repeat (first | (with_reducible first | exact HB.out | apply below_alloc | apply pw_below_drewN | apply below_drew1) | exact HB.out)⟩⟩
        · rw [if_neg c6] at H
          have c6b0 : decide (x8_1 < (l0.length : Int)) = false := decide_eq_false c6
          clear c6
          replace H := Option.bind_eq_some_iff.mp H
          obtain ⟨t117, A90, H⟩ := H
          replace H : (some (l1, t117)) = some (r1, r2) := H
          have A9 := Aside0.mk A90
          clear A90
          simp only [Option.some.injEq, Prod.mk.injEq] at H
          obtain ⟨rfl, rfl⟩ := H
          go_wp2_with (first | ((with_reducible refine gate_callee (f := 83) rfl ?_); refine goesL_ (some 31) rfl rfl Try.func83 (by kernel_rfl) rfl #[.slice Ao5 l1.length co5, .slice A0 l0.length c0] rfl (by (try simp only [List.map_toArray, List.map_cons, List.map_nil]); first | done | rfl | (simp only [List.length_drop, List.length_take]; rfl)) ?_; (with_reducible refine (spec_l10Mean.calls k1 _ _ l1 _ _ l0 t117 _ ?side1 ?side2 ?side3 ?side4 A9.out).mono ?_); (case side1 => repeat (first | exact (Kd.R_reads' HO_1.out).2.2 | (with_reducible refine Kd.C_alloc ?_ _) | (with_reducible refine Kd.C_drewN ?_ _) | (with_reducible refine Kd.C_drew ?_))); (case side2 => exact (Kd.R_reads' HO_1.out).2.1); (case side3 => exact Kd.C_kept_now HR0.out (by repeat (first | (with_reducible first | exact HK.out | apply Kept.alloc | apply Kept.drewN | apply Kept.drew) | exact HK.out))); (case side4 => exact HC0.out); rintro e w10 ⟨rfl, hb⟩; refine ⟨_, rfl, ?_⟩; have n0_ := Aside0.mk (Kd.R_below (by (with_reducible repeat (first | apply Kd.R_alloc | apply Kd.R_drewN | apply Kd.R_drew)); exact HO_1.out) hb); have n1_ := Aside0.mk (Kept.below (S := (fun k_ => P1_ k_)) (by repeat (first | (with_reducible first | exact HK.out | apply Kept.alloc | apply Kept.drewN | apply Kept.drew) | exact HK.out)) hb); have n2_ := Aside0.mk (below_step (by repeat (first | (with_reducible first | exact HB.out | apply below_alloc | apply pw_below_drewN | apply below_drew1) | exact HB.out)) hb); clear HO_1; clear HK; clear HB; have HO_1 := n0_; have HK := n1_; have HB := n2_; clear n0_ n1_ n2_; (try clear hb); (try clear hb2); (try clear hk); (try clear hi)))
          go_ret2
          exact ⟨_, by first | rfl | (simp [errW_none, errW_some] <;> rfl) | (simp [*, errW_none, errW_some] <;> rfl), by (with_reducible repeat (first | apply Kd.R_alloc | apply Kd.R_drewN | apply Kd.R_drew)); exact HO_1.out, by repeat (first | (with_reducible first | exact HB.out | apply below_alloc | apply pw_below_drewN | apply below_drew1) | exact HB.out), by repeat (first | (with_reducible first | exact HK.out | apply Kept.alloc | apply Kept.drewN | apply Kept.drew) | exact HK.out)⟩
  · rw [if_neg c4] at H
    have c4b0 : ((l1.length : Int) == a2) = false := beq_eq_false_iff_ne.mpr c4
    have c4b1 : ((l1.length : Int) != a2) = true := bne_iff_ne.mpr c4
    obtain ⟨y118, hy118⟩ : ∃ y_ : List Int, y_ = (([] : List Int)) := ⟨_, rfl⟩
    replace H : (spec_l10Best.l1 k l0 l1 a2 y118 (-1) 0) = some (r1, r2) := by first | (rw [hy118]; with_reducible exact H) | (have H2_ := (Option.bind_some _ _).symm.trans H; rw [hy118]; with_reducible exact H2_) | (have H2_ := (Option.bind_some _ _).symm.trans H; with_reducible exact H2_) | with_reducible exact H | (rw [hy118]; exact H) | exact H
    have Ny118 := Aside0.mk hy118
    clear hy118
    have H' := Aside0.mk H
    clear H
    obtain ⟨Ao11, co11, eo11⟩ := Kd.R_slice HO1.out
    subst eo11
    go_enter Try.func44, Try.ntmps44
    go_wp2_with (first | ((with_reducible refine gate_dst (N := 32) rfl ?_); refine Kd.R_lit (Kd.int .i64) _ 2 ?hg (N := 32) ?hd (xs := ([] : List Int)) (inner := []) (ok := fun _ => True) (okp := fun _ => True) ?hr ?hp (fun _ hk => hk) trivial (Below.refl _ _) (Nat.le_refl _) (by simp) ?_; (case hd => rfl); (case hg => rfl); (case hr => first | (go_simp; done) | (go_simp; rfl)); (case hp => exact (Reps.none _ _)); intro v119 w12 ho13 hb hg_ hnew_; clear hg_ hnew_; (first | rw [← Ny118.out] at ho13 | (simp only [Int.reduceToNat] at ho13; rw [← Ny118.out] at ho13)); have n0_ := Aside0.mk (Kd.R_elder' (by (with_reducible repeat (first | apply Kd.R_alloc | apply Kd.R_drewN | apply Kd.R_drew)); exact HO1.out) (Kd.R_base ho13) hb); have n1_ := Aside0.mk (Kd.R_lower (Kd.R_new' (Kd.R_newM (M := fun k_ => (P1_ k_ ∨ w.heap.size ≤ k_)) ho13 (by first | exact HK.out.1 | exact (show Kept w _ (fun k_ => P1_ k_) from by repeat (first | (with_reducible first | exact HK.out | apply Kept.alloc | apply Kept.drewN | apply Kept.drew) | exact HK.out)).1) (fun k_ h_ => .inr h_)) (Kd.R_lt (by (with_reducible repeat (first | apply Kd.R_alloc | apply Kd.R_drewN | apply Kd.R_drew)); exact HO1.out))) (below_size (by repeat (first | (with_reducible first | exact HB.out | apply below_alloc | apply pw_below_drewN | apply below_drew1) | exact HB.out)))); have n2_ := Aside0.mk (Kept.below (S := (fun k_ => P1_ k_)) (by repeat (first | (with_reducible first | exact HK.out | apply Kept.alloc | apply Kept.drewN | apply Kept.drew) | exact HK.out)) hb); have n3_ := Aside0.mk (below_step (by repeat (first | (with_reducible first | exact HB.out | apply below_alloc | apply pw_below_drewN | apply below_drew1) | exact HB.out)) hb); clear HO1; clear HK; clear HB; have HO1 := n0_; have HO120 := n1_; have HK := n2_; have HB := n3_; clear n0_ n1_ n2_ n3_; clear hb ho13))
    go_loopg [9, 10, 11] k (fun kq v9 v10 v11 w' => ∃ (x9_1 : List Int) (x10_1 : Int) (x11_1 : Int), v10 = .int .i64 x10_1 ∧ v11 = .int .i64 x11_1 ∧ Aside0 (spec_l10Best.l1 kq l0 l1 a2 x9_1 x10_1 x11_1 = some (r1, r2)) ∧ Aside0 (kq ≤ k) ∧ Aside0 (Kd.R (Kd.int .i64) 2 w' w0.heap.size (fun k_ => (P1_ k_ ∨ w.heap.size ≤ k_) ∧ some k_ ≠ (v9 : Value).ownBlock) (.slice Ao11 l1.length co11) l1) ∧ Aside0 (Kd.R (Kd.int .i64) 2 w' w0.heap.size (fun k_ => (P1_ k_ ∨ w.heap.size ≤ k_) ∧ some k_ ≠ ((.slice Ao11 l1.length co11) : Value).ownBlock) v9 x9_1) ∧ Aside0 (Kept w w' (fun k_ => P1_ k_)) ∧ Aside0 (Below w0.heap.size w0 w'))
    case atStart => exact ⟨(y118), ((-1)), (0), (by first | rfl | (simp; done) | (simp [*]; done)), (by first | rfl | (simp; done) | (simp [*]; done)), H', ⟨Nat.le_refl _⟩, ⟨by (with_reducible repeat (first | apply Kd.R_alloc | apply Kd.R_drewN | apply Kd.R_drew)); exact HO1.out⟩, ⟨by (with_reducible repeat (first | apply Kd.R_alloc | apply Kd.R_drewN | apply Kd.R_drew)); exact Kd.R_mono HO120.out (fun _ hk => ⟨hk.1.1, hk.2⟩)⟩, ⟨by repeat (first | (with_reducible first | exact HK.out | apply Kept.alloc | apply Kept.drewN | apply Kept.drew) | exact HK.out)⟩, ⟨by repeat (first | (with_reducible first | exact HB.out | apply below_alloc | apply pw_below_drewN | apply below_drew1) | exact HB.out)⟩⟩
    case round =>
      clear H'
      try clear p2
      try clear c4
      try clear c4b0
      try clear c4b1
      try clear c6
      try clear c6b0
      try clear p6
      try clear c8
      try clear c8b0
      try clear p2
      obtain ⟨x9_1, x10_1, x11_1, rfl, rfl, HA, HK1, HO_1, HO_9, HK, HB⟩ := hrel
      cases gk with
      | zero => exact absurd HA.out (by simp [spec_l10Best.l1])
      | succ k1 =>
        have H := HA.out
        clear HA
        simp only [spec_l10Best.l1] at H
        by_cases c14 : x11_1 < (l0.length : Int)
        · rw [if_pos c14] at H
          have c14b0 : decide (x11_1 < (l0.length : Int)) = true := decide_eq_true c14
          clear c14
          replace H := Option.bind_eq_some_iff.mp H
          obtain ⟨t121, A150, H⟩ := H
          replace H : (if t121.length < 17592186044416 then ((spec_l10Best.f k1 l0 (t121 ++ [x11_1]) a2).bind fun bt127 => (if bt127.2 ≥ 0 then (if x10_1 < 0 then (spec_l10Best.l1 k1 l0 l1 a2 bt127.1 bt127.2 (wrap64 (x11_1 + 1))) else (if bt127.2 < x10_1 then (spec_l10Best.l1 k1 l0 l1 a2 bt127.1 bt127.2 (wrap64 (x11_1 + 1))) else (spec_l10Best.l1 k1 l0 l1 a2 x9_1 x10_1 (wrap64 (x11_1 + 1))))) else (spec_l10Best.l1 k1 l0 l1 a2 x9_1 x10_1 (wrap64 (x11_1 + 1))))) else (none)) = some (r1, r2) := H
          have A15 := Aside0.mk A150
          clear A150
          by_cases c16 : t121.length < 17592186044416
          · rw [if_pos c16] at H
            have LMc16 := Aside0.mk c16
            clear c16
            obtain ⟨y124, hy124⟩ : ∃ y_ : List Int, y_ = (t121 ++ [x11_1]) := ⟨_, rfl⟩
            replace H : ((spec_l10Best.f k1 l0 y124 a2).bind fun bt127 => (if bt127.2 ≥ 0 then (if x10_1 < 0 then (spec_l10Best.l1 k1 l0 l1 a2 bt127.1 bt127.2 (wrap64 (x11_1 + 1))) else (if bt127.2 < x10_1 then (spec_l10Best.l1 k1 l0 l1 a2 bt127.1 bt127.2 (wrap64 (x11_1 + 1))) else (spec_l10Best.l1 k1 l0 l1 a2 x9_1 x10_1 (wrap64 (x11_1 + 1))))) else (spec_l10Best.l1 k1 l0 l1 a2 x9_1 x10_1 (wrap64 (x11_1 + 1))))) = some (r1, r2) := by first | (rw [hy124]; with_reducible exact H) | (have H2_ := (Option.bind_some _ _).symm.trans H; rw [hy124]; with_reducible exact H2_) | (have H2_ := (Option.bind_some _ _).symm.trans H; with_reducible exact H2_) | with_reducible exact H | (rw [hy124]; exact H) | exact H
            have Ny124 := Aside0.mk hy124
            clear hy124
            replace H := Option.bind_eq_some_iff.mp H
            obtain ⟨⟨t127, t130⟩, A170, H⟩ := H
            replace H : (if t130 ≥ 0 then (if x10_1 < 0 then (spec_l10Best.l1 k1 l0 l1 a2 t127 t130 (wrap64 (x11_1 + 1))) else (if t130 < x10_1 then (spec_l10Best.l1 k1 l0 l1 a2 t127 t130 (wrap64 (x11_1 + 1))) else (spec_l10Best.l1 k1 l0 l1 a2 x9_1 x10_1 (wrap64 (x11_1 + 1))))) else (spec_l10Best.l1 k1 l0 l1 a2 x9_1 x10_1 (wrap64 (x11_1 + 1)))) = some (r1, r2) := H
            have A17 := Aside0.mk A170
            clear A170
            by_cases c18 : t130 ≥ 0
            · rw [if_pos c18] at H
              have c18b0 : decide (0 ≤ t130) = true := decide_eq_true c18
              clear c18
              by_cases c19 : x10_1 < 0
              · rw [if_pos c19] at H
                have c19b0 : decide (x10_1 < 0) = true := decide_eq_true c19
                clear c19
                have H' := Aside0.mk H
                clear H
                go_wp2_with (first | ((with_reducible refine gate_callee (f := 84) rfl ?_); refine goesL_ (some 42) rfl rfl Try.func84 (by kernel_rfl) rfl #[.slice Ao11 l1.length co11] rfl (by (try simp only [List.map_toArray, List.map_cons, List.map_nil]); first | done | rfl | (simp only [List.length_drop, List.length_take]; rfl)) ?_; (with_reducible refine (spec_l01Own.calls _ _ l1 t121 _ ?side1 ?side2 A15.out).mono ?_); (case side1 => repeat (first | exact (Kd.R_reads' HO_1.out).2.2 | (with_reducible refine Kd.C_alloc ?_ _) | (with_reducible refine Kd.C_drewN ?_ _) | (with_reducible refine Kd.C_drew ?_))); (case side2 => exact (Kd.R_reads' HO_1.out).2.1); rintro e w20 ⟨v122, rfl, ho0, hb⟩; refine ⟨_, rfl, ?_⟩; have n0_ := Aside0.mk (Kd.R_elder' (by (with_reducible repeat (first | apply Kd.R_alloc | apply Kd.R_drewN | apply Kd.R_drew)); exact HO_1.out) (Kd.R_base ho0) hb); have n1_ := Aside0.mk (Kd.R_elder' (by (with_reducible repeat (first | apply Kd.R_alloc | apply Kd.R_drewN | apply Kd.R_drew)); exact HO_9.out) (Kd.R_base ho0) hb); have n2_ := Aside0.mk (Kd.R_lower (Kd.R_new' (Kd.R_new' (Kd.R_newM (M := fun k_ => (P1_ k_ ∨ w.heap.size ≤ k_)) ho0 (by first | exact HK.out.1 | exact (show Kept w _ (fun k_ => P1_ k_) from by repeat (first | (with_reducible first | exact HK.out | apply Kept.alloc | apply Kept.drewN | apply Kept.drew) | exact HK.out)).1) (fun k_ h_ => .inr h_)) (Kd.R_lt (by (with_reducible repeat (first | apply Kd.R_alloc | apply Kd.R_drewN | apply Kd.R_drew)); exact HO_1.out))) (Kd.R_lt (by (with_reducible repeat (first | apply Kd.R_alloc | apply Kd.R_drewN | apply Kd.R_drew)); exact HO_9.out))) (below_size (by repeat (first | (with_reducible first | exact HB.out | apply below_alloc | apply pw_below_drewN | apply below_drew1) | exact HB.out)))); have n3_ := Aside0.mk (Kept.below (S := (fun k_ => P1_ k_)) (by repeat (first | (with_reducible first | exact HK.out | apply Kept.alloc | apply Kept.drewN | apply Kept.drew) | exact HK.out)) hb); have n4_ := Aside0.mk (below_step (by repeat (first | (with_reducible first | exact HB.out | apply below_alloc | apply pw_below_drewN | apply below_drew1) | exact HB.out)) hb); clear HO_1; clear HO_9; clear HK; clear HB; have HO_1 := n0_; have HO_9 := n1_; have HO123 := n2_; have HK := n3_; have HB := n4_; clear n0_ n1_ n2_ n3_ n4_; (try clear hb); (try clear hb2); (try clear hk); (try clear hi); (try clear ho0)) | ((with_reducible refine gate_builtin (b := .append) (xs := #[.tmp 42, .tmp 44]) rfl ?_); at_builtin; refine Kd.R_append (Kd.int .i64) (w0 := w0) w0.heap.size rfl (.tmp 42) (.tmp 44) 22 2 (.int .i64 0) 8 rfl Try.underlying22 info2 rfl (by decide) (by omega) v122 t121 x11_1 [.int .i64 x11_1] (fun k_ => (P1_ k_ ∨ w.heap.size ≤ k_) ∧ some k_ ≠ (.slice Ao11 l1.length co11 : Value).ownBlock ∧ some k_ ≠ (u9 : Value).ownBlock) (fun _ => False) rfl rfl ?aP (fun _ hk => hk.elim) ?aF ?aO ?aB ?aS ?aL ?_; (case aP => exact rfl); (case aB => exact (by repeat (first | (with_reducible first | exact HB.out | apply below_alloc | apply pw_below_drewN | apply below_drew1) | exact HB.out))); (case aF => exact (fun k_ hk => ⟨(.inr (Nat.le_trans (by first | exact HK.out.1 | exact (show Kept w _ (fun k_ => P1_ k_) from by repeat (first | (with_reducible first | exact HK.out | apply Kept.alloc | apply Kept.drewN | apply Kept.drew) | exact HK.out)).1) hk)), Kd.fresh' (Kd.R_lt (by (with_reducible repeat (first | apply Kd.R_alloc | apply Kd.R_drewN | apply Kd.R_drew)); exact HO_1.out)) k_ hk, Kd.fresh' (Kd.R_lt (by (with_reducible repeat (first | apply Kd.R_alloc | apply Kd.R_drewN | apply Kd.R_drew)); exact HO_9.out)) k_ hk⟩)); (case aO => exact (by (with_reducible repeat (first | apply Kd.R_alloc | apply Kd.R_drewN | apply Kd.R_drew)); exact Kd.R_mono HO123.out (fun _ hk => ⟨hk.1.1.1, ⟨hk.1.2, hk.2⟩⟩))); (case aS => exact (below_size (by repeat (first | (with_reducible first | exact HB.out | apply below_alloc | apply pw_below_drewN | apply below_drew1) | exact HB.out)))); (case aL => have := LMc16.out; omega); intro v125 w21 ho hb hg hat; rw [← Ny124.out] at ho; have n0_ := Aside0.mk (Kd.R_after (ok := (fun k_ => (P1_ k_ ∨ w.heap.size ≤ k_) ∧ some k_ ≠ (u9 : Value).ownBlock)) (by (with_reducible repeat (first | apply Kd.R_alloc | apply Kd.R_drewN | apply Kd.R_drew)); exact HO_1.out) hg hat); have n1_ := Aside0.mk (Kd.R_after (ok := (fun k_ => (P1_ k_ ∨ w.heap.size ≤ k_) ∧ some k_ ≠ (.slice Ao11 l1.length co11 : Value).ownBlock)) (by (with_reducible repeat (first | apply Kd.R_alloc | apply Kd.R_drewN | apply Kd.R_drew)); exact HO_9.out) hg hat); have n2_ := Aside0.mk (hb); have n3_ := Aside0.mk (Kept.of_grown (S := (fun k_ => P1_ k_)) hg (by repeat (first | (with_reducible first | exact HK.out | apply Kept.alloc | apply Kept.drewN | apply Kept.drew) | exact HK.out)) (fun k_ e_ => (HO123.out.1 k_ e_).1.1.1)); have n4_ := Aside0.mk (ho); clear HO_1; clear HO_9; clear HB; clear HK; clear HO123; have HO_1 := n0_; have HO_9 := n1_; have HB := n2_; have HK := n3_; have HO126 := n4_; clear n0_ n1_ n2_ n3_ n4_; clear ho hb hg hat; obtain ⟨Ao22, co22, eo22⟩ := Kd.R_slice HO126.out; subst eo22) | ((with_reducible refine gate_callee (f := 44) rfl ?_); refine goesL_ (some 47) rfl rfl Try.func44 (by kernel_rfl) rfl #[.slice A0 l0.length c0, .slice Ao22 y124.length co22, .int .i64 a2] rfl (by (try simp only [List.map_toArray, List.map_cons, List.map_nil]); first | done | rfl | (simp only [List.length_drop, List.length_take]; rfl)) ?_; (with_reducible refine (ih k1 (by have := HK1.out; omega) _ _ l0 (fun k_ => some k_ = (.slice Ao22 y124.length co22 : Value).ownBlock) (.slice Ao22 y124.length co22) y124 a2 t127 t130 w0 _ ?side1 ?side2 ?side3 ?side4 A17.out).mono ?_); (case side1 => repeat (first | (with_reducible first | exact HB.out | apply below_alloc | apply pw_below_drewN | apply below_drew1) | exact HB.out)); (case side2 => exact Kd.C_kept_call HR0.out (by repeat (first | (with_reducible first | exact HK.out | apply Kept.alloc | apply Kept.drewN | apply Kept.drew) | exact HK.out)) (fun k_ hs_ => (fun e_ => (HO126.out.1 k_ e_.symm).1) hs_)); (case side3 => exact HC0.out); (case side4 => exact Kd.R_tight rfl HO126.out); rintro e w23 ⟨v128, rfl, ho0, hb, hkp⟩; refine ⟨_, rfl, ?_⟩; have n0_ := Aside0.mk (Kd.R_mono (ok' := fun k_ => (P1_ k_ ∨ w.heap.size ≤ k_) ∧ some k_ ≠ (u9 : Value).ownBlock ∧ some k_ ≠ (v128 : Value).ownBlock) (Kd.R_keptB (HO_1.out) hkp (fun k_ hk_ hs_ => (hk_.2) hs_)) (fun k_ hk_ => ⟨hk_.1.1.1, hk_.1.1.2, fun e_ => Or.elim (ho0.1 k_ e_.symm) (fun hs_ => hk_.2.1 hs_) (fun hn_ => Nat.not_le.2 hk_.2.2 hn_)⟩)); have n1_ := Aside0.mk (Kd.R_mono (ok' := fun k_ => (P1_ k_ ∨ w.heap.size ≤ k_) ∧ some k_ ≠ (.slice Ao11 l1.length co11 : Value).ownBlock ∧ some k_ ≠ (v128 : Value).ownBlock) (Kd.R_keptB (HO_9.out) hkp (fun k_ hk_ hs_ => (hk_.2) hs_)) (fun k_ hk_ => ⟨hk_.1.1.1, hk_.1.1.2, fun e_ => Or.elim (ho0.1 k_ e_.symm) (fun hs_ => hk_.2.1 hs_) (fun hn_ => Nat.not_le.2 hk_.2.2 hn_)⟩)); have n2_ := Aside0.mk (Kd.R_mono (ok' := fun k_ => (P1_ k_ ∨ w.heap.size ≤ k_) ∧ some k_ ≠ (.slice Ao11 l1.length co11 : Value).ownBlock ∧ some k_ ≠ (u9 : Value).ownBlock) ho0 (fun k_ hk_ => ⟨Or.elim hk_ (fun hs_ => (HO126.out.1 k_ (hs_).symm).1) (fun hn_ => (.inr (Nat.le_trans (by first | exact HK.out.1 | exact (show Kept w _ (fun k_ => P1_ k_) from by repeat (first | (with_reducible first | exact HK.out | apply Kept.alloc | apply Kept.drewN | apply Kept.drew) | exact HK.out)).1) hn_))), Or.elim hk_ (fun hs_ => fun e_ => (((HO_1.out).1 k_ e_.symm).2) hs_) (fun hn_ => (Kd.fresh' (Kd.R_lt (by (with_reducible repeat (first | apply Kd.R_alloc | apply Kd.R_drewN | apply Kd.R_drew)); exact HO_1.out)) k_ hn_)), Or.elim hk_ (fun hs_ => fun e_ => (((HO_9.out).1 k_ e_.symm).2) hs_) (fun hn_ => (Kd.fresh' (Kd.R_lt (by (with_reducible repeat (first | apply Kd.R_alloc | apply Kd.R_drewN | apply Kd.R_drew)); exact HO_9.out)) k_ hn_))⟩)); have n3_ := Aside0.mk (Kept.then_ (S := (fun k_ => P1_ k_)) (by repeat (first | (with_reducible first | exact HK.out | apply Kept.alloc | apply Kept.drewN | apply Kept.drew) | exact HK.out)) hkp (fun k_ hs_ => (fun e_ => (HO126.out.1 k_ e_.symm).1) hs_)); have n4_ := Aside0.mk (hb); clear HO_1; clear HO_9; clear HK; clear HB; clear HO126; have HO_1 := n0_; have HO_9 := n1_; have HO129 := n2_; have HK := n3_; have HB := n4_; clear n0_ n1_ n2_ n3_ n4_; (try clear hb); (try clear hkp); (try clear ho0)))
                go_roundg k1
                case measure => have := HK1.out; omega
                case rel => exact ⟨(t127), (t130), (wrap64 (x11_1 + 1)), (by first | rfl | (simp; done) | (simp [*]; done)), (by first | rfl | (simp; done) | (simp [*]; done)), H', ⟨by have := HK1.out; omega⟩, ⟨by (with_reducible repeat (first | apply Kd.R_alloc | apply Kd.R_drewN | apply Kd.R_drew)); exact Kd.R_mono HO_1.out (fun _ hk => ⟨hk.1, hk.2.2⟩)⟩, ⟨by (with_reducible repeat (first | apply Kd.R_alloc | apply Kd.R_drewN | apply Kd.R_drew)); exact Kd.R_mono HO129.out (fun _ hk => ⟨hk.1, hk.2.1⟩)⟩, ⟨by repeat (first | (with_reducible first | exact HK.out | apply Kept.alloc | apply Kept.drewN | apply Kept.drew) | exact HK.out)⟩, ⟨by repeat (first | (with_reducible first | exact HB.out | apply below_alloc | apply pw_below_drewN | apply below_drew1) | exact HB.out)⟩⟩
              · rw [if_neg c19] at H
                have c19b0 : decide (x10_1 < 0) = false := decide_eq_false c19
                clear c19
                by_cases c24 : t130 < x10_1
                · rw [if_pos c24] at H
                  have c24b0 : decide (t130 < x10_1) = true := decide_eq_true c24
                  clear c24
                  have H' := Aside0.mk H
                  clear H
                  go_wp2_with (first | ((with_reducible refine gate_callee (f := 84) rfl ?_); refine goesL_ (some 42) rfl rfl Try.func84 (by kernel_rfl) rfl #[.slice Ao11 l1.length co11] rfl (by (try simp only [List.map_toArray, List.map_cons, List.map_nil]); first | done | rfl | (simp only [List.length_drop, List.length_take]; rfl)) ?_; (with_reducible refine (spec_l01Own.calls _ _ l1 t121 _ ?side1 ?side2 A15.out).mono ?_); (case side1 => repeat (first | exact (Kd.R_reads' HO_1.out).2.2 | (with_reducible refine Kd.C_alloc ?_ _) | (with_reducible refine Kd.C_drewN ?_ _) | (with_reducible refine Kd.C_drew ?_))); (case side2 => exact (Kd.R_reads' HO_1.out).2.1); rintro e w25 ⟨v122, rfl, ho0, hb⟩; refine ⟨_, rfl, ?_⟩; have n0_ := Aside0.mk (Kd.R_elder' (by (with_reducible repeat (first | apply Kd.R_alloc | apply Kd.R_drewN | apply Kd.R_drew)); exact HO_1.out) (Kd.R_base ho0) hb); have n1_ := Aside0.mk (Kd.R_elder' (by (with_reducible repeat (first | apply Kd.R_alloc | apply Kd.R_drewN | apply Kd.R_drew)); exact HO_9.out) (Kd.R_base ho0) hb); have n2_ := Aside0.mk (Kd.R_lower (Kd.R_new' (Kd.R_new' (Kd.R_newM (M := fun k_ => (P1_ k_ ∨ w.heap.size ≤ k_)) ho0 (by first | exact HK.out.1 | exact (show Kept w _ (fun k_ => P1_ k_) from by repeat (first | (with_reducible first | exact HK.out | apply Kept.alloc | apply Kept.drewN | apply Kept.drew) | exact HK.out)).1) (fun k_ h_ => .inr h_)) (Kd.R_lt (by (with_reducible repeat (first | apply Kd.R_alloc | apply Kd.R_drewN | apply Kd.R_drew)); exact HO_1.out))) (Kd.R_lt (by (with_reducible repeat (first | apply Kd.R_alloc | apply Kd.R_drewN | apply Kd.R_drew)); exact HO_9.out))) (below_size (by repeat (first | (with_reducible first | exact HB.out | apply below_alloc | apply pw_below_drewN | apply below_drew1) | exact HB.out)))); have n3_ := Aside0.mk (Kept.below (S := (fun k_ => P1_ k_)) (by repeat (first | (with_reducible first | exact HK.out | apply Kept.alloc | apply Kept.drewN | apply Kept.drew) | exact HK.out)) hb); have n4_ := Aside0.mk (below_step (by repeat (first | (with_reducible first | exact HB.out | apply below_alloc | apply pw_below_drewN | apply below_drew1) | exact HB.out)) hb); clear HO_1; clear HO_9; clear HK; clear HB; have HO_1 := n0_; have HO_9 := n1_; have HO123 := n2_; have HK := n3_; have HB := n4_; clear n0_ n1_ n2_ n3_ n4_; (try clear hb); (try clear hb2); (try clear hk); (try clear hi); (try clear ho0)) | ((with_reducible refine gate_builtin (b := .append) (xs := #[.tmp 42, .tmp 44]) rfl ?_); at_builtin; refine Kd.R_append (Kd.int .i64) (w0 := w0) w0.heap.size rfl (.tmp 42) (.tmp 44) 22 2 (.int .i64 0) 8 rfl Try.underlying22 info2 rfl (by decide) (by omega) v122 t121 x11_1 [.int .i64 x11_1] (fun k_ => (P1_ k_ ∨ w.heap.size ≤ k_) ∧ some k_ ≠ (.slice Ao11 l1.length co11 : Value).ownBlock ∧ some k_ ≠ (u9 : Value).ownBlock) (fun _ => False) rfl rfl ?aP (fun _ hk => hk.elim) ?aF ?aO ?aB ?aS ?aL ?_; (case aP => exact rfl); (case aB => exact (by repeat (first | (with_reducible first | exact HB.out | apply below_alloc | apply pw_below_drewN | apply below_drew1) | exact HB.out))); (case aF => exact (fun k_ hk => ⟨(.inr (Nat.le_trans (by first | exact HK.out.1 | exact (show Kept w _ (fun k_ => P1_ k_) from by repeat (first | (with_reducible first | exact HK.out | apply Kept.alloc | apply Kept.drewN | apply Kept.drew) | exact HK.out)).1) hk)), Kd.fresh' (Kd.R_lt (by (with_reducible repeat (first | apply Kd.R_alloc | apply Kd.R_drewN | apply Kd.R_drew)); exact HO_1.out)) k_ hk, Kd.fresh' (Kd.R_lt (by (with_reducible repeat (first | apply Kd.R_alloc | apply Kd.R_drewN | apply Kd.R_drew)); exact HO_9.out)) k_ hk⟩)); (case aO => exact (by (with_reducible repeat (first | apply Kd.R_alloc | apply Kd.R_drewN | apply Kd.R_drew)); exact Kd.R_mono HO123.out (fun _ hk => ⟨hk.1.1.1, ⟨hk.1.2, hk.2⟩⟩))); (case aS => exact (below_size (by repeat (first | (with_reducible first | exact HB.out | apply below_alloc | apply pw_below_drewN | apply below_drew1) | exact HB.out)))); (case aL => have := LMc16.out; omega); intro v125 w26 ho hb hg hat; rw [← Ny124.out] at ho; have n0_ := Aside0.mk (Kd.R_after (ok := (fun k_ => (P1_ k_ ∨ w.heap.size ≤ k_) ∧ some k_ ≠ (u9 : Value).ownBlock)) (by (with_reducible repeat (first | apply Kd.R_alloc | apply Kd.R_drewN | apply Kd.R_drew)); exact HO_1.out) hg hat); have n1_ := Aside0.mk (Kd.R_after (ok := (fun k_ => (P1_ k_ ∨ w.heap.size ≤ k_) ∧ some k_ ≠ (.slice Ao11 l1.length co11 : Value).ownBlock)) (by (with_reducible repeat (first | apply Kd.R_alloc | apply Kd.R_drewN | apply Kd.R_drew)); exact HO_9.out) hg hat); have n2_ := Aside0.mk (hb); have n3_ := Aside0.mk (Kept.of_grown (S := (fun k_ => P1_ k_)) hg (by repeat (first | (with_reducible first | exact HK.out | apply Kept.alloc | apply Kept.drewN | apply Kept.drew) | exact HK.out)) (fun k_ e_ => (HO123.out.1 k_ e_).1.1.1)); have n4_ := Aside0.mk (ho); clear HO_1; clear HO_9; clear HB; clear HK; clear HO123; have HO_1 := n0_; have HO_9 := n1_; have HB := n2_; have HK := n3_; have HO126 := n4_; clear n0_ n1_ n2_ n3_ n4_; clear ho hb hg hat; obtain ⟨Ao27, co27, eo27⟩ := Kd.R_slice HO126.out; subst eo27) | ((with_reducible refine gate_callee (f := 44) rfl ?_); refine goesL_ (some 47) rfl rfl Try.func44 (by kernel_rfl) rfl #[.slice A0 l0.length c0, .slice Ao27 y124.length co27, .int .i64 a2] rfl (by (try simp only [List.map_toArray, List.map_cons, List.map_nil]); first | done | rfl | (simp only [List.length_drop, List.length_take]; rfl)) ?_; (with_reducible refine (ih k1 (by have := HK1.out; omega) _ _ l0 (fun k_ => some k_ = (.slice Ao27 y124.length co27 : Value).ownBlock) (.slice Ao27 y124.length co27) y124 a2 t127 t130 w0 _ ?side1 ?side2 ?side3 ?side4 A17.out).mono ?_); (case side1 => repeat (first | (with_reducible first | exact HB.out | apply below_alloc | apply pw_below_drewN | apply below_drew1) | exact HB.out)); (case side2 => exact Kd.C_kept_call HR0.out (by repeat (first | (with_reducible first | exact HK.out | apply Kept.alloc | apply Kept.drewN | apply Kept.drew) | exact HK.out)) (fun k_ hs_ => (fun e_ => (HO126.out.1 k_ e_.symm).1) hs_)); (case side3 => exact HC0.out); (case side4 => exact Kd.R_tight rfl HO126.out); rintro e w28 ⟨v128, rfl, ho0, hb, hkp⟩; refine ⟨_, rfl, ?_⟩; have n0_ := Aside0.mk (Kd.R_mono (ok' := fun k_ => (P1_ k_ ∨ w.heap.size ≤ k_) ∧ some k_ ≠ (u9 : Value).ownBlock ∧ some k_ ≠ (v128 : Value).ownBlock) (Kd.R_keptB (HO_1.out) hkp (fun k_ hk_ hs_ => (hk_.2) hs_)) (fun k_ hk_ => ⟨hk_.1.1.1, hk_.1.1.2, fun e_ => Or.elim (ho0.1 k_ e_.symm) (fun hs_ => hk_.2.1 hs_) (fun hn_ => Nat.not_le.2 hk_.2.2 hn_)⟩)); have n1_ := Aside0.mk (Kd.R_mono (ok' := fun k_ => (P1_ k_ ∨ w.heap.size ≤ k_) ∧ some k_ ≠ (.slice Ao11 l1.length co11 : Value).ownBlock ∧ some k_ ≠ (v128 : Value).ownBlock) (Kd.R_keptB (HO_9.out) hkp (fun k_ hk_ hs_ => (hk_.2) hs_)) (fun k_ hk_ => ⟨hk_.1.1.1, hk_.1.1.2, fun e_ => Or.elim (ho0.1 k_ e_.symm) (fun hs_ => hk_.2.1 hs_) (fun hn_ => Nat.not_le.2 hk_.2.2 hn_)⟩)); have n2_ := Aside0.mk (Kd.R_mono (ok' := fun k_ => (P1_ k_ ∨ w.heap.size ≤ k_) ∧ some k_ ≠ (.slice Ao11 l1.length co11 : Value).ownBlock ∧ some k_ ≠ (u9 : Value).ownBlock) ho0 (fun k_ hk_ => ⟨Or.elim hk_ (fun hs_ => (HO126.out.1 k_ (hs_).symm).1) (fun hn_ => (.inr (Nat.le_trans (by first | exact HK.out.1 | exact (show Kept w _ (fun k_ => P1_ k_) from by repeat (first | (with_reducible first | exact HK.out | apply Kept.alloc | apply Kept.drewN | apply Kept.drew) | exact HK.out)).1) hn_))), Or.elim hk_ (fun hs_ => fun e_ => (((HO_1.out).1 k_ e_.symm).2) hs_) (fun hn_ => (Kd.fresh' (Kd.R_lt (by (with_reducible repeat (first | apply Kd.R_alloc | apply Kd.R_drewN | apply Kd.R_drew)); exact HO_1.out)) k_ hn_)), Or.elim hk_ (fun hs_ => fun e_ => (((HO_9.out).1 k_ e_.symm).2) hs_) (fun hn_ => (Kd.fresh' (Kd.R_lt (by (with_reducible repeat (first | apply Kd.R_alloc | apply Kd.R_drewN | apply Kd.R_drew)); exact HO_9.out)) k_ hn_))⟩)); have n3_ := Aside0.mk (Kept.then_ (S := (fun k_ => P1_ k_)) (by repeat (first | (with_reducible first | exact HK.out | apply Kept.alloc | apply Kept.drewN | apply Kept.drew) | exact HK.out)) hkp (fun k_ hs_ => (fun e_ => (HO126.out.1 k_ e_.symm).1) hs_)); have n4_ := Aside0.mk (hb); clear HO_1; clear HO_9; clear HK; clear HB; clear HO126; have HO_1 := n0_; have HO_9 := n1_; have HO129 := n2_; have HK := n3_; have HB := n4_; clear n0_ n1_ n2_ n3_ n4_; (try clear hb); (try clear hkp); (try clear ho0)))
                  go_roundg k1
                  case measure => have := HK1.out; omega
                  case rel => exact ⟨(t127), (t130), (wrap64 (x11_1 + 1)), (by first | rfl | (simp; done) | (simp [*]; done)), (by first | rfl | (simp; done) | (simp [*]; done)), H', ⟨by have := HK1.out; omega⟩, ⟨by (with_reducible repeat (first | apply Kd.R_alloc | apply Kd.R_drewN | apply Kd.R_drew)); exact Kd.R_mono HO_1.out (fun _ hk => ⟨hk.1, hk.2.2⟩)⟩, ⟨by (with_reducible repeat (first | apply Kd.R_alloc | apply Kd.R_drewN | apply Kd.R_drew)); exact Kd.R_mono HO129.out (fun _ hk => ⟨hk.1, hk.2.1⟩)⟩, ⟨by repeat (first | (with_reducible first | exact HK.out | apply Kept.alloc | apply Kept.drewN | apply Kept.drew) | exact HK.out)⟩, ⟨by repeat (first | (with_reducible first | exact HB.out | apply below_alloc | apply pw_below_drewN | apply below_drew1) | exact HB.out)⟩⟩
                · rw [if_neg c24] at H
                  have c24b0 : decide (t130 < x10_1) = false := decide_eq_false c24
                  clear c24
                  have H' := Aside0.mk H
                  clear H
                  go_wp2_with (first | ((with_reducible refine gate_callee (f := 84) rfl ?_); refine goesL_ (some 42) rfl rfl Try.func84 (by kernel_rfl) rfl #[.slice Ao11 l1.length co11] rfl (by (try simp only [List.map_toArray, List.map_cons, List.map_nil]); first | done | rfl | (simp only [List.length_drop, List.length_take]; rfl)) ?_; (with_reducible refine (spec_l01Own.calls _ _ l1 t121 _ ?side1 ?side2 A15.out).mono ?_); (case side1 => repeat (first | exact (Kd.R_reads' HO_1.out).2.2 | (with_reducible refine Kd.C_alloc ?_ _) | (with_reducible refine Kd.C_drewN ?_ _) | (with_reducible refine Kd.C_drew ?_))); (case side2 => exact (Kd.R_reads' HO_1.out).2.1); rintro e w29 ⟨v122, rfl, ho0, hb⟩; refine ⟨_, rfl, ?_⟩; have n0_ := Aside0.mk (Kd.R_elder' (by (with_reducible repeat (first | apply Kd.R_alloc | apply Kd.R_drewN | apply Kd.R_drew)); exact HO_1.out) (Kd.R_base ho0) hb); have n1_ := Aside0.mk (Kd.R_elder' (by (with_reducible repeat (first | apply Kd.R_alloc | apply Kd.R_drewN | apply Kd.R_drew)); exact HO_9.out) (Kd.R_base ho0) hb); have n2_ := Aside0.mk (Kd.R_lower (Kd.R_new' (Kd.R_new' (Kd.R_newM (M := fun k_ => (P1_ k_ ∨ w.heap.size ≤ k_)) ho0 (by first | exact HK.out.1 | exact (show Kept w _ (fun k_ => P1_ k_) from by repeat (first | (with_reducible first | exact HK.out | apply Kept.alloc | apply Kept.drewN | apply Kept.drew) | exact HK.out)).1) (fun k_ h_ => .inr h_)) (Kd.R_lt (by (with_reducible repeat (first | apply Kd.R_alloc | apply Kd.R_drewN | apply Kd.R_drew)); exact HO_1.out))) (Kd.R_lt (by (with_reducible repeat (first | apply Kd.R_alloc | apply Kd.R_drewN | apply Kd.R_drew)); exact HO_9.out))) (below_size (by repeat (first | (with_reducible first | exact HB.out | apply below_alloc | apply pw_below_drewN | apply below_drew1) | exact HB.out)))); have n3_ := Aside0.mk (Kept.below (S := (fun k_ => P1_ k_)) (by repeat (first | (with_reducible first | exact HK.out | apply Kept.alloc | apply Kept.drewN | apply Kept.drew) | exact HK.out)) hb); have n4_ := Aside0.mk (below_step (by repeat (first | (with_reducible first | exact HB.out | apply below_alloc | apply pw_below_drewN | apply below_drew1) | exact HB.out)) hb); clear HO_1; clear HO_9; clear HK; clear HB; have HO_1 := n0_; have HO_9 := n1_; have HO123 := n2_; have HK := n3_; have HB := n4_; clear n0_ n1_ n2_ n3_ n4_; (try clear hb); (try clear hb2); (try clear hk); (try clear hi); (try clear ho0)) | ((with_reducible refine gate_builtin (b := .append) (xs := #[.tmp 42, .tmp 44]) rfl ?_); at_builtin; refine Kd.R_append (Kd.int .i64) (w0 := w0) w0.heap.size rfl (.tmp 42) (.tmp 44) 22 2 (.int .i64 0) 8 rfl Try.underlying22 info2 rfl (by decide) (by omega) v122 t121 x11_1 [.int .i64 x11_1] (fun k_ => (P1_ k_ ∨ w.heap.size ≤ k_) ∧ some k_ ≠ (.slice Ao11 l1.length co11 : Value).ownBlock ∧ some k_ ≠ (u9 : Value).ownBlock) (fun _ => False) rfl rfl ?aP (fun _ hk => hk.elim) ?aF ?aO ?aB ?aS ?aL ?_; (case aP => exact rfl); (case aB => exact (by repeat (first | (with_reducible first | exact HB.out | apply below_alloc | apply pw_below_drewN | apply below_drew1) | exact HB.out))); (case aF => exact (fun k_ hk => ⟨(.inr (Nat.le_trans (by first | exact HK.out.1 | exact (show Kept w _ (fun k_ => P1_ k_) from by repeat (first | (with_reducible first | exact HK.out | apply Kept.alloc | apply Kept.drewN | apply Kept.drew) | exact HK.out)).1) hk)), Kd.fresh' (Kd.R_lt (by (with_reducible repeat (first | apply Kd.R_alloc | apply Kd.R_drewN | apply Kd.R_drew)); exact HO_1.out)) k_ hk, Kd.fresh' (Kd.R_lt (by (with_reducible repeat (first | apply Kd.R_alloc | apply Kd.R_drewN | apply Kd.R_drew)); exact HO_9.out)) k_ hk⟩)); (case aO => exact (by (with_reducible repeat (first | apply Kd.R_alloc | apply Kd.R_drewN | apply Kd.R_drew)); exact Kd.R_mono HO123.out (fun _ hk => ⟨hk.1.1.1, ⟨hk.1.2, hk.2⟩⟩))); (case aS => exact (below_size (by repeat (first | (with_reducible first | exact HB.out | apply below_alloc | apply pw_below_drewN | apply below_drew1) | exact HB.out)))); (case aL => have := LMc16.out; omega); intro v125 w30 ho hb hg hat; rw [← Ny124.out] at ho; have n0_ := Aside0.mk (Kd.R_after (ok := (fun k_ => (P1_ k_ ∨ w.heap.size ≤ k_) ∧ some k_ ≠ (u9 : Value).ownBlock)) (by (with_reducible repeat (first | apply Kd.R_alloc | apply Kd.R_drewN | apply Kd.R_drew)); exact HO_1.out) hg hat); have n1_ := Aside0.mk (Kd.R_after (ok := (fun k_ => (P1_ k_ ∨ w.heap.size ≤ k_) ∧ some k_ ≠ (.slice Ao11 l1.length co11 : Value).ownBlock)) (by (with_reducible repeat (first | apply Kd.R_alloc | apply Kd.R_drewN | apply Kd.R_drew)); exact HO_9.out) hg hat); have n2_ := Aside0.mk (hb); have n3_ := Aside0.mk (Kept.of_grown (S := (fun k_ => P1_ k_)) hg (by repeat (first | (with_reducible first | exact HK.out | apply Kept.alloc | apply Kept.drewN | apply Kept.drew) | exact HK.out)) (fun k_ e_ => (HO123.out.1 k_ e_).1.1.1)); have n4_ := Aside0.mk (ho); clear HO_1; clear HO_9; clear HB; clear HK; clear HO123; have HO_1 := n0_; have HO_9 := n1_; have HB := n2_; have HK := n3_; have HO126 := n4_; clear n0_ n1_ n2_ n3_ n4_; clear ho hb hg hat; obtain ⟨Ao31, co31, eo31⟩ := Kd.R_slice HO126.out; subst eo31) | ((with_reducible refine gate_callee (f := 44) rfl ?_); refine goesL_ (some 47) rfl rfl Try.func44 (by kernel_rfl) rfl #[.slice A0 l0.length c0, .slice Ao31 y124.length co31, .int .i64 a2] rfl (by (try simp only [List.map_toArray, List.map_cons, List.map_nil]); first | done | rfl | (simp only [List.length_drop, List.length_take]; rfl)) ?_; (with_reducible refine (ih k1 (by have := HK1.out; omega) _ _ l0 (fun k_ => some k_ = (.slice Ao31 y124.length co31 : Value).ownBlock) (.slice Ao31 y124.length co31) y124 a2 t127 t130 w0 _ ?side1 ?side2 ?side3 ?side4 A17.out).mono ?_); (case side1 => repeat (first | (with_reducible first | exact HB.out | apply below_alloc | apply pw_below_drewN | apply below_drew1) | exact HB.out)); (case side2 => exact Kd.C_kept_call HR0.out (by repeat (first | (with_reducible first | exact HK.out | apply Kept.alloc | apply Kept.drewN | apply Kept.drew) | exact HK.out)) (fun k_ hs_ => (fun e_ => (HO126.out.1 k_ e_.symm).1) hs_)); (case side3 => exact HC0.out); (case side4 => exact Kd.R_tight rfl HO126.out); rintro e w32 ⟨v128, rfl, ho0, hb, hkp⟩; refine ⟨_, rfl, ?_⟩; have n0_ := Aside0.mk (Kd.R_mono (ok' := fun k_ => (P1_ k_ ∨ w.heap.size ≤ k_) ∧ some k_ ≠ (u9 : Value).ownBlock ∧ some k_ ≠ (v128 : Value).ownBlock) (Kd.R_keptB (HO_1.out) hkp (fun k_ hk_ hs_ => (hk_.2) hs_)) (fun k_ hk_ => ⟨hk_.1.1.1, hk_.1.1.2, fun e_ => Or.elim (ho0.1 k_ e_.symm) (fun hs_ => hk_.2.1 hs_) (fun hn_ => Nat.not_le.2 hk_.2.2 hn_)⟩)); have n1_ := Aside0.mk (Kd.R_mono (ok' := fun k_ => (P1_ k_ ∨ w.heap.size ≤ k_) ∧ some k_ ≠ (.slice Ao11 l1.length co11 : Value).ownBlock ∧ some k_ ≠ (v128 : Value).ownBlock) (Kd.R_keptB (HO_9.out) hkp (fun k_ hk_ hs_ => (hk_.2) hs_)) (fun k_ hk_ => ⟨hk_.1.1.1, hk_.1.1.2, fun e_ => Or.elim (ho0.1 k_ e_.symm) (fun hs_ => hk_.2.1 hs_) (fun hn_ => Nat.not_le.2 hk_.2.2 hn_)⟩)); have n2_ := Aside0.mk (Kd.R_mono (ok' := fun k_ => (P1_ k_ ∨ w.heap.size ≤ k_) ∧ some k_ ≠ (.slice Ao11 l1.length co11 : Value).ownBlock ∧ some k_ ≠ (u9 : Value).ownBlock) ho0 (fun k_ hk_ => ⟨Or.elim hk_ (fun hs_ => (HO126.out.1 k_ (hs_).symm).1) (fun hn_ => (.inr (Nat.le_trans (by first | exact HK.out.1 | exact (show Kept w _ (fun k_ => P1_ k_) from by repeat (first | (with_reducible first | exact HK.out | apply Kept.alloc | apply Kept.drewN | apply Kept.drew) | exact HK.out)).1) hn_))), Or.elim hk_ (fun hs_ => fun e_ => (((HO_1.out).1 k_ e_.symm).2) hs_) (fun hn_ => (Kd.fresh' (Kd.R_lt (by (with_reducible repeat (first | apply Kd.R_alloc | apply Kd.R_drewN | apply Kd.R_drew)); exact HO_1.out)) k_ hn_)), Or.elim hk_ (fun hs_ => fun e_ => (((HO_9.out).1 k_ e_.symm).2) hs_) (fun hn_ => (Kd.fresh' (Kd.R_lt (by (with_reducible repeat (first | apply Kd.R_alloc | apply Kd.R_drewN | apply Kd.R_drew)); exact HO_9.out)) k_ hn_))⟩)); have n3_ := Aside0.mk (Kept.then_ (S := (fun k_ => P1_ k_)) (by repeat (first | (with_reducible first | exact HK.out | apply Kept.alloc | apply Kept.drewN | apply Kept.drew) | exact HK.out)) hkp (fun k_ hs_ => (fun e_ => (HO126.out.1 k_ e_.symm).1) hs_)); have n4_ := Aside0.mk (hb); clear HO_1; clear HO_9; clear HK; clear HB; clear HO126; have HO_1 := n0_; have HO_9 := n1_; have HO129 := n2_; have HK := n3_; have HB := n4_; clear n0_ n1_ n2_ n3_ n4_; (try clear hb); (try clear hkp); (try clear ho0)))
                  go_roundg k1
                  case measure => have := HK1.out; omega
                  case rel => exact ⟨(x9_1), (x10_1), (wrap64 (x11_1 + 1)), (by first | rfl | (simp; done) | (simp [*]; done)), (by first | rfl | (simp; done) | (simp [*]; done)), H', ⟨by have := HK1.out; omega⟩, ⟨by (with_reducible repeat (first | apply Kd.R_alloc | apply Kd.R_drewN | apply Kd.R_drew)); exact Kd.R_mono HO_1.out (fun _ hk => ⟨hk.1, hk.2.1⟩)⟩, ⟨by (with_reducible repeat (first | apply Kd.R_alloc | apply Kd.R_drewN | apply Kd.R_drew)); exact Kd.R_mono HO_9.out (fun _ hk => ⟨hk.1, hk.2.1⟩)⟩, ⟨by repeat (first | (with_reducible first | exact HK.out | apply Kept.alloc | apply Kept.drewN | apply Kept.drew) | exact HK.out)⟩, ⟨by repeat (first | (with_reducible first | exact HB.out | apply below_alloc | apply pw_below_drewN | apply below_drew1) | exact HB.out)⟩⟩
            · rw [if_neg c18] at H
              have c18b0 : decide (0 ≤ t130) = false := decide_eq_false c18
              clear c18
              have H' := Aside0.mk H
              clear H
              go_wp2_with (first | ((with_reducible refine gate_callee (f := 84) rfl ?_); refine goesL_ (some 42) rfl rfl Try.func84 (by kernel_rfl) rfl #[.slice Ao11 l1.length co11] rfl (by (try simp only [List.map_toArray, List.map_cons, List.map_nil]); first | done | rfl | (simp only [List.length_drop, List.length_take]; rfl)) ?_; (with_reducible refine (spec_l01Own.calls _ _ l1 t121 _ ?side1 ?side2 A15.out).mono ?_); (case side1 => repeat (first | exact (Kd.R_reads' HO_1.out).2.2 | (with_reducible refine Kd.C_alloc ?_ _) | (with_reducible refine Kd.C_drewN ?_ _) | (with_reducible refine Kd.C_drew ?_))); (case side2 => exact (Kd.R_reads' HO_1.out).2.1); rintro e w33 ⟨v122, rfl, ho0, hb⟩; refine ⟨_, rfl, ?_⟩; have n0_ := Aside0.mk (Kd.R_elder' (by (with_reducible repeat (first | apply Kd.R_alloc | apply Kd.R_drewN | apply Kd.R_drew)); exact HO_1.out) (Kd.R_base ho0) hb); have n1_ := Aside0.mk (Kd.R_elder' (by (with_reducible repeat (first | apply Kd.R_alloc | apply Kd.R_drewN | apply Kd.R_drew)); exact HO_9.out) (Kd.R_base ho0) hb); have n2_ := Aside0.mk (Kd.R_lower (Kd.R_new' (Kd.R_new' (Kd.R_newM (M := fun k_ => (P1_ k_ ∨ w.heap.size ≤ k_)) ho0 (by first | exact HK.out.1 | exact (show Kept w _ (fun k_ => P1_ k_) from by repeat (first | (with_reducible first | exact HK.out | apply Kept.alloc | apply Kept.drewN | apply Kept.drew) | exact HK.out)).1) (fun k_ h_ => .inr h_)) (Kd.R_lt (by (with_reducible repeat (first | apply Kd.R_alloc | apply Kd.R_drewN | apply Kd.R_drew)); exact HO_1.out))) (Kd.R_lt (by (with_reducible repeat (first | apply Kd.R_alloc | apply Kd.R_drewN | apply Kd.R_drew)); exact HO_9.out))) (below_size (by repeat (first | (with_reducible first | exact HB.out | apply below_alloc | apply pw_below_drewN | apply below_drew1) | exact HB.out)))); have n3_ := Aside0.mk (Kept.below (S := (fun k_ => P1_ k_)) (by repeat (first | (with_reducible first | exact HK.out | apply Kept.alloc | apply Kept.drewN | apply Kept.drew) | exact HK.out)) hb); have n4_ := Aside0.mk (below_step (by repeat (first | (with_reducible first | exact HB.out | apply below_alloc | apply pw_below_drewN | apply below_drew1) | exact HB.out)) hb); clear HO_1; clear HO_9; clear HK; clear HB; have HO_1 := n0_; have HO_9 := n1_; have HO123 := n2_; have HK := n3_; have HB := n4_; clear n0_ n1_ n2_ n3_ n4_; (try clear hb); (try clear hb2); (try clear hk); (try clear hi); (try clear ho0)) | ((with_reducible refine gate_builtin (b := .append) (xs := #[.tmp 42, .tmp 44]) rfl ?_); at_builtin; refine Kd.R_append (Kd.int .i64) (w0 := w0) w0.heap.size rfl (.tmp 42) (.tmp 44) 22 2 (.int .i64 0) 8 rfl Try.underlying22 info2 rfl (by decide) (by omega) v122 t121 x11_1 [.int .i64 x11_1] (fun k_ => (P1_ k_ ∨ w.heap.size ≤ k_) ∧ some k_ ≠ (.slice Ao11 l1.length co11 : Value).ownBlock ∧ some k_ ≠ (u9 : Value).ownBlock) (fun _ => False) rfl rfl ?aP (fun _ hk => hk.elim) ?aF ?aO ?aB ?aS ?aL ?_; (case aP => exact rfl); (case aB => exact (by repeat (first | (with_reducible first | exact HB.out | apply below_alloc | apply pw_below_drewN | apply below_drew1) | exact HB.out))); (case aF => exact (fun k_ hk => ⟨(.inr (Nat.le_trans (by first | exact HK.out.1 | exact (show Kept w _ (fun k_ => P1_ k_) from by repeat (first | (with_reducible first | exact HK.out | apply Kept.alloc | apply Kept.drewN | apply Kept.drew) | exact HK.out)).1) hk)), Kd.fresh' (Kd.R_lt (by (with_reducible repeat (first | apply Kd.R_alloc | apply Kd.R_drewN | apply Kd.R_drew)); exact HO_1.out)) k_ hk, Kd.fresh' (Kd.R_lt (by (with_reducible repeat (first | apply Kd.R_alloc | apply Kd.R_drewN | apply Kd.R_drew)); exact HO_9.out)) k_ hk⟩)); (case aO => exact (by (with_reducible repeat (first | apply Kd.R_alloc | apply Kd.R_drewN | apply Kd.R_drew)); exact Kd.R_mono HO123.out (fun _ hk => ⟨hk.1.1.1, ⟨hk.1.2, hk.2⟩⟩))); (case aS => exact (below_size (by repeat (first | (with_reducible first | exact HB.out | apply below_alloc | apply pw_below_drewN | apply below_drew1) | exact HB.out)))); (case aL => have := LMc16.out; omega); intro v125 w34 ho hb hg hat; rw [← Ny124.out] at ho; have n0_ := Aside0.mk (Kd.R_after (ok := (fun k_ => (P1_ k_ ∨ w.heap.size ≤ k_) ∧ some k_ ≠ (u9 : Value).ownBlock)) (by (with_reducible repeat (first | apply Kd.R_alloc | apply Kd.R_drewN | apply Kd.R_drew)); exact HO_1.out) hg hat); have n1_ := Aside0.mk (Kd.R_after (ok := (fun k_ => (P1_ k_ ∨ w.heap.size ≤ k_) ∧ some k_ ≠ (.slice Ao11 l1.length co11 : Value).ownBlock)) (by (with_reducible repeat (first | apply Kd.R_alloc | apply Kd.R_drewN | apply Kd.R_drew)); exact HO_9.out) hg hat); have n2_ := Aside0.mk (hb); have n3_ := Aside0.mk (Kept.of_grown (S := (fun k_ => P1_ k_)) hg (by repeat (first | (with_reducible first | exact HK.out | apply Kept.alloc | apply Kept.drewN | apply Kept.drew) | exact HK.out)) (fun k_ e_ => (HO123.out.1 k_ e_).1.1.1)); have n4_ := Aside0.mk (ho); clear HO_1; clear HO_9; clear HB; clear HK; clear HO123; have HO_1 := n0_; have HO_9 := n1_; have HB := n2_; have HK := n3_; have HO126 := n4_; clear n0_ n1_ n2_ n3_ n4_; clear ho hb hg hat; obtain ⟨Ao35, co35, eo35⟩ := Kd.R_slice HO126.out; subst eo35) | ((with_reducible refine gate_callee (f := 44) rfl ?_); refine goesL_ (some 47) rfl rfl Try.func44 (by kernel_rfl) rfl #[.slice A0 l0.length c0, .slice Ao35 y124.length co35, .int .i64 a2] rfl (by (try simp only [List.map_toArray, List.map_cons, List.map_nil]); first | done | rfl | (simp only [List.length_drop, List.length_take]; rfl)) ?_; (with_reducible refine (ih k1 (by have := HK1.out; omega) _ _ l0 (fun k_ => some k_ = (.slice Ao35 y124.length co35 : Value).ownBlock) (.slice Ao35 y124.length co35) y124 a2 t127 t130 w0 _ ?side1 ?side2 ?side3 ?side4 A17.out).mono ?_); (case side1 => repeat (first | (with_reducible first | exact HB.out | apply below_alloc | apply pw_below_drewN | apply below_drew1) | exact HB.out)); (case side2 => exact Kd.C_kept_call HR0.out (by repeat (first | (with_reducible first | exact HK.out | apply Kept.alloc | apply Kept.drewN | apply Kept.drew) | exact HK.out)) (fun k_ hs_ => (fun e_ => (HO126.out.1 k_ e_.symm).1) hs_)); (case side3 => exact HC0.out); (case side4 => exact Kd.R_tight rfl HO126.out); rintro e w36 ⟨v128, rfl, ho0, hb, hkp⟩; refine ⟨_, rfl, ?_⟩; have n0_ := Aside0.mk (Kd.R_mono (ok' := fun k_ => (P1_ k_ ∨ w.heap.size ≤ k_) ∧ some k_ ≠ (u9 : Value).ownBlock ∧ some k_ ≠ (v128 : Value).ownBlock) (Kd.R_keptB (HO_1.out) hkp (fun k_ hk_ hs_ => (hk_.2) hs_)) (fun k_ hk_ => ⟨hk_.1.1.1, hk_.1.1.2, fun e_ => Or.elim (ho0.1 k_ e_.symm) (fun hs_ => hk_.2.1 hs_) (fun hn_ => Nat.not_le.2 hk_.2.2 hn_)⟩)); have n1_ := Aside0.mk (Kd.R_mono (ok' := fun k_ => (P1_ k_ ∨ w.heap.size ≤ k_) ∧ some k_ ≠ (.slice Ao11 l1.length co11 : Value).ownBlock ∧ some k_ ≠ (v128 : Value).ownBlock) (Kd.R_keptB (HO_9.out) hkp (fun k_ hk_ hs_ => (hk_.2) hs_)) (fun k_ hk_ => ⟨hk_.1.1.1, hk_.1.1.2, fun e_ => Or.elim (ho0.1 k_ e_.symm) (fun hs_ => hk_.2.1 hs_) (fun hn_ => Nat.not_le.2 hk_.2.2 hn_)⟩)); have n2_ := Aside0.mk (Kd.R_mono (ok' := fun k_ => (P1_ k_ ∨ w.heap.size ≤ k_) ∧ some k_ ≠ (.slice Ao11 l1.length co11 : Value).ownBlock ∧ some k_ ≠ (u9 : Value).ownBlock) ho0 (fun k_ hk_ => ⟨Or.elim hk_ (fun hs_ => (HO126.out.1 k_ (hs_).symm).1) (fun hn_ => (.inr (Nat.le_trans (by first | exact HK.out.1 | exact (show Kept w _ (fun k_ => P1_ k_) from by repeat (first | (with_reducible first | exact HK.out | apply Kept.alloc | apply Kept.drewN | apply Kept.drew) | exact HK.out)).1) hn_))), Or.elim hk_ (fun hs_ => fun e_ => (((HO_1.out).1 k_ e_.symm).2) hs_) (fun hn_ => (Kd.fresh' (Kd.R_lt (by (with_reducible repeat (first | apply Kd.R_alloc | apply Kd.R_drewN | apply Kd.R_drew)); exact HO_1.out)) k_ hn_)), Or.elim hk_ (fun hs_ => fun e_ => (((HO_9.out).1 k_ e_.symm).2) hs_) (fun hn_ => (Kd.fresh' (Kd.R_lt (by (with_reducible repeat (first | apply Kd.R_alloc | apply Kd.R_drewN | apply Kd.R_drew)); exact HO_9.out)) k_ hn_))⟩)); have n3_ := Aside0.mk (Kept.then_ (S := (fun k_ => P1_ k_)) (by repeat (first | (with_reducible first | exact HK.out | apply Kept.alloc | apply Kept.drewN | apply Kept.drew) | exact HK.out)) hkp (fun k_ hs_ => (fun e_ => (HO126.out.1 k_ e_.symm).1) hs_)); have n4_ := Aside0.mk (hb); clear HO_1; clear HO_9; clear HK; clear HB; clear HO126; have HO_1 := n0_; have HO_9 := n1_; have HO129 := n2_; have HK := n3_; have HB := n4_; clear n0_ n1_ n2_ n3_ n4_; (try clear hb); (try clear hkp); (try clear ho0)))
              go_roundg k1
              case measure => have := HK1.out; omega
              case rel => exact ⟨(x9_1), (x10_1), (wrap64 (x11_1 + 1)), (by first | rfl | (simp; done) | (simp [*]; done)), (by first | rfl | (simp; done) | (simp [*]; done)), H', ⟨by have := HK1.out; omega⟩, ⟨by (with_reducible repeat (first | apply Kd.R_alloc | apply Kd.R_drewN | apply Kd.R_drew)); exact Kd.R_mono HO_1.out (fun _ hk => ⟨hk.1, hk.2.1⟩)⟩, ⟨by (with_reducible repeat (first | apply Kd.R_alloc | apply Kd.R_drewN | apply Kd.R_drew)); exact Kd.R_mono HO_9.out (fun _ hk => ⟨hk.1, hk.2.1⟩)⟩, ⟨by repeat (first | (with_reducible first | exact HK.out | apply Kept.alloc | apply Kept.drewN | apply Kept.drew) | exact HK.out)⟩, ⟨by repeat (first | (with_reducible first | exact HB.out | apply below_alloc | apply pw_below_drewN | apply below_drew1) | exact HB.out)⟩⟩
          · rw [if_neg c16] at H
            exact absurd H (by simp)
        · rw [if_neg c14] at H
          have c14b0 : decide (x11_1 < (l0.length : Int)) = false := decide_eq_false c14
          clear c14
          simp only [Option.some.injEq, Prod.mk.injEq] at H
          obtain ⟨rfl, rfl⟩ := H
          go_wp2
          go_ret2
          exact ⟨_, by first | rfl | (simp [errW_none, errW_some] <;> rfl) | (simp [*, errW_none, errW_some] <;> rfl), by (with_reducible repeat (first | apply Kd.R_alloc | apply Kd.R_drewN | apply Kd.R_drew)); exact Kd.R_mono HO_9.out (fun _ hk => hk.1), by repeat (first | (with_reducible first | exact HB.out | apply below_alloc | apply pw_below_drewN | apply below_drew1) | exact HB.out), by repeat (first | (with_reducible first | exact HK.out | apply Kept.alloc | apply Kept.drewN | apply Kept.drew) | exact HK.out)⟩

end Go.Proofs.Ytoakdilhljnjfaa.Q
-- written by wip/tools/printx.py (this session's) out of the translation; Lean checks it
namespace Go.Proofs.Ytoakdilhljnjfaa.Q
open Go.RowKit Go.Proofs.YtoakdilhljnjfaaW.PrintWords Go.Proofs.YtoakdilhljnjfaaW.PrintLast Go.Proofs.YtoakdilhljnjfaaW.PrintMore
attribute [local go_sem] max2_int min2_int max_two min_two max_three min_three max_four min_four   -- for this text's walks alone
set_option linter.unusedVariables false
set_option linter.unusedSimpArgs false

/-! ### spec_BestTurns: function 7 -/
def spec_BestTurns.j0 : Nat → List Int → Int → Bool → Option (List Int × Int)
  | 0, _, _, _ => none
  | k + 1, x0, x1, x15 => if x15 = true then (some (([] : List Int), 2)) else (if x1 < (x0.length : Int) then (some (([] : List Int), 3)) else ((spec_l10Best.f k x0 (([] : List Int)) x1).bind fun bt136 => (some (bt136.1, 0))))
def spec_BestTurns.f (k : Nat) (l0 : List Int) (a1 : Int) : Option (List Int × Int) := (spec_l10Weights.f k l0 1 3).bind fun t131 => (if t131 = true then ((spec_l01In.f a1 1 8).bind fun t132 => (spec_BestTurns.j0 k l0 a1 (!t132))) else (spec_BestTurns.j0 k l0 a1 true))
theorem spec_BestTurns.mono_l : ∀ k, (∀ y0 y1 y2, LeO (spec_BestTurns.j0 k y0 y1 y2) (spec_BestTurns.j0 (k + 1) y0 y1 y2))
  | 0 => fun _ _ _ r h => by simp [spec_BestTurns.j0] at h
  | k + 1 => by
    have ih0 := spec_BestTurns.mono_l k
    · intro y0 y1 y2
      unfold spec_BestTurns.j0
      repeat' first
      | (with_reducible exact ih0 _ _ _)
      | (with_reducible exact spec_l10Best.mono _ _ _ _)
      | (with_reducible exact spec_l10Weights.mono _ _ _ _)
      | (with_reducible exact LeO.refl _)
      | (with_reducible exact LeO.none _)
      | (with_reducible refine LeO.ite ?_ ?_)
      | (with_reducible refine LeO.bind ?_ (fun _ => ?_))
      | exact ih0 _ _ _
      | exact spec_l10Best.mono _ _ _ _
      | exact spec_l10Weights.mono _ _ _ _
      | exact LeO.none _
      | refine LeO.ite ?_ ?_
      | refine LeO.bind ?_ (fun _ => ?_)
theorem spec_BestTurns.mono : ∀ a0 a1 k, LeO (spec_BestTurns.f k a0 a1) (spec_BestTurns.f (k + 1) a0 a1) := by
  intro a0 a1 k
  have ih0 := spec_BestTurns.mono_l k
  unfold spec_BestTurns.f
  repeat' first
      | (with_reducible exact ih0 _ _ _)
      | (with_reducible exact spec_l10Best.mono _ _ _ _)
      | (with_reducible exact spec_l10Weights.mono _ _ _ _)
      | (with_reducible exact LeO.refl _)
      | (with_reducible exact LeO.none _)
      | (with_reducible refine LeO.ite ?_ ?_)
      | (with_reducible refine LeO.bind ?_ (fun _ => ?_))
      | exact ih0 _ _ _
      | exact spec_l10Best.mono _ _ _ _
      | exact spec_l10Weights.mono _ _ _ _
      | exact LeO.none _
      | refine LeO.ite ?_ ?_
      | refine LeO.bind ?_ (fun _ => ?_)
set_option maxHeartbeats 8000000 in
set_option maxRecDepth 100000 in
theorem spec_BestTurns.calls (k : Nat) (A0 : Option Addr) (c0 : Nat) (l0 : List Int) (a1 : Int) (r1 : List Int) (r2 : Int) (w : World) (hr0 : Kd.C (Kd.int .i64) w A0 l0.length l0) (hc0 : l0.length ≤ c0) (h : spec_BestTurns.f k l0 a1 = some (r1, r2)) :
    Calls Try.prog 7 #[.slice A0 l0.length c0, .int .i64 a1] w fun e w' => ∃ v0_ : Value, e = .returned (.tuple #[v0_, .int .i64 r2]) ∧ Kd.R (Kd.int .i64) 2 w' w.heap.size (fun _ => True) v0_ r1 ∧ Below w.heap.size w w' := by
  have HR0 := Aside0.mk hr0
  have HC0 := Aside0.mk hc0
  clear hr0 hc0
  have HB := Aside0.mk (Below.refl w.heap.size w)
  have H : ((spec_l10Weights.f k l0 1 3).bind fun t131 => (if t131 = true then ((spec_l01In.f a1 1 8).bind fun t132 => (spec_BestTurns.j0 k l0 a1 (!t132))) else (spec_BestTurns.j0 k l0 a1 true))) = some (r1, r2) := h
  clear h
  have HC3 := Aside0.mk H
  clear H
  go_enter Try.func7, Try.ntmps7
  go_upto_region 1 with (fail)
  go_cut [15] (fun v15 wc => ∃ (kq : Nat) (x15_2 : Bool), v15 = .bool x15_2 ∧ Aside0 (spec_BestTurns.j0 kq l0 a1 x15_2 = some (r1, r2)) ∧ Aside0 (kq ≤ k) ∧ Aside0 (Below w.heap.size w wc))
  case first =>
    have H := HC3.out
    clear HC3
    replace H := Option.bind_eq_some_iff.mp H
    obtain ⟨t131, A40, H⟩ := H
    replace H : (if t131 = true then ((spec_l01In.f a1 1 8).bind fun t132 => (spec_BestTurns.j0 k l0 a1 (!t132))) else (spec_BestTurns.j0 k l0 a1 true)) = some (r1, r2) := H
    have A4 := Aside0.mk A40
    clear A40
    by_cases c5 : t131 = true
    · subst c5
      have H1 : ((spec_l01In.f a1 1 8).bind fun t132 => (spec_BestTurns.j0 k l0 a1 (!t132))) = some (r1, r2) := by rw [if_pos rfl] at H; exact H
      clear H
      have H := H1
      clear H1
      replace H := Option.bind_eq_some_iff.mp H
      obtain ⟨t132, A60, H⟩ := H
      replace H : (spec_BestTurns.j0 k l0 a1 (!t132)) = some (r1, r2) := H
      have A6 := Aside0.mk A60
      clear A60
      have H' := Aside0.mk H
      clear H
      go_wp2_with (first | ((with_reducible refine gate_callee (f := 42) rfl ?_); refine goesL_ (some 9) rfl rfl Try.func42 (by kernel_rfl) rfl #[.slice A0 l0.length c0, .int .i64 1, .int .i64 3] rfl (by (try simp only [List.map_toArray, List.map_cons, List.map_nil]); first | done | rfl | (simp only [List.length_drop, List.length_take]; rfl)) ?_; (with_reducible refine (spec_l10Weights.calls k _ _ l0 1 3 true _ ?side1 ?side2 A4.out).mono ?_); (case side1 => repeat (first | exact (Kd.C_below HR0.out HB.out) | (with_reducible refine Kd.C_alloc ?_ _) | (with_reducible refine Kd.C_drewN ?_ _) | (with_reducible refine Kd.C_drew ?_))); (case side2 => exact HC0.out); rintro e w' ⟨rfl, ⟨nd, rfl⟩⟩; refine ⟨_, rfl, ?_⟩) | (go_at_call 43; (with_reducible refine (spec_l01In.calls a1 1 8 t132 _ A6.out).mono ?_); rintro e w' ⟨rfl, ⟨nd, rfl⟩⟩))
      go_meet
      case rel => exact ⟨_, (!t132), (by first | rfl | (simp; done) | (simp [*]; done)), H', ⟨by first | omega | exact Nat.le_refl _⟩, ⟨by repeat (first | (with_reducible first | exact HB.out | apply below_alloc | apply pw_below_drewN | apply below_drew1) | exact HB.out)⟩⟩
    · replace c5 := Bool.eq_false_iff.mpr c5
      subst c5
      have H1 : (spec_BestTurns.j0 k l0 a1 true) = some (r1, r2) := by rw [if_neg (show ¬ (false = true) by decide)] at H; exact H
      clear H
      have H := H1
      clear H1
      have H' := Aside0.mk H
      clear H
      go_wp2_with (first | ((with_reducible refine gate_callee (f := 42) rfl ?_); refine goesL_ (some 9) rfl rfl Try.func42 (by kernel_rfl) rfl #[.slice A0 l0.length c0, .int .i64 1, .int .i64 3] rfl (by (try simp only [List.map_toArray, List.map_cons, List.map_nil]); first | done | rfl | (simp only [List.length_drop, List.length_take]; rfl)) ?_; (with_reducible refine (spec_l10Weights.calls k _ _ l0 1 3 false _ ?side1 ?side2 A4.out).mono ?_); (case side1 => repeat (first | exact (Kd.C_below HR0.out HB.out) | (with_reducible refine Kd.C_alloc ?_ _) | (with_reducible refine Kd.C_drewN ?_ _) | (with_reducible refine Kd.C_drew ?_))); (case side2 => exact HC0.out); rintro e w' ⟨rfl, ⟨nd, rfl⟩⟩; refine ⟨_, rfl, ?_⟩))
      go_meet
      case rel => exact ⟨_, (true), (by first | rfl | (simp; done) | (simp [*]; done)), H', ⟨by first | omega | exact Nat.le_refl _⟩, ⟨by repeat (first | (with_reducible first | exact HB.out | apply below_alloc | apply pw_below_drewN | apply below_drew1) | exact HB.out)⟩⟩
  case rest =>
    clear HC3
    try clear p2
    try clear c4
    try clear c5
    obtain ⟨kq, x15_2, rfl, HA, HJ2, HB⟩ := hcut
    cases kq with
    | zero => exact absurd HA.out (by simp [spec_BestTurns.j0])
    | succ kj2 =>
      have H := HA.out
      clear HA
      simp only [spec_BestTurns.j0] at H
      by_cases c7 : x15_2 = true
      · subst c7
        have H1 : (some (([] : List Int), 2)) = some (r1, r2) := by rw [if_pos rfl] at H; exact H
        clear H
        have H := H1
        clear H1
        simp only [Option.some.injEq, Prod.mk.injEq] at H
        obtain ⟨rfl, rfl⟩ := H
        go_wp2
        go_ret2
        exact ⟨_, by first | rfl | (simp [errW_none, errW_some] <;> rfl) | (simp [*, errW_none, errW_some] <;> rfl), by first | exact Kd.R_nil _ _ _ _ _ | exact Kd.N_nil _ _ _ _ _ | exact Kd.V_nil _ _ _ _ _ | exact Kd.Q_nil _ _ _ _ _ | exact Kd.S_nil _ _ _ _ _, by repeat (first | (with_reducible first | exact HB.out | apply below_alloc | apply pw_below_drewN | apply below_drew1) | exact HB.out)⟩
      · replace c7 := Bool.eq_false_iff.mpr c7
        subst c7
        have H1 : (if a1 < (l0.length : Int) then (some (([] : List Int), 3)) else ((spec_l10Best.f kj2 l0 (([] : List Int)) a1).bind fun bt136 => (some (bt136.1, 0)))) = some (r1, r2) := by rw [if_neg (show ¬ (false = true) by decide)] at H; exact H
        clear H
        have H := H1
        clear H1
        by_cases c8 : a1 < (l0.length : Int)
        · rw [if_pos c8] at H
          have c8b0 : decide (a1 < (l0.length : Int)) = true := decide_eq_true c8
          clear c8
          simp only [Option.some.injEq, Prod.mk.injEq] at H
          obtain ⟨rfl, rfl⟩ := H
          go_wp2
          go_ret2
          exact ⟨_, by first | rfl | (simp [errW_none, errW_some] <;> rfl) | (simp [*, errW_none, errW_some] <;> rfl), by first | exact Kd.R_nil _ _ _ _ _ | exact Kd.N_nil _ _ _ _ _ | exact Kd.V_nil _ _ _ _ _ | exact Kd.Q_nil _ _ _ _ _ | exact Kd.S_nil _ _ _ _ _, by repeat (first | (with_reducible first | exact HB.out | apply below_alloc | apply pw_below_drewN | apply below_drew1) | exact HB.out)⟩
        · rw [if_neg c8] at H
          have c8b0 : decide (a1 < (l0.length : Int)) = false := decide_eq_false c8
          clear c8
          obtain ⟨y133, hy133⟩ : ∃ y_ : List Int, y_ = (([] : List Int)) := ⟨_, rfl⟩
          replace H : ((spec_l10Best.f kj2 l0 y133 a1).bind fun bt136 => (some (bt136.1, 0))) = some (r1, r2) := by first | (rw [hy133]; with_reducible exact H) | (have H2_ := (Option.bind_some _ _).symm.trans H; rw [hy133]; with_reducible exact H2_) | (have H2_ := (Option.bind_some _ _).symm.trans H; with_reducible exact H2_) | with_reducible exact H | (rw [hy133]; exact H) | exact H
          have Ny133 := Aside0.mk hy133
          clear hy133
          replace H := Option.bind_eq_some_iff.mp H
          obtain ⟨⟨t136, t139⟩, A90, H⟩ := H
          replace H : (some (t136, 0)) = some (r1, r2) := H
          have A9 := Aside0.mk A90
          clear A90
          simp only [Option.some.injEq, Prod.mk.injEq] at H
          obtain ⟨rfl, rfl⟩ := H
          go_wp2_with (first | ((with_reducible refine gate_dst (N := 22) rfl ?_); refine Kd.R_lit (Kd.int .i64) _ 2 ?hg (N := 22) ?hd (xs := ([] : List Int)) (inner := []) (ok := fun _ => True) (okp := fun _ => True) ?hr ?hp (fun _ hk => hk) trivial (Below.refl _ _) (Nat.le_refl _) (by simp) ?_; (case hd => rfl); (case hg => rfl); (case hr => first | (go_simp; done) | (go_simp; rfl)); (case hp => exact (Reps.none _ _)); intro v134 w10 ho11 hb hg_ hnew_; clear hg_ hnew_; (first | rw [← Ny133.out] at ho11 | (simp only [Int.reduceToNat] at ho11; rw [← Ny133.out] at ho11)); have n0_ := Aside0.mk (Kd.R_lower ho11 (below_size (by repeat (first | (with_reducible first | exact HB.out | apply below_alloc | apply pw_below_drewN | apply below_drew1) | exact HB.out)))); have n1_ := Aside0.mk (below_step (by repeat (first | (with_reducible first | exact HB.out | apply below_alloc | apply pw_below_drewN | apply below_drew1) | exact HB.out)) hb); clear HB; have HO135 := n0_; have HB := n1_; clear n0_ n1_; clear hb ho11; obtain ⟨Ao12, co12, eo12⟩ := Kd.R_slice HO135.out; subst eo12) | ((with_reducible refine gate_callee (f := 44) rfl ?_); refine goesL_ (some 24) rfl rfl Try.func44 (by kernel_rfl) rfl #[.slice A0 l0.length c0, .slice Ao12 y133.length co12, .int .i64 a1] rfl (by (try simp only [List.map_toArray, List.map_cons, List.map_nil]); first | done | rfl | (simp only [List.length_drop, List.length_take]; rfl)) ?_; (with_reducible refine (spec_l10Best.calls kj2 _ _ l0 (fun k_ => some k_ = (.slice Ao12 y133.length co12 : Value).ownBlock) (.slice Ao12 y133.length co12) y133 a1 t136 t139 w _ ?side1 ?side2 ?side3 ?side4 A9.out).mono ?_); (case side1 => repeat (first | (with_reducible first | exact HB.out | apply below_alloc | apply pw_below_drewN | apply below_drew1) | exact HB.out)); (case side2 => exact Kd.C_kept_came (Kd.heap_int .i64) HR0.out (by repeat (first | (with_reducible first | exact HB.out | apply below_alloc | apply pw_below_drewN | apply below_drew1) | exact HB.out)) (fun k_ hs_ => (fun e_ => Kd.R_base HO135.out k_ e_.symm) hs_)); (case side3 => exact HC0.out); (case side4 => exact Kd.R_tight rfl HO135.out); rintro e w13 ⟨v137, rfl, ho0, hb, hkp⟩; refine ⟨_, rfl, ?_⟩; have n0_ := Aside0.mk (Kd.R_mono (ok' := fun k_ => True) ho0 (fun k_ hk_ => trivial)); have n1_ := Aside0.mk (hb); clear HB; clear HO135; have HO138 := n0_; have HB := n1_; clear n0_ n1_; (try clear hb); (try clear hkp); (try clear ho0)))
          go_ret2
          exact ⟨_, by first | rfl | (simp [errW_none, errW_some] <;> rfl) | (simp [*, errW_none, errW_some] <;> rfl), by (with_reducible repeat (first | apply Kd.R_alloc | apply Kd.R_drewN | apply Kd.R_drew)); exact HO138.out, by repeat (first | (with_reducible first | exact HB.out | apply below_alloc | apply pw_below_drewN | apply below_drew1) | exact HB.out)⟩

end Go.Proofs.Ytoakdilhljnjfaa.Q
-- written by wip/tools/printx.py (this session's) out of the translation; Lean checks it
namespace Go.Proofs.Ytoakdilhljnjfaa.Q
open Go.RowKit Go.Proofs.YtoakdilhljnjfaaW.PrintWords Go.Proofs.YtoakdilhljnjfaaW.PrintLast Go.Proofs.YtoakdilhljnjfaaW.PrintMore
attribute [local go_sem] max2_int min2_int max_two min_two max_three min_three max_four min_four   -- for this text's walks alone
set_option linter.unusedVariables false
set_option linter.unusedSimpArgs false

/-! ### laws_toInt64S: function 8 -/
def laws_toInt64S.l0 : Nat → List Int → List Int → Int → Option (List Int)
  | 0, _, _, _ => none
  | k + 1, x0, x3, x4 => if x4 < (x0.length : Int) then (if 0 ≤ x4 then (if x4 < (x3.length : Int) then (laws_toInt64S.l0 k x0 (x3.set (x4 : Int).toNat (rd x0 x4)) (wrap64 (x4 + 1))) else (none)) else (none)) else (some x3)
def laws_toInt64S.f (k : Nat) (l0 : List Int) : Option (List Int) := if 0 ≤ (l0.length : Int) then (if ((l0.length : Int) : Int).toNat ≤ 35184372088832 then (laws_toInt64S.l0 k l0 (List.replicate ((l0.length : Int) : Int).toNat 0) 0) else (none)) else (none)
theorem laws_toInt64S.mono_l : ∀ k, (∀ y0 y1 y2, LeO (laws_toInt64S.l0 k y0 y1 y2) (laws_toInt64S.l0 (k + 1) y0 y1 y2))
  | 0 => fun _ _ _ r h => by simp [laws_toInt64S.l0] at h
  | k + 1 => by
    have ih0 := laws_toInt64S.mono_l k
    · intro y0 y1 y2
      unfold laws_toInt64S.l0
      repeat' first
      | (with_reducible exact ih0 _ _ _)
      | (with_reducible exact LeO.refl _)
      | (with_reducible exact LeO.none _)
      | (with_reducible refine LeO.ite ?_ ?_)
      | (with_reducible refine LeO.bind ?_ (fun _ => ?_))
      | exact ih0 _ _ _
      | exact LeO.none _
      | refine LeO.ite ?_ ?_
      | refine LeO.bind ?_ (fun _ => ?_)
theorem laws_toInt64S.mono : ∀ a0 k, LeO (laws_toInt64S.f k a0) (laws_toInt64S.f (k + 1) a0) := by
  intro a0 k
  have ih0 := laws_toInt64S.mono_l k
  unfold laws_toInt64S.f
  repeat' first
      | (with_reducible exact ih0 _ _ _)
      | (with_reducible exact LeO.refl _)
      | (with_reducible exact LeO.none _)
      | (with_reducible refine LeO.ite ?_ ?_)
      | (with_reducible refine LeO.bind ?_ (fun _ => ?_))
      | exact ih0 _ _ _
      | exact LeO.none _
      | refine LeO.ite ?_ ?_
      | refine LeO.bind ?_ (fun _ => ?_)
set_option maxHeartbeats 8000000 in
set_option maxRecDepth 100000 in
theorem laws_toInt64S.calls (k : Nat) (A0 : Option Addr) (c0 : Nat) (l0 : List Int) (r : List Int) (w : World) (hr0 : Kd.C (Kd.int .i64) w A0 l0.length l0) (hc0 : l0.length ≤ c0) (h : laws_toInt64S.f k l0 = some r) :
    Calls Try.prog 8 #[.slice A0 l0.length c0] w fun e w' => ∃ v0_ : Value, e = .returned (v0_) ∧ Kd.R (Kd.int .i64) 2 w' w.heap.size (fun _ => True) v0_ r ∧ Below w.heap.size w w' := by
  have HR0 := Aside0.mk hr0
  have HC0 := Aside0.mk hc0
  clear hr0 hc0
  have HB := Aside0.mk (Below.refl w.heap.size w)
  have H : (if 0 ≤ (l0.length : Int) then (if ((l0.length : Int) : Int).toNat ≤ 35184372088832 then (laws_toInt64S.l0 k l0 (List.replicate ((l0.length : Int) : Int).toNat 0) 0) else (none)) else (none)) = some r := h
  clear h
  by_cases c2 : 0 ≤ (l0.length : Int)
  · rw [if_pos c2] at H
    have c2b0 := eq_true c2
    have c2b1 : decide (0 ≤ (l0.length : Int)) = true := decide_eq_true c2
    clear c2
    by_cases c3 : ((l0.length : Int) : Int).toNat ≤ 35184372088832
    · rw [if_pos c3] at H
      have c3b0 := eq_true c3
      have c3b1 : decide (((l0.length : Int) : Int).toNat ≤ 35184372088832) = true := decide_eq_true c3
      clear c3
      obtain ⟨y140, hy140⟩ : ∃ y_ : List Int, y_ = (List.replicate ((l0.length : Int) : Int).toNat 0) := ⟨_, rfl⟩
      replace H : (laws_toInt64S.l0 k l0 y140 0) = some r := by first | (rw [hy140]; with_reducible exact H) | (have H2_ := (Option.bind_some _ _).symm.trans H; rw [hy140]; with_reducible exact H2_) | (have H2_ := (Option.bind_some _ _).symm.trans H; with_reducible exact H2_) | with_reducible exact H | (rw [hy140]; exact H) | exact H
      have Ny140 := Aside0.mk hy140
      clear hy140
      have H' := Aside0.mk H
      clear H
      go_enter Try.func8, Try.ntmps8
      go_wp2_with (first | ((with_reducible refine gate_dst (N := 7) rfl ?_); refine Kd.R_make (Kd.int .i64) _ 2 rfl (N := 7) rfl 22 _ _ rfl (l0.length : Int) rfl rfl Try.underlying22 (.int .i64 0) 8 info2 rfl (by decide) (by omega) 0 (ok := fun _ => True) (okp := fun _ => True) rfl (fun _ hk => hk) trivial (of_decide_eq_true (by first | (with_reducible assumption) | assumption)) (Nat.le_trans (Nat.mul_le_mul_right _ (of_decide_eq_true (by first | (with_reducible assumption) | assumption) : (l0.length : Int).toNat ≤ 35184372088832)) (by omega)) (Below.refl _ _) (Nat.le_refl _) ?_; intro v141 w4 ho5 hb hg_ hnew_; clear hg_ hnew_; (first | rw [← Ny140.out] at ho5 | (simp only [Int.reduceToNat] at ho5; rw [← Ny140.out] at ho5)); have n0_ := Aside0.mk (Kd.R_lower ho5 (below_size (by repeat (first | (with_reducible first | exact HB.out | apply below_alloc | apply pw_below_drewN | apply below_drew1) | exact HB.out)))); have n1_ := Aside0.mk (below_step (by repeat (first | (with_reducible first | exact HB.out | apply below_alloc | apply pw_below_drewN | apply below_drew1) | exact HB.out)) hb); clear HB; have HO142 := n0_; have HB := n1_; clear n0_ n1_; clear hb ho5))
      go_loopg [4] k (fun kq v4 w' => ∃ (x3_1 : List Int) (x4_1 : Int), v4 = .int .i64 x4_1 ∧ Aside0 (laws_toInt64S.l0 kq l0 x3_1 x4_1 = some r) ∧ Aside0 (kq ≤ k) ∧ Aside0 (Kd.R (Kd.int .i64) 2 w' w.heap.size (fun _ => True) v141 x3_1) ∧ Aside0 (Below w.heap.size w w'))
      case atStart => exact ⟨(y140), (0), (by first | rfl | (simp; done) | (simp [*]; done)), H', ⟨Nat.le_refl _⟩, ⟨by (with_reducible repeat (first | apply Kd.R_alloc | apply Kd.R_drewN | apply Kd.R_drew)); exact HO142.out⟩, ⟨by repeat (first | (with_reducible first | exact HB.out | apply below_alloc | apply pw_below_drewN | apply below_drew1) | exact HB.out)⟩⟩
      case round =>
        clear H'
        try clear c2
        try clear c2b0
        try clear c2b1
        try clear p2
        try clear c3
        try clear c3b0
        try clear c3b1
        obtain ⟨x3_1, x4_1, rfl, HA, HK1, HO_3, HB⟩ := hrel
        cases gk with
        | zero => exact absurd HA.out (by simp [laws_toInt64S.l0])
        | succ k1 =>
          have H := HA.out
          clear HA
          simp only [laws_toInt64S.l0] at H
          by_cases c6 : x4_1 < (l0.length : Int)
          · rw [if_pos c6] at H
            have c6b0 : decide (x4_1 < (l0.length : Int)) = true := decide_eq_true c6
            clear c6
            by_cases c7 : 0 ≤ x4_1
            · rw [if_pos c7] at H
              have c7b0 : decide (0 ≤ x4_1) = true := decide_eq_true c7
              clear c7
              by_cases c8 : x4_1 < (x3_1.length : Int)
              · rw [if_pos c8] at H
                have c8b0 : decide (x4_1 < (x3_1.length : Int)) = true := decide_eq_true c8
                clear c8
                obtain ⟨y144, hy144⟩ : ∃ y_ : List Int, y_ = (x3_1.set (x4_1 : Int).toNat (rd l0 x4_1)) := ⟨_, rfl⟩
                replace H : (laws_toInt64S.l0 k1 l0 y144 (wrap64 (x4_1 + 1))) = some r := by first | (rw [hy144]; with_reducible exact H) | (have H2_ := (Option.bind_some _ _).symm.trans H; rw [hy144]; with_reducible exact H2_) | (have H2_ := (Option.bind_some _ _).symm.trans H; with_reducible exact H2_) | with_reducible exact H | (rw [hy144]; exact H) | exact H
                have Ny144 := Aside0.mk hy144
                clear hy144
                have H' := Aside0.mk H
                clear H
                have p143 : 0 ≤ (x4_1 : Int) := of_decide_eq_true (by first | (with_reducible assumption) | assumption)
                have q143 : x4_1 < (l0.length : Int) := of_decide_eq_true (by first | (with_reducible assumption) | assumption)
                obtain ⟨ad143, e143, hx143_0⟩ := Kd.at_int HR0.out x4_1 p143 q143
                cases e143
                replace hx143_0 := (HB.out.cell (World.block_lt_of_cell? w _ hx143_0)).trans hx143_0
                replace p143 := eq_true p143
                replace q143 := eq_true q143
                have p9 : 0 ≤ (x4_1 : Int) := of_decide_eq_true (by first | (with_reducible assumption) | assumption)
                have q9 : (x4_1 : Int) < ((x3_1.length : Int) : Int) := of_decide_eq_true (by first | (with_reducible assumption) | assumption)
                obtain ⟨go9, co9, eo9, gb9, gl9, cl9, HG9⟩ := Kd.R_form HO_3.out (by omega)
                (first | cases eo9 | (injection eo9 with ea_ en_ ec_; (first | subst ea_ | (injection ea_ with ea_; subst ea_)); subst ec_; clear en_))
                have GB9 := Aside0.mk gb9
                have GG9 := Aside0.mk HG9
                clear gb9 gl9 HG9
                obtain ⟨hx9_0, hf9_0⟩ := Kd.R_celln 0 HO_3.out (x4_1 : Int) p9 q9
                replace p9 := eq_true p9
                replace q9 := eq_true q9
                have HP10 := Kd.R_putg HO_3.out (x4_1 : Int) (rd l0 x4_1)
                go_wp2_with (first | ((with_reducible refine gate_store (t := 2) (p := 20) rfl ?_); refine store_event (t := 2) (p := 20) (v := ?vo_w11) (w1 := (wr.setCell ⟨go9, (x4_1 : Int).toNat, none⟩ (.int .i64 (rd l0 x4_1)))) ?hg ?ho ?hn ?hr ?_; (case ho => rfl); (case hg => rfl); (case hn => rfl); (case hr => first | (go_simp; done) | (go_simp; rfl)); intro w11 hw; have hg : wr.grownBy w11 (some go9) := (by rw [hw]; exact HP10.2); have hp_ : Kd.R (Kd.int .i64) 2 w11 w.heap.size (fun _ => True) (.slice (some ⟨go9, 0, none⟩) x3_1.length co9) y144 := (by rw [hw, Ny144.out]; exact HP10.1); clear HP10; have n0_ := Aside0.mk (hp_); have n1_ := Aside0.mk ((by rw [hw]; exact below_set (HB.out) GB9.out : Below w.heap.size w w11)); clear HO_3; clear HB; have HO_3 := n0_; have HB := n1_; clear n0_ n1_; clear hg hw hp_))
                go_roundg k1
                case measure => have := HK1.out; omega
                case rel => exact ⟨(y144), (wrap64 (x4_1 + 1)), (by first | rfl | (simp; done) | (simp [*]; done)), H', ⟨by have := HK1.out; omega⟩, ⟨by (with_reducible repeat (first | apply Kd.R_alloc | apply Kd.R_drewN | apply Kd.R_drew)); exact HO_3.out⟩, ⟨by repeat (first | (with_reducible first | exact HB.out | apply below_alloc | apply pw_below_drewN | apply below_drew1) | exact HB.out)⟩⟩
              · rw [if_neg c8] at H
                exact absurd H (by simp)
            · rw [if_neg c7] at H
              exact absurd H (by simp)
          · rw [if_neg c6] at H
            have c6b0 : decide (x4_1 < (l0.length : Int)) = false := decide_eq_false c6
            clear c6
            obtain rfl := Option.some.inj H
            go_wp2
            go_ret
            exact ⟨_, by first | rfl | (simp [errW_none, errW_some] <;> rfl) | (simp [*, errW_none, errW_some] <;> rfl), by (with_reducible repeat (first | apply Kd.R_alloc | apply Kd.R_drewN | apply Kd.R_drew)); exact HO_3.out, by repeat (first | (with_reducible first | exact HB.out | apply below_alloc | apply pw_below_drewN | apply below_drew1) | exact HB.out)⟩
    · rw [if_neg c3] at H
      exact absurd H (by simp)
  · rw [if_neg c2] at H
    exact absurd H (by simp)

end Go.Proofs.Ytoakdilhljnjfaa.Q
-- written by wip/tools/printx.py (this session's) out of the translation; Lean checks it
namespace Go.Proofs.Ytoakdilhljnjfaa.Q
open Go.RowKit Go.Proofs.YtoakdilhljnjfaaW.PrintWords Go.Proofs.YtoakdilhljnjfaaW.PrintLast Go.Proofs.YtoakdilhljnjfaaW.PrintMore
attribute [local go_sem] max2_int min2_int max_two min_two max_three min_three max_four min_four   -- for this text's walks alone
set_option linter.unusedVariables false
set_option linter.unusedSimpArgs false

/-! ### laws_FnExactBestTurns: function 3 -/
mutual
def laws_FnExactBestTurns.j0 : Nat → List Int → Int → List Int → Int → List Int → List Int → Int → Bool → Option (Bool)
  | 0, _, _, _, _, _, _, _, _ => none
  | k + 1, x0, x1, x5, x6, x7, x8, x9, x41 => if x41 = true then (some false) else ((laws_toInt64S.f k x0).bind fun t164 => ((laws_eqInt64S.f k x7 t164).bind fun t167 => (if t167 = true then ((laws_markInt64S.f k x7 1).bind fun bt168 => (if bt168.1 < 0 then (laws_FnExactBestTurns.j1 k x0 x1 x5 x6 x8 true) else ((laws_eqInt64S.f k x8 x5).bind fun t170 => (if t170 = true then (laws_FnExactBestTurns.j1 k x0 x1 x5 x6 x8 (x9 != x6)) else (laws_FnExactBestTurns.j1 k x0 x1 x5 x6 x8 true))))) else (some false))))
def laws_FnExactBestTurns.j1 : Nat → List Int → Int → List Int → Int → List Int → Bool → Option (Bool)
  | 0, _, _, _, _, _, _ => none
  | k + 1, x0, x1, x5, x6, x8, x62 => if x62 = true then (some false) else ((laws_markInt64S.f k x8 1).bind fun bt171 => ((laws_heldInt64S.f k bt171.2 1).bind fun t173 => (if t173 < 0 then (some false) else (if t173 = bt171.1 then ((laws_toInt64S.f k x0).bind fun t174 => ((impl_BestTurns.f k t174 x1).bind fun bt177 => ((laws_eqInt64S.f k bt177.1 x5).bind fun t181 => (if t181 = true then (laws_FnExactBestTurns.j2 k bt171.2 bt171.1 (bt177.2 != x6)) else (laws_FnExactBestTurns.j2 k bt171.2 bt171.1 true))))) else (some false)))))
def laws_FnExactBestTurns.j2 : Nat → List Int → Int → Bool → Option (Bool)
  | 0, _, _, _ => none
  | k + 1, x8, x11, x89 => if x89 = true then (some false) else ((laws_heldInt64S.f k x8 1).bind fun t182 => (if t182 < 0 then (some false) else (if t182 = x11 then (some true) else (some false))))
end
def laws_FnExactBestTurns.f (k : Nat) (l0 : List Int) (a1 : Int) : Option (Bool) := if (l0.length : Int) > 1048576 then (some true) else ((laws_toInt64S.f k l0).bind fun t149 => ((spec_BestTurns.f k t149 a1).bind fun bt152 => ((laws_toInt64S.f k l0).bind fun t156 => ((impl_BestTurns.f k t156 a1).bind fun bt159 => ((laws_eqInt64S.f k bt159.1 bt152.1).bind fun t163 => (if t163 = true then (laws_FnExactBestTurns.j0 k l0 a1 bt152.1 bt152.2 t156 bt159.1 bt159.2 (bt159.2 != bt152.2)) else (laws_FnExactBestTurns.j0 k l0 a1 bt152.1 bt152.2 t156 bt159.1 bt159.2 true)))))))
theorem laws_FnExactBestTurns.mono_l : ∀ k, (∀ y0 y1 y2 y3 y4 y5 y6 y7, LeO (laws_FnExactBestTurns.j0 k y0 y1 y2 y3 y4 y5 y6 y7) (laws_FnExactBestTurns.j0 (k + 1) y0 y1 y2 y3 y4 y5 y6 y7)) ∧ (∀ y0 y1 y2 y3 y4 y5, LeO (laws_FnExactBestTurns.j1 k y0 y1 y2 y3 y4 y5) (laws_FnExactBestTurns.j1 (k + 1) y0 y1 y2 y3 y4 y5)) ∧ (∀ y0 y1 y2, LeO (laws_FnExactBestTurns.j2 k y0 y1 y2) (laws_FnExactBestTurns.j2 (k + 1) y0 y1 y2))
  | 0 => ⟨fun _ _ _ _ _ _ _ _ r h => by simp [laws_FnExactBestTurns.j0] at h, fun _ _ _ _ _ _ r h => by simp [laws_FnExactBestTurns.j1] at h, fun _ _ _ r h => by simp [laws_FnExactBestTurns.j2] at h⟩
  | k + 1 => by
    obtain ⟨ih0, ih1, ih2⟩ := laws_FnExactBestTurns.mono_l k
    refine ⟨?_, ?_, ?_⟩
    · intro y0 y1 y2 y3 y4 y5 y6 y7
      unfold laws_FnExactBestTurns.j0
      repeat' first
      | (with_reducible exact ih0 _ _ _ _ _ _ _ _)
      | (with_reducible exact ih1 _ _ _ _ _ _)
      | (with_reducible exact ih2 _ _ _)
      | (with_reducible exact impl_BestTurns.mono _ _ _)
      | (with_reducible exact laws_eqInt64S.mono _ _ _)
      | (with_reducible exact laws_heldInt64S.mono _ _ _)
      | (with_reducible exact laws_markInt64S.mono _ _ _)
      | (with_reducible exact laws_toInt64S.mono _ _)
      | (with_reducible exact spec_BestTurns.mono _ _ _)
      | (with_reducible exact LeO.refl _)
      | (with_reducible exact LeO.none _)
      | (with_reducible refine LeO.ite ?_ ?_)
      | (with_reducible refine LeO.bind ?_ (fun _ => ?_))
      | exact ih0 _ _ _ _ _ _ _ _
      | exact ih1 _ _ _ _ _ _
      | exact ih2 _ _ _
      | exact impl_BestTurns.mono _ _ _
      | exact laws_eqInt64S.mono _ _ _
      | exact laws_heldInt64S.mono _ _ _
      | exact laws_markInt64S.mono _ _ _
      | exact laws_toInt64S.mono _ _
      | exact spec_BestTurns.mono _ _ _
      | exact LeO.none _
      | refine LeO.ite ?_ ?_
      | refine LeO.bind ?_ (fun _ => ?_)
    · intro y0 y1 y2 y3 y4 y5
      unfold laws_FnExactBestTurns.j1
      repeat' first
      | (with_reducible exact ih0 _ _ _ _ _ _ _ _)
      | (with_reducible exact ih1 _ _ _ _ _ _)
      | (with_reducible exact ih2 _ _ _)
      | (with_reducible exact impl_BestTurns.mono _ _ _)
      | (with_reducible exact laws_eqInt64S.mono _ _ _)
      | (with_reducible exact laws_heldInt64S.mono _ _ _)
      | (with_reducible exact laws_markInt64S.mono _ _ _)
      | (with_reducible exact laws_toInt64S.mono _ _)
      | (with_reducible exact spec_BestTurns.mono _ _ _)
      | (with_reducible exact LeO.refl _)
      | (with_reducible exact LeO.none _)
      | (with_reducible refine LeO.ite ?_ ?_)
      | (with_reducible refine LeO.bind ?_ (fun _ => ?_))
      | exact ih0 _ _ _ _ _ _ _ _
      | exact ih1 _ _ _ _ _ _
      | exact ih2 _ _ _
      | exact impl_BestTurns.mono _ _ _
      | exact laws_eqInt64S.mono _ _ _
      | exact laws_heldInt64S.mono _ _ _
      | exact laws_markInt64S.mono _ _ _
      | exact laws_toInt64S.mono _ _
      | exact spec_BestTurns.mono _ _ _
      | exact LeO.none _
      | refine LeO.ite ?_ ?_
      | refine LeO.bind ?_ (fun _ => ?_)
    · intro y0 y1 y2
      unfold laws_FnExactBestTurns.j2
      repeat' first
      | (with_reducible exact ih0 _ _ _ _ _ _ _ _)
      | (with_reducible exact ih1 _ _ _ _ _ _)
      | (with_reducible exact ih2 _ _ _)
      | (with_reducible exact impl_BestTurns.mono _ _ _)
      | (with_reducible exact laws_eqInt64S.mono _ _ _)
      | (with_reducible exact laws_heldInt64S.mono _ _ _)
      | (with_reducible exact laws_markInt64S.mono _ _ _)
      | (with_reducible exact laws_toInt64S.mono _ _)
      | (with_reducible exact spec_BestTurns.mono _ _ _)
      | (with_reducible exact LeO.refl _)
      | (with_reducible exact LeO.none _)
      | (with_reducible refine LeO.ite ?_ ?_)
      | (with_reducible refine LeO.bind ?_ (fun _ => ?_))
      | exact ih0 _ _ _ _ _ _ _ _
      | exact ih1 _ _ _ _ _ _
      | exact ih2 _ _ _
      | exact impl_BestTurns.mono _ _ _
      | exact laws_eqInt64S.mono _ _ _
      | exact laws_heldInt64S.mono _ _ _
      | exact laws_markInt64S.mono _ _ _
      | exact laws_toInt64S.mono _ _
      | exact spec_BestTurns.mono _ _ _
      | exact LeO.none _
      | refine LeO.ite ?_ ?_
      | refine LeO.bind ?_ (fun _ => ?_)
theorem laws_FnExactBestTurns.mono : ∀ a0 a1 k, LeO (laws_FnExactBestTurns.f k a0 a1) (laws_FnExactBestTurns.f (k + 1) a0 a1) := by
  intro a0 a1 k
  obtain ⟨ih0, ih1, ih2⟩ := laws_FnExactBestTurns.mono_l k
  unfold laws_FnExactBestTurns.f
  repeat' first
      | (with_reducible exact ih0 _ _ _ _ _ _ _ _)
      | (with_reducible exact ih1 _ _ _ _ _ _)
      | (with_reducible exact ih2 _ _ _)
      | (with_reducible exact impl_BestTurns.mono _ _ _)
      | (with_reducible exact laws_eqInt64S.mono _ _ _)
      | (with_reducible exact laws_heldInt64S.mono _ _ _)
      | (with_reducible exact laws_markInt64S.mono _ _ _)
      | (with_reducible exact laws_toInt64S.mono _ _)
      | (with_reducible exact spec_BestTurns.mono _ _ _)
      | (with_reducible exact LeO.refl _)
      | (with_reducible exact LeO.none _)
      | (with_reducible refine LeO.ite ?_ ?_)
      | (with_reducible refine LeO.bind ?_ (fun _ => ?_))
      | exact ih0 _ _ _ _ _ _ _ _
      | exact ih1 _ _ _ _ _ _
      | exact ih2 _ _ _
      | exact impl_BestTurns.mono _ _ _
      | exact laws_eqInt64S.mono _ _ _
      | exact laws_heldInt64S.mono _ _ _
      | exact laws_markInt64S.mono _ _ _
      | exact laws_toInt64S.mono _ _
      | exact spec_BestTurns.mono _ _ _
      | exact LeO.none _
      | refine LeO.ite ?_ ?_
      | refine LeO.bind ?_ (fun _ => ?_)
set_option maxHeartbeats 8000000 in
set_option maxRecDepth 100000 in
theorem laws_FnExactBestTurns.calls (k : Nat) (A0 : Option Addr) (c0 : Nat) (l0 : List Int) (a1 : Int) (r : Bool) (w : World) (hr0 : Kd.C (Kd.int .i64) w A0 l0.length l0) (hc0 : l0.length ≤ c0) (h : laws_FnExactBestTurns.f k l0 a1 = some r) :
    Calls Try.prog 3 #[.slice A0 l0.length c0, .int .i64 a1] w fun e w' => e = .returned (.bool r) ∧ Below w.heap.size w w' := by
  have HR0 := Aside0.mk hr0
  have HC0 := Aside0.mk hc0
  clear hr0 hc0
  have HB := Aside0.mk (Below.refl w.heap.size w)
  have H : (if (l0.length : Int) > 1048576 then (some true) else ((laws_toInt64S.f k l0).bind fun t149 => ((spec_BestTurns.f k t149 a1).bind fun bt152 => ((laws_toInt64S.f k l0).bind fun t156 => ((impl_BestTurns.f k t156 a1).bind fun bt159 => ((laws_eqInt64S.f k bt159.1 bt152.1).bind fun t163 => (if t163 = true then (laws_FnExactBestTurns.j0 k l0 a1 bt152.1 bt152.2 t156 bt159.1 bt159.2 (bt159.2 != bt152.2)) else (laws_FnExactBestTurns.j0 k l0 a1 bt152.1 bt152.2 t156 bt159.1 bt159.2 true)))))))) = some r := h
  clear h
  by_cases c3 : (l0.length : Int) > 1048576
  · rw [if_pos c3] at H
    have c3b0 : decide (1048576 < (l0.length : Int)) = true := decide_eq_true c3
    have c3b1 : decide (1048576 < l0.length) = true := decide_eq_true (by omega)
    clear c3
    obtain rfl := Option.some.inj H
    go_enter Try.func3, Try.ntmps3
    go_wp2
    go_ret
    exact ⟨by first | rfl | (simp [errW_none, errW_some] <;> rfl) | (simp [*, errW_none, errW_some] <;> rfl), by repeat (first | (with_reducible first | exact HB.out | apply below_alloc | apply pw_below_drewN | apply below_drew1) | exact HB.out)⟩
  · rw [if_neg c3] at H
    have c3b0 : decide (1048576 < (l0.length : Int)) = false := decide_eq_false c3
    have c3b1 : decide (1048576 < l0.length) = false := decide_eq_false (by omega)
    clear c3
    replace H := Option.bind_eq_some_iff.mp H
    obtain ⟨t149, A40, H⟩ := H
    replace H : ((spec_BestTurns.f k t149 a1).bind fun bt152 => ((laws_toInt64S.f k l0).bind fun t156 => ((impl_BestTurns.f k t156 a1).bind fun bt159 => ((laws_eqInt64S.f k bt159.1 bt152.1).bind fun t163 => (if t163 = true then (laws_FnExactBestTurns.j0 k l0 a1 bt152.1 bt152.2 t156 bt159.1 bt159.2 (bt159.2 != bt152.2)) else (laws_FnExactBestTurns.j0 k l0 a1 bt152.1 bt152.2 t156 bt159.1 bt159.2 true)))))) = some r := H
    have A4 := Aside0.mk A40
    clear A40
    replace H := Option.bind_eq_some_iff.mp H
    obtain ⟨⟨t152, t153⟩, A50, H⟩ := H
    replace H : ((laws_toInt64S.f k l0).bind fun t156 => ((impl_BestTurns.f k t156 a1).bind fun bt159 => ((laws_eqInt64S.f k bt159.1 t152).bind fun t163 => (if t163 = true then (laws_FnExactBestTurns.j0 k l0 a1 t152 t153 t156 bt159.1 bt159.2 (bt159.2 != t153)) else (laws_FnExactBestTurns.j0 k l0 a1 t152 t153 t156 bt159.1 bt159.2 true))))) = some r := H
    have A5 := Aside0.mk A50
    clear A50
    replace H := Option.bind_eq_some_iff.mp H
    obtain ⟨t156, A60, H⟩ := H
    replace H : ((impl_BestTurns.f k t156 a1).bind fun bt159 => ((laws_eqInt64S.f k bt159.1 t152).bind fun t163 => (if t163 = true then (laws_FnExactBestTurns.j0 k l0 a1 t152 t153 t156 bt159.1 bt159.2 (bt159.2 != t153)) else (laws_FnExactBestTurns.j0 k l0 a1 t152 t153 t156 bt159.1 bt159.2 true)))) = some r := H
    have A6 := Aside0.mk A60
    clear A60
    replace H := Option.bind_eq_some_iff.mp H
    obtain ⟨⟨t159, t160⟩, A70, H⟩ := H
    replace H : ((laws_eqInt64S.f k t159 t152).bind fun t163 => (if t163 = true then (laws_FnExactBestTurns.j0 k l0 a1 t152 t153 t156 t159 t160 (t160 != t153)) else (laws_FnExactBestTurns.j0 k l0 a1 t152 t153 t156 t159 t160 true))) = some r := H
    have A7 := Aside0.mk A70
    clear A70
    have HC8 := Aside0.mk H
    clear H
    go_enter Try.func3, Try.ntmps3
    go_upto_region 6 with (first | ((with_reducible refine gate_callee (f := 8) rfl ?_); refine goesL_ (some 20) rfl rfl Try.func8 (by kernel_rfl) rfl #[.slice A0 l0.length c0] rfl (by (try simp only [List.map_toArray, List.map_cons, List.map_nil]); first | done | rfl | (simp only [List.length_drop, List.length_take]; rfl)) ?_; (with_reducible refine (laws_toInt64S.calls k _ _ l0 t149 _ ?side1 ?side2 A4.out).mono ?_); (case side1 => repeat (first | exact HR0.out | (with_reducible refine Kd.C_alloc ?_ _) | (with_reducible refine Kd.C_drewN ?_ _) | (with_reducible refine Kd.C_drew ?_))); (case side2 => exact HC0.out); rintro e w9 ⟨v150, rfl, ho0, hb⟩; refine ⟨_, rfl, ?_⟩; have n0_ := Aside0.mk (Kd.R_lower ho0 (below_size (by repeat (first | (with_reducible first | exact HB.out | apply below_alloc | apply pw_below_drewN | apply below_drew1) | exact HB.out)))); have n1_ := Aside0.mk (below_step (by repeat (first | (with_reducible first | exact HB.out | apply below_alloc | apply pw_below_drewN | apply below_drew1) | exact HB.out)) hb); clear HB; have HO151 := n0_; have HB := n1_; clear n0_ n1_; (try clear hb); (try clear hb2); (try clear hk); (try clear hi); (try clear ho0); obtain ⟨Ao10, co10, eo10⟩ := Kd.R_slice HO151.out; subst eo10) | ((with_reducible refine gate_callee (f := 7) rfl ?_); refine goesL_ (some 22) rfl rfl Try.func7 (by kernel_rfl) rfl #[.slice Ao10 t149.length co10, .int .i64 a1] rfl (by (try simp only [List.map_toArray, List.map_cons, List.map_nil]); first | done | rfl | (simp only [List.length_drop, List.length_take]; rfl)) ?_; (with_reducible refine (spec_BestTurns.calls k _ _ t149 a1 t152 t153 _ ?side1 ?side2 A5.out).mono ?_); (case side1 => repeat (first | exact (Kd.R_reads' HO151.out).2.2 | (with_reducible refine Kd.C_alloc ?_ _) | (with_reducible refine Kd.C_drewN ?_ _) | (with_reducible refine Kd.C_drew ?_))); (case side2 => exact (Kd.R_reads' HO151.out).2.1); rintro e w11 ⟨v154, rfl, ho0, hb⟩; refine ⟨_, rfl, ?_⟩; have n0_ := Aside0.mk (Kd.R_elder' (by (with_reducible repeat (first | apply Kd.R_alloc | apply Kd.R_drewN | apply Kd.R_drew)); exact HO151.out) (Kd.R_base ho0) hb); have n1_ := Aside0.mk (Kd.R_lower (Kd.R_new' ho0 (Kd.R_lt (by (with_reducible repeat (first | apply Kd.R_alloc | apply Kd.R_drewN | apply Kd.R_drew)); exact HO151.out))) (below_size (by repeat (first | (with_reducible first | exact HB.out | apply below_alloc | apply pw_below_drewN | apply below_drew1) | exact HB.out)))); have n2_ := Aside0.mk (below_step (by repeat (first | (with_reducible first | exact HB.out | apply below_alloc | apply pw_below_drewN | apply below_drew1) | exact HB.out)) hb); clear HO151; clear HB; have HO151 := n0_; have HO155 := n1_; have HB := n2_; clear n0_ n1_ n2_; (try clear hb); (try clear hb2); (try clear hk); (try clear hi); (try clear ho0)) | ((with_reducible refine gate_callee (f := 8) rfl ?_); refine goesL_ (some 26) rfl rfl Try.func8 (by kernel_rfl) rfl #[.slice A0 l0.length c0] rfl (by (try simp only [List.map_toArray, List.map_cons, List.map_nil]); first | done | rfl | (simp only [List.length_drop, List.length_take]; rfl)) ?_; (with_reducible refine (laws_toInt64S.calls k _ _ l0 t156 _ ?side1 ?side2 A6.out).mono ?_); (case side1 => repeat (first | exact (Kd.C_below HR0.out HB.out) | (with_reducible refine Kd.C_alloc ?_ _) | (with_reducible refine Kd.C_drewN ?_ _) | (with_reducible refine Kd.C_drew ?_))); (case side2 => exact HC0.out); rintro e w12 ⟨v157, rfl, ho0, hb⟩; refine ⟨_, rfl, ?_⟩; have n0_ := Aside0.mk (Kd.R_elder' (by (with_reducible repeat (first | apply Kd.R_alloc | apply Kd.R_drewN | apply Kd.R_drew)); exact HO151.out) (Kd.R_base ho0) hb); have n1_ := Aside0.mk (Kd.R_elder' (by (with_reducible repeat (first | apply Kd.R_alloc | apply Kd.R_drewN | apply Kd.R_drew)); exact HO155.out) (Kd.R_base ho0) hb); have n2_ := Aside0.mk (Kd.R_lower (Kd.R_new' (Kd.R_new' ho0 (Kd.R_lt (by (with_reducible repeat (first | apply Kd.R_alloc | apply Kd.R_drewN | apply Kd.R_drew)); exact HO151.out))) (Kd.R_lt (by (with_reducible repeat (first | apply Kd.R_alloc | apply Kd.R_drewN | apply Kd.R_drew)); exact HO155.out))) (below_size (by repeat (first | (with_reducible first | exact HB.out | apply below_alloc | apply pw_below_drewN | apply below_drew1) | exact HB.out)))); have n3_ := Aside0.mk (below_step (by repeat (first | (with_reducible first | exact HB.out | apply below_alloc | apply pw_below_drewN | apply below_drew1) | exact HB.out)) hb); clear HO151; clear HO155; clear HB; have HO151 := n0_; have HO155 := n1_; have HO158 := n2_; have HB := n3_; clear n0_ n1_ n2_ n3_; (try clear hb); (try clear hb2); (try clear hk); (try clear hi); (try clear ho0); obtain ⟨Ao13, co13, eo13⟩ := Kd.R_slice HO158.out; subst eo13) | ((with_reducible refine gate_callee (f := 9) rfl ?_); refine goesL_ (some 30) rfl rfl Try.func9 (by kernel_rfl) rfl #[.slice Ao13 t156.length co13, .int .i64 a1] rfl (by (try simp only [List.map_toArray, List.map_cons, List.map_nil]); first | done | rfl | (simp only [List.length_drop, List.length_take]; rfl)) ?_; (with_reducible refine (impl_BestTurns.calls k _ _ t156 a1 t159 t160 _ ?side1 ?side2 A7.out).mono ?_); (case side1 => repeat (first | exact (Kd.R_reads' HO158.out).2.2 | (with_reducible refine Kd.C_alloc ?_ _) | (with_reducible refine Kd.C_drewN ?_ _) | (with_reducible refine Kd.C_drew ?_))); (case side2 => exact (Kd.R_reads' HO158.out).2.1); rintro e w14 ⟨v161, rfl, ho0, hb⟩; refine ⟨_, rfl, ?_⟩; have n0_ := Aside0.mk (Kd.R_elder' (by (with_reducible repeat (first | apply Kd.R_alloc | apply Kd.R_drewN | apply Kd.R_drew)); exact HO151.out) (Kd.R_base ho0) hb); have n1_ := Aside0.mk (Kd.R_elder' (by (with_reducible repeat (first | apply Kd.R_alloc | apply Kd.R_drewN | apply Kd.R_drew)); exact HO155.out) (Kd.R_base ho0) hb); have n2_ := Aside0.mk (Kd.R_elder' (by (with_reducible repeat (first | apply Kd.R_alloc | apply Kd.R_drewN | apply Kd.R_drew)); exact HO158.out) (Kd.R_base ho0) hb); have n3_ := Aside0.mk (Kd.R_lower (Kd.R_new' (Kd.R_new' (Kd.R_new' ho0 (Kd.R_lt (by (with_reducible repeat (first | apply Kd.R_alloc | apply Kd.R_drewN | apply Kd.R_drew)); exact HO151.out))) (Kd.R_lt (by (with_reducible repeat (first | apply Kd.R_alloc | apply Kd.R_drewN | apply Kd.R_drew)); exact HO155.out))) (Kd.R_lt (by (with_reducible repeat (first | apply Kd.R_alloc | apply Kd.R_drewN | apply Kd.R_drew)); exact HO158.out))) (below_size (by repeat (first | (with_reducible first | exact HB.out | apply below_alloc | apply pw_below_drewN | apply below_drew1) | exact HB.out)))); have n4_ := Aside0.mk (below_step (by repeat (first | (with_reducible first | exact HB.out | apply below_alloc | apply pw_below_drewN | apply below_drew1) | exact HB.out)) hb); clear HO151; clear HO155; clear HO158; clear HB; have HO151 := n0_; have HO155 := n1_; have HO158 := n2_; have HO162 := n3_; have HB := n4_; clear n0_ n1_ n2_ n3_ n4_; (try clear hb); (try clear hb2); (try clear hk); (try clear hi); (try clear ho0)))
    (try simp only [Act.put, List.setIfInBounds_toArray, List.set_cons_zero, List.set_cons_succ])
    go_cut [41] (fun v41 wc => ∃ (kq : Nat) (x41_7 : Bool), v41 = .bool x41_7 ∧ Aside0 (laws_FnExactBestTurns.j0 kq l0 a1 t152 t153 t156 t159 t160 x41_7 = some r) ∧ Aside0 (kq ≤ k) ∧ Aside0 (Kd.R (Kd.int .i64) 2 wc w.heap.size (fun k_ => some k_ ≠ ((.slice Ao13 t156.length co13) : Value).ownBlock ∧ some k_ ≠ (v161 : Value).ownBlock) v154 t152) ∧ Aside0 (Kd.R (Kd.int .i64) 2 wc w.heap.size (fun k_ => some k_ ≠ (v154 : Value).ownBlock ∧ some k_ ≠ (v161 : Value).ownBlock) (.slice Ao13 t156.length co13) t156) ∧ Aside0 (Kd.R (Kd.int .i64) 2 wc w.heap.size (fun k_ => some k_ ≠ (v154 : Value).ownBlock ∧ some k_ ≠ ((.slice Ao13 t156.length co13) : Value).ownBlock) v161 t159) ∧ Aside0 (Below w.heap.size w wc))
    case first =>
      have H := HC8.out
      clear HC8
      replace H := Option.bind_eq_some_iff.mp H
      obtain ⟨t163, A150, H⟩ := H
      replace H : (if t163 = true then (laws_FnExactBestTurns.j0 k l0 a1 t152 t153 t156 t159 t160 (t160 != t153)) else (laws_FnExactBestTurns.j0 k l0 a1 t152 t153 t156 t159 t160 true)) = some r := H
      have A15 := Aside0.mk A150
      clear A150
      by_cases c16 : t163 = true
      · subst c16
        have H1 : (laws_FnExactBestTurns.j0 k l0 a1 t152 t153 t156 t159 t160 (t160 != t153)) = some r := by rw [if_pos rfl] at H; exact H
        clear H
        have H := H1
        clear H1
        have H' := Aside0.mk H
        clear H
        obtain ⟨Ao17, co17, eo17⟩ := Kd.R_slice HO162.out
        subst eo17
        obtain ⟨Ao18, co18, eo18⟩ := Kd.R_slice HO155.out
        subst eo18
        go_wp2_with (first | ((with_reducible refine gate_callee (f := 10) rfl ?_); refine goesL_ (some 35) rfl rfl Try.func10 (by kernel_rfl) rfl #[.slice Ao17 t159.length co17, .slice Ao18 t152.length co18] rfl (by (try simp only [List.map_toArray, List.map_cons, List.map_nil]); first | done | rfl | (simp only [List.length_drop, List.length_take]; rfl)) ?_; (with_reducible refine (laws_eqInt64S.calls k _ _ t159 _ _ t152 true _ ?side1 ?side2 ?side3 ?side4 A15.out).mono ?_); (case side1 => repeat (first | exact (Kd.R_reads' HO162.out).2.2 | (with_reducible refine Kd.C_alloc ?_ _) | (with_reducible refine Kd.C_drewN ?_ _) | (with_reducible refine Kd.C_drew ?_))); (case side2 => exact (Kd.R_reads' HO162.out).2.1); (case side3 => repeat (first | exact (Kd.R_reads' HO155.out).2.2 | (with_reducible refine Kd.C_alloc ?_ _) | (with_reducible refine Kd.C_drewN ?_ _) | (with_reducible refine Kd.C_drew ?_))); (case side4 => exact (Kd.R_reads' HO155.out).2.1); rintro e w' ⟨rfl, ⟨nd, rfl⟩⟩; refine ⟨_, rfl, ?_⟩))
        go_meet
        case rel => exact ⟨_, ((t160 != t153)), (by first | rfl | (simp; done) | (simp [*]; done)), H', ⟨by first | omega | exact Nat.le_refl _⟩, ⟨by (with_reducible repeat (first | apply Kd.R_alloc | apply Kd.R_drewN | apply Kd.R_drew)); exact Kd.R_mono HO155.out (fun _ hk => ⟨hk.1.2, hk.2⟩)⟩, ⟨by (with_reducible repeat (first | apply Kd.R_alloc | apply Kd.R_drewN | apply Kd.R_drew)); exact Kd.R_mono HO158.out (fun _ hk => ⟨hk.1.2, hk.2⟩)⟩, ⟨by (with_reducible repeat (first | apply Kd.R_alloc | apply Kd.R_drewN | apply Kd.R_drew)); exact Kd.R_mono HO162.out (fun _ hk => ⟨hk.1.2, hk.2⟩)⟩, ⟨by repeat (first | (with_reducible first | exact HB.out | apply below_alloc | apply pw_below_drewN | apply below_drew1) | exact HB.out)⟩⟩
      · replace c16 := Bool.eq_false_iff.mpr c16
        subst c16
        have H1 : (laws_FnExactBestTurns.j0 k l0 a1 t152 t153 t156 t159 t160 true) = some r := by rw [if_neg (show ¬ (false = true) by decide)] at H; exact H
        clear H
        have H := H1
        clear H1
        have H' := Aside0.mk H
        clear H
        obtain ⟨Ao19, co19, eo19⟩ := Kd.R_slice HO162.out
        subst eo19
        obtain ⟨Ao20, co20, eo20⟩ := Kd.R_slice HO155.out
        subst eo20
        go_wp2_with (first | ((with_reducible refine gate_callee (f := 10) rfl ?_); refine goesL_ (some 35) rfl rfl Try.func10 (by kernel_rfl) rfl #[.slice Ao19 t159.length co19, .slice Ao20 t152.length co20] rfl (by (try simp only [List.map_toArray, List.map_cons, List.map_nil]); first | done | rfl | (simp only [List.length_drop, List.length_take]; rfl)) ?_; (with_reducible refine (laws_eqInt64S.calls k _ _ t159 _ _ t152 false _ ?side1 ?side2 ?side3 ?side4 A15.out).mono ?_); (case side1 => repeat (first | exact (Kd.R_reads' HO162.out).2.2 | (with_reducible refine Kd.C_alloc ?_ _) | (with_reducible refine Kd.C_drewN ?_ _) | (with_reducible refine Kd.C_drew ?_))); (case side2 => exact (Kd.R_reads' HO162.out).2.1); (case side3 => repeat (first | exact (Kd.R_reads' HO155.out).2.2 | (with_reducible refine Kd.C_alloc ?_ _) | (with_reducible refine Kd.C_drewN ?_ _) | (with_reducible refine Kd.C_drew ?_))); (case side4 => exact (Kd.R_reads' HO155.out).2.1); rintro e w' ⟨rfl, ⟨nd, rfl⟩⟩; refine ⟨_, rfl, ?_⟩))
        go_meet
        case rel => exact ⟨_, (true), (by first | rfl | (simp; done) | (simp [*]; done)), H', ⟨by first | omega | exact Nat.le_refl _⟩, ⟨by (with_reducible repeat (first | apply Kd.R_alloc | apply Kd.R_drewN | apply Kd.R_drew)); exact Kd.R_mono HO155.out (fun _ hk => ⟨hk.1.2, hk.2⟩)⟩, ⟨by (with_reducible repeat (first | apply Kd.R_alloc | apply Kd.R_drewN | apply Kd.R_drew)); exact Kd.R_mono HO158.out (fun _ hk => ⟨hk.1.2, hk.2⟩)⟩, ⟨by (with_reducible repeat (first | apply Kd.R_alloc | apply Kd.R_drewN | apply Kd.R_drew)); exact Kd.R_mono HO162.out (fun _ hk => ⟨hk.1.2, hk.2⟩)⟩, ⟨by repeat (first | (with_reducible first | exact HB.out | apply below_alloc | apply pw_below_drewN | apply below_drew1) | exact HB.out)⟩⟩
    case rest =>
      clear HC8
      try clear c1
      try clear p2
      try clear c3
      try clear c3b0
      try clear c3b1
      try clear c7
      try clear c8
      try clear c9
      try clear c10
      try clear c16
      obtain ⟨kq, x41_7, rfl, HA, HJ7, HO_5, HO_7, HO_8, HB⟩ := hcut
      cases kq with
      | zero => exact absurd HA.out (by simp [laws_FnExactBestTurns.j0])
      | succ kj7 =>
        have H := HA.out
        clear HA
        simp only [laws_FnExactBestTurns.j0] at H
        by_cases c21 : x41_7 = true
        · subst c21
          have H1 : (some false) = some r := by rw [if_pos rfl] at H; exact H
          clear H
          have H := H1
          clear H1
          obtain rfl := Option.some.inj H
          go_wp2
          go_ret
          exact ⟨by first | rfl | (simp [errW_none, errW_some] <;> rfl) | (simp [*, errW_none, errW_some] <;> rfl), by repeat (first | (with_reducible first | exact HB.out | apply below_alloc | apply pw_below_drewN | apply below_drew1) | exact HB.out)⟩
        · replace c21 := Bool.eq_false_iff.mpr c21
          subst c21
          have H1 : ((laws_toInt64S.f kj7 l0).bind fun t164 => ((laws_eqInt64S.f kj7 t156 t164).bind fun t167 => (if t167 = true then ((laws_markInt64S.f kj7 t156 1).bind fun bt168 => (if bt168.1 < 0 then (laws_FnExactBestTurns.j1 kj7 l0 a1 t152 t153 t159 true) else ((laws_eqInt64S.f kj7 t159 t152).bind fun t170 => (if t170 = true then (laws_FnExactBestTurns.j1 kj7 l0 a1 t152 t153 t159 (t160 != t153)) else (laws_FnExactBestTurns.j1 kj7 l0 a1 t152 t153 t159 true))))) else (some false)))) = some r := by rw [if_neg (show ¬ (false = true) by decide)] at H; exact H
          clear H
          have H := H1
          clear H1
          replace H := Option.bind_eq_some_iff.mp H
          obtain ⟨t164, A220, H⟩ := H
          replace H : ((laws_eqInt64S.f kj7 t156 t164).bind fun t167 => (if t167 = true then ((laws_markInt64S.f kj7 t156 1).bind fun bt168 => (if bt168.1 < 0 then (laws_FnExactBestTurns.j1 kj7 l0 a1 t152 t153 t159 true) else ((laws_eqInt64S.f kj7 t159 t152).bind fun t170 => (if t170 = true then (laws_FnExactBestTurns.j1 kj7 l0 a1 t152 t153 t159 (t160 != t153)) else (laws_FnExactBestTurns.j1 kj7 l0 a1 t152 t153 t159 true))))) else (some false))) = some r := H
          have A22 := Aside0.mk A220
          clear A220
          replace H := Option.bind_eq_some_iff.mp H
          obtain ⟨t167, A230, H⟩ := H
          replace H : (if t167 = true then ((laws_markInt64S.f kj7 t156 1).bind fun bt168 => (if bt168.1 < 0 then (laws_FnExactBestTurns.j1 kj7 l0 a1 t152 t153 t159 true) else ((laws_eqInt64S.f kj7 t159 t152).bind fun t170 => (if t170 = true then (laws_FnExactBestTurns.j1 kj7 l0 a1 t152 t153 t159 (t160 != t153)) else (laws_FnExactBestTurns.j1 kj7 l0 a1 t152 t153 t159 true))))) else (some false)) = some r := H
          have A23 := Aside0.mk A230
          clear A230
          by_cases c24 : t167 = true
          · subst c24
            have H1 : ((laws_markInt64S.f kj7 t156 1).bind fun bt168 => (if bt168.1 < 0 then (laws_FnExactBestTurns.j1 kj7 l0 a1 t152 t153 t159 true) else ((laws_eqInt64S.f kj7 t159 t152).bind fun t170 => (if t170 = true then (laws_FnExactBestTurns.j1 kj7 l0 a1 t152 t153 t159 (t160 != t153)) else (laws_FnExactBestTurns.j1 kj7 l0 a1 t152 t153 t159 true))))) = some r := by rw [if_pos rfl] at H; exact H
            clear H
            have H := H1
            clear H1
            replace H := Option.bind_eq_some_iff.mp H
            obtain ⟨⟨t168, t169⟩, A250, H⟩ := H
            replace H : (if t168 < 0 then (laws_FnExactBestTurns.j1 kj7 l0 a1 t152 t153 t159 true) else ((laws_eqInt64S.f kj7 t159 t152).bind fun t170 => (if t170 = true then (laws_FnExactBestTurns.j1 kj7 l0 a1 t152 t153 t159 (t160 != t153)) else (laws_FnExactBestTurns.j1 kj7 l0 a1 t152 t153 t159 true)))) = some r := H
            have A25 := Aside0.mk A250
            clear A250
            have HC26 := Aside0.mk H
            clear H
            go_upto_region 12 with (first | ((with_reducible refine gate_callee (f := 8) rfl ?_); refine goesL_ (some 44) rfl rfl Try.func8 (by kernel_rfl) rfl #[.slice A0 l0.length c0] rfl (by (try simp only [List.map_toArray, List.map_cons, List.map_nil]); first | done | rfl | (simp only [List.length_drop, List.length_take]; rfl)) ?_; (with_reducible refine (laws_toInt64S.calls kj7 _ _ l0 t164 _ ?side1 ?side2 A22.out).mono ?_); (case side1 => repeat (first | exact (Kd.C_below HR0.out HB.out) | (with_reducible refine Kd.C_alloc ?_ _) | (with_reducible refine Kd.C_drewN ?_ _) | (with_reducible refine Kd.C_drew ?_))); (case side2 => exact HC0.out); rintro e w27 ⟨v165, rfl, ho0, hb⟩; refine ⟨_, rfl, ?_⟩; have n0_ := Aside0.mk (Kd.R_elder' (by (with_reducible repeat (first | apply Kd.R_alloc | apply Kd.R_drewN | apply Kd.R_drew)); exact HO_5.out) (Kd.R_base ho0) hb); have n1_ := Aside0.mk (Kd.R_elder' (by (with_reducible repeat (first | apply Kd.R_alloc | apply Kd.R_drewN | apply Kd.R_drew)); exact HO_7.out) (Kd.R_base ho0) hb); have n2_ := Aside0.mk (Kd.R_elder' (by (with_reducible repeat (first | apply Kd.R_alloc | apply Kd.R_drewN | apply Kd.R_drew)); exact HO_8.out) (Kd.R_base ho0) hb); have n3_ := Aside0.mk (Kd.R_lower (Kd.R_new' (Kd.R_new' (Kd.R_new' ho0 (Kd.R_lt (by (with_reducible repeat (first | apply Kd.R_alloc | apply Kd.R_drewN | apply Kd.R_drew)); exact HO_5.out))) (Kd.R_lt (by (with_reducible repeat (first | apply Kd.R_alloc | apply Kd.R_drewN | apply Kd.R_drew)); exact HO_7.out))) (Kd.R_lt (by (with_reducible repeat (first | apply Kd.R_alloc | apply Kd.R_drewN | apply Kd.R_drew)); exact HO_8.out))) (below_size (by repeat (first | (with_reducible first | exact HB.out | apply below_alloc | apply pw_below_drewN | apply below_drew1) | exact HB.out)))); have n4_ := Aside0.mk (below_step (by repeat (first | (with_reducible first | exact HB.out | apply below_alloc | apply pw_below_drewN | apply below_drew1) | exact HB.out)) hb); clear HO_5; clear HO_7; clear HO_8; clear HB; have HO_5 := n0_; have HO_7 := n1_; have HO_8 := n2_; have HO166 := n3_; have HB := n4_; clear n0_ n1_ n2_ n3_ n4_; (try clear hb); (try clear hb2); (try clear hk); (try clear hi); (try clear ho0); obtain ⟨Ao28, co28, eo28⟩ := Kd.R_slice HO166.out; subst eo28) | ((with_reducible refine gate_callee (f := 10) rfl ?_); refine goesL_ (some 45) rfl rfl Try.func10 (by kernel_rfl) rfl #[.slice Ao13 t156.length co13, .slice Ao28 t164.length co28] rfl (by (try simp only [List.map_toArray, List.map_cons, List.map_nil]); first | done | rfl | (simp only [List.length_drop, List.length_take]; rfl)) ?_; (with_reducible refine (laws_eqInt64S.calls kj7 _ _ t156 _ _ t164 true _ ?side1 ?side2 ?side3 ?side4 A23.out).mono ?_); (case side1 => repeat (first | exact (Kd.R_reads' HO_7.out).2.2 | (with_reducible refine Kd.C_alloc ?_ _) | (with_reducible refine Kd.C_drewN ?_ _) | (with_reducible refine Kd.C_drew ?_))); (case side2 => exact (Kd.R_reads' HO_7.out).2.1); (case side3 => repeat (first | exact (Kd.R_reads' HO166.out).2.2 | (with_reducible refine Kd.C_alloc ?_ _) | (with_reducible refine Kd.C_drewN ?_ _) | (with_reducible refine Kd.C_drew ?_))); (case side4 => exact (Kd.R_reads' HO166.out).2.1); rintro e w' ⟨rfl, ⟨nd, rfl⟩⟩; refine ⟨_, rfl, ?_⟩) | ((with_reducible refine gate_callee (f := 11) rfl ?_); refine goesL_ (some 49) rfl rfl Try.func11 (by kernel_rfl) rfl #[.slice Ao13 t156.length co13, .int .i64 1] rfl (by (try simp only [List.map_toArray, List.map_cons, List.map_nil]); first | done | rfl | (simp only [List.length_drop, List.length_take]; rfl)) ?_; (with_reducible refine (laws_markInt64S.calls kj7 (fun k_ => some k_ = (.slice Ao13 t156.length co13 : Value).ownBlock) (.slice Ao13 t156.length co13) t156 1 t168 t169 w _ ?side1 ?side2 A25.out).mono ?_); (case side1 => repeat (first | (with_reducible first | exact HB.out | apply below_alloc | apply pw_below_drewN | apply below_drew1) | exact HB.out)); (case side2 => exact Kd.R_tight rfl HO_7.out); rintro e w29 ⟨rfl, hy0, hb, hkp⟩; refine ⟨_, rfl, ?_⟩; have n0_ := Aside0.mk (Kd.R_mono (ok' := fun k_ => some k_ ≠ (.slice Ao13 t156.length co13 : Value).ownBlock ∧ some k_ ≠ (v161 : Value).ownBlock ∧ some k_ ≠ (.slice Ao28 t164.length co28 : Value).ownBlock) (Kd.R_keptB (HO_5.out) hkp (fun k_ hk_ hs_ => (hk_.1.1) hs_)) (fun k_ hk_ => ⟨hk_.1.1.1, hk_.1.1.2, hk_.1.2⟩)); have n1_ := Aside0.mk (Kd.R_reok rfl hy0 (fun k_ e_ => HO_7.out.1 k_ e_)); have n2_ := Aside0.mk (Kd.R_mono (ok' := fun k_ => some k_ ≠ (v154 : Value).ownBlock ∧ some k_ ≠ (.slice Ao13 t156.length co13 : Value).ownBlock ∧ some k_ ≠ (.slice Ao28 t164.length co28 : Value).ownBlock) (Kd.R_keptB (HO_8.out) hkp (fun k_ hk_ hs_ => (hk_.1.2) hs_)) (fun k_ hk_ => ⟨hk_.1.1.1, hk_.1.1.2, hk_.1.2⟩)); have n3_ := Aside0.mk (Kd.R_mono (ok' := fun k_ => some k_ ≠ (v154 : Value).ownBlock ∧ some k_ ≠ (.slice Ao13 t156.length co13 : Value).ownBlock ∧ some k_ ≠ (v161 : Value).ownBlock) (Kd.R_keptB (HO166.out) hkp (fun k_ hk_ hs_ => (hk_.1.2) hs_)) (fun k_ hk_ => ⟨hk_.1.1.1.2, hk_.1.1.2, hk_.1.2⟩)); have n4_ := Aside0.mk (hb); clear HO_5; clear HO_7; clear HO_8; clear HO166; clear HB; have HO_5 := n0_; have HO_7 := n1_; have HO_8 := n2_; have HO166 := n3_; have HB := n4_; clear n0_ n1_ n2_ n3_ n4_; (try clear hb); (try clear hkp); (try clear hy0)))
            (try simp only [Act.put, List.setIfInBounds_toArray, List.set_cons_zero, List.set_cons_succ])
            go_cut [62] (fun v62 wc => ∃ (kq : Nat) (x62_25 : Bool), v62 = .bool x62_25 ∧ Aside0 (laws_FnExactBestTurns.j1 kq l0 a1 t152 t153 t159 x62_25 = some r) ∧ Aside0 (kq ≤ kj7) ∧ Aside0 (Kd.R (Kd.int .i64) 2 wc w.heap.size (fun k_ => some k_ ≠ (v161 : Value).ownBlock) v154 t152) ∧ Aside0 (Kd.R (Kd.int .i64) 2 wc w.heap.size (fun k_ => some k_ ≠ (v154 : Value).ownBlock) v161 t159) ∧ Aside0 (Below w.heap.size w wc))
            case first =>
              have H := HC26.out
              clear HC26
              by_cases c30 : t168 < 0
              · rw [if_pos c30] at H
                have c30b0 : decide (t168 < 0) = true := decide_eq_true c30
                clear c30
                (first | rw [c30b0] | (simp only [i64_w, i32_w]; rw [c30b0]) | skip)
                have H' := Aside0.mk H
                clear H
                go_wp2
                go_meet
                case rel => exact ⟨_, (true), (by first | rfl | (simp; done) | (simp [*]; done)), H', ⟨by have := HJ7.out; first | omega | exact Nat.le_refl _⟩, ⟨by (with_reducible repeat (first | apply Kd.R_alloc | apply Kd.R_drewN | apply Kd.R_drew)); exact Kd.R_mono HO_5.out (fun _ hk => hk.2.1)⟩, ⟨by (with_reducible repeat (first | apply Kd.R_alloc | apply Kd.R_drewN | apply Kd.R_drew)); exact Kd.R_mono HO_8.out (fun _ hk => hk.1)⟩, ⟨by repeat (first | (with_reducible first | exact HB.out | apply below_alloc | apply pw_below_drewN | apply below_drew1) | exact HB.out)⟩⟩
              · rw [if_neg c30] at H
                have c30b0 : decide (t168 < 0) = false := decide_eq_false c30
                clear c30
                (first | rw [c30b0] | (simp only [i64_w, i32_w]; rw [c30b0]) | skip)
                replace H := Option.bind_eq_some_iff.mp H
                obtain ⟨t170, A310, H⟩ := H
                replace H : (if t170 = true then (laws_FnExactBestTurns.j1 kj7 l0 a1 t152 t153 t159 (t160 != t153)) else (laws_FnExactBestTurns.j1 kj7 l0 a1 t152 t153 t159 true)) = some r := H
                have A31 := Aside0.mk A310
                clear A310
                by_cases c32 : t170 = true
                · subst c32
                  have H1 : (laws_FnExactBestTurns.j1 kj7 l0 a1 t152 t153 t159 (t160 != t153)) = some r := by rw [if_pos rfl] at H; exact H
                  clear H
                  have H := H1
                  clear H1
                  have H' := Aside0.mk H
                  clear H
                  obtain ⟨Ao33, co33, eo33⟩ := Kd.R_slice HO_8.out
                  subst eo33
                  obtain ⟨Ao34, co34, eo34⟩ := Kd.R_slice HO_5.out
                  subst eo34
                  go_wp2_with (first | (go_at_call 10; (with_reducible refine (laws_eqInt64S.calls kj7 _ _ t159 _ _ t152 true _ ?side1 ?side2 ?side3 ?side4 A31.out).mono ?_); (case side1 => repeat (first | exact (Kd.R_reads' HO_8.out).2.2 | (with_reducible refine Kd.C_alloc ?_ _) | (with_reducible refine Kd.C_drewN ?_ _) | (with_reducible refine Kd.C_drew ?_))); (case side2 => exact (Kd.R_reads' HO_8.out).2.1); (case side3 => repeat (first | exact (Kd.R_reads' HO_5.out).2.2 | (with_reducible refine Kd.C_alloc ?_ _) | (with_reducible refine Kd.C_drewN ?_ _) | (with_reducible refine Kd.C_drew ?_))); (case side4 => exact (Kd.R_reads' HO_5.out).2.1); rintro e w' ⟨rfl, ⟨nd, rfl⟩⟩))
                  go_meet
                  case rel => exact ⟨_, ((t160 != t153)), (by first | rfl | (simp; done) | (simp [*]; done)), H', ⟨by have := HJ7.out; first | omega | exact Nat.le_refl _⟩, ⟨by (with_reducible repeat (first | apply Kd.R_alloc | apply Kd.R_drewN | apply Kd.R_drew)); exact Kd.R_mono HO_5.out (fun _ hk => hk.2.1)⟩, ⟨by (with_reducible repeat (first | apply Kd.R_alloc | apply Kd.R_drewN | apply Kd.R_drew)); exact Kd.R_mono HO_8.out (fun _ hk => hk.1)⟩, ⟨by repeat (first | (with_reducible first | exact HB.out | apply below_alloc | apply pw_below_drewN | apply below_drew1) | exact HB.out)⟩⟩
                · replace c32 := Bool.eq_false_iff.mpr c32
                  subst c32
                  have H1 : (laws_FnExactBestTurns.j1 kj7 l0 a1 t152 t153 t159 true) = some r := by rw [if_neg (show ¬ (false = true) by decide)] at H; exact H
                  clear H
                  have H := H1
                  clear H1
                  have H' := Aside0.mk H
                  clear H
                  obtain ⟨Ao35, co35, eo35⟩ := Kd.R_slice HO_8.out
                  subst eo35
                  obtain ⟨Ao36, co36, eo36⟩ := Kd.R_slice HO_5.out
                  subst eo36
                  go_wp2_with (first | (go_at_call 10; (with_reducible refine (laws_eqInt64S.calls kj7 _ _ t159 _ _ t152 false _ ?side1 ?side2 ?side3 ?side4 A31.out).mono ?_); (case side1 => repeat (first | exact (Kd.R_reads' HO_8.out).2.2 | (with_reducible refine Kd.C_alloc ?_ _) | (with_reducible refine Kd.C_drewN ?_ _) | (with_reducible refine Kd.C_drew ?_))); (case side2 => exact (Kd.R_reads' HO_8.out).2.1); (case side3 => repeat (first | exact (Kd.R_reads' HO_5.out).2.2 | (with_reducible refine Kd.C_alloc ?_ _) | (with_reducible refine Kd.C_drewN ?_ _) | (with_reducible refine Kd.C_drew ?_))); (case side4 => exact (Kd.R_reads' HO_5.out).2.1); rintro e w' ⟨rfl, ⟨nd, rfl⟩⟩))
                  go_meet
                  case rel => exact ⟨_, (true), (by first | rfl | (simp; done) | (simp [*]; done)), H', ⟨by have := HJ7.out; first | omega | exact Nat.le_refl _⟩, ⟨by (with_reducible repeat (first | apply Kd.R_alloc | apply Kd.R_drewN | apply Kd.R_drew)); exact Kd.R_mono HO_5.out (fun _ hk => hk.2.1)⟩, ⟨by (with_reducible repeat (first | apply Kd.R_alloc | apply Kd.R_drewN | apply Kd.R_drew)); exact Kd.R_mono HO_8.out (fun _ hk => hk.1)⟩, ⟨by repeat (first | (with_reducible first | exact HB.out | apply below_alloc | apply pw_below_drewN | apply below_drew1) | exact HB.out)⟩⟩
            case rest =>
              clear HC26
              try clear c1
              try clear c2
              try clear p2
              try clear c3
              try clear c3b0
              try clear c3b1
              try clear c7
              try clear c8
              try clear c9
              try clear c10
              try clear c11
              try clear c16
              try clear c21
              try clear c24
              try clear c30
              try clear c30b0
              try clear c32
              try clear p2
              obtain ⟨kq, x62_25, rfl, HA, HJ25, HO_5, HO_8, HB⟩ := hcut
              cases kq with
              | zero => exact absurd HA.out (by simp [laws_FnExactBestTurns.j1])
              | succ kj25 =>
                have H := HA.out
                clear HA
                simp only [laws_FnExactBestTurns.j1] at H
                by_cases c37 : x62_25 = true
                · subst c37
                  have H1 : (some false) = some r := by rw [if_pos rfl] at H; exact H
                  clear H
                  have H := H1
                  clear H1
                  obtain rfl := Option.some.inj H
                  go_wp2
                  go_ret
                  exact ⟨by first | rfl | (simp [errW_none, errW_some] <;> rfl) | (simp [*, errW_none, errW_some] <;> rfl), by repeat (first | (with_reducible first | exact HB.out | apply below_alloc | apply pw_below_drewN | apply below_drew1) | exact HB.out)⟩
                · replace c37 := Bool.eq_false_iff.mpr c37
                  subst c37
                  have H1 : ((laws_markInt64S.f kj25 t159 1).bind fun bt171 => ((laws_heldInt64S.f kj25 bt171.2 1).bind fun t173 => (if t173 < 0 then (some false) else (if t173 = bt171.1 then ((laws_toInt64S.f kj25 l0).bind fun t174 => ((impl_BestTurns.f kj25 t174 a1).bind fun bt177 => ((laws_eqInt64S.f kj25 bt177.1 t152).bind fun t181 => (if t181 = true then (laws_FnExactBestTurns.j2 kj25 bt171.2 bt171.1 (bt177.2 != t153)) else (laws_FnExactBestTurns.j2 kj25 bt171.2 bt171.1 true))))) else (some false))))) = some r := by rw [if_neg (show ¬ (false = true) by decide)] at H; exact H
                  clear H
                  have H := H1
                  clear H1
                  replace H := Option.bind_eq_some_iff.mp H
                  obtain ⟨⟨t171, t172⟩, A380, H⟩ := H
                  replace H : ((laws_heldInt64S.f kj25 t172 1).bind fun t173 => (if t173 < 0 then (some false) else (if t173 = t171 then ((laws_toInt64S.f kj25 l0).bind fun t174 => ((impl_BestTurns.f kj25 t174 a1).bind fun bt177 => ((laws_eqInt64S.f kj25 bt177.1 t152).bind fun t181 => (if t181 = true then (laws_FnExactBestTurns.j2 kj25 t172 t171 (bt177.2 != t153)) else (laws_FnExactBestTurns.j2 kj25 t172 t171 true))))) else (some false)))) = some r := H
                  have A38 := Aside0.mk A380
                  clear A380
                  replace H := Option.bind_eq_some_iff.mp H
                  obtain ⟨t173, A390, H⟩ := H
                  replace H : (if t173 < 0 then (some false) else (if t173 = t171 then ((laws_toInt64S.f kj25 l0).bind fun t174 => ((impl_BestTurns.f kj25 t174 a1).bind fun bt177 => ((laws_eqInt64S.f kj25 bt177.1 t152).bind fun t181 => (if t181 = true then (laws_FnExactBestTurns.j2 kj25 t172 t171 (bt177.2 != t153)) else (laws_FnExactBestTurns.j2 kj25 t172 t171 true))))) else (some false))) = some r := H
                  have A39 := Aside0.mk A390
                  clear A390
                  by_cases c40 : t173 < 0
                  · rw [if_pos c40] at H
                    have c40b0 : decide (t173 < 0) = true := decide_eq_true c40
                    clear c40
                    obtain rfl := Option.some.inj H
                    obtain ⟨Ao41, co41, eo41⟩ := Kd.R_slice HO_8.out
                    subst eo41
                    go_wp2_with (first | ((with_reducible refine gate_callee (f := 11) rfl ?_); refine goesL_ (some 65) rfl rfl Try.func11 (by kernel_rfl) rfl #[.slice Ao41 t159.length co41, .int .i64 1] rfl (by (try simp only [List.map_toArray, List.map_cons, List.map_nil]); first | done | rfl | (simp only [List.length_drop, List.length_take]; rfl)) ?_; (with_reducible refine (laws_markInt64S.calls kj25 (fun k_ => some k_ = (.slice Ao41 t159.length co41 : Value).ownBlock) (.slice Ao41 t159.length co41) t159 1 t171 t172 w _ ?side1 ?side2 A38.out).mono ?_); (case side1 => repeat (first | (with_reducible first | exact HB.out | apply below_alloc | apply pw_below_drewN | apply below_drew1) | exact HB.out)); (case side2 => exact Kd.R_tight rfl HO_8.out); rintro e w42 ⟨rfl, hy0, hb, hkp⟩; refine ⟨_, rfl, ?_⟩; have n0_ := Aside0.mk (Kd.R_mono (ok' := fun k_ => some k_ ≠ (.slice Ao41 t159.length co41 : Value).ownBlock) (Kd.R_keptB (HO_5.out) hkp (fun k_ hk_ hs_ => (hk_) hs_)) (fun k_ hk_ => hk_.1)); have n1_ := Aside0.mk (Kd.R_reok rfl hy0 (fun k_ e_ => HO_8.out.1 k_ e_)); have n2_ := Aside0.mk (hb); clear HO_5; clear HO_8; clear HB; have HO_5 := n0_; have HO_8 := n1_; have HB := n2_; clear n0_ n1_ n2_; (try clear hb); (try clear hkp); (try clear hy0)) | ((with_reducible refine gate_callee (f := 12) rfl ?_); refine goesL_ (some 68) rfl rfl Try.func12 (by kernel_rfl) rfl #[.slice Ao41 t172.length co41, .int .i64 1] rfl (by (try simp only [List.map_toArray, List.map_cons, List.map_nil]); first | done | (rw [show t172.length = t159.length from (Kd.R_reads' HO_8.out).1.symm] <;> rfl) | rfl | (simp only [List.length_drop, List.length_take]; rfl)) ?_; (with_reducible refine (laws_heldInt64S.calls kj25 _ _ t172 1 t173 _ ?side1 ?side2 A39.out).mono ?_); (case side1 => repeat (first | exact (Kd.R_reads' HO_8.out).2.2 | (with_reducible refine Kd.C_alloc ?_ _) | (with_reducible refine Kd.C_drewN ?_ _) | (with_reducible refine Kd.C_drew ?_))); (case side2 => rw [show t172.length = t159.length from (Kd.R_reads' HO_8.out).1.symm]; exact (Kd.R_reads' HO_8.out).2.1); rintro e w' ⟨rfl, ⟨nd, rfl⟩⟩; refine ⟨_, rfl, ?_⟩))
                    go_ret
                    exact ⟨by first | rfl | (simp [errW_none, errW_some] <;> rfl) | (simp [*, errW_none, errW_some] <;> rfl), by repeat (first | (with_reducible first | exact HB.out | apply below_alloc | apply pw_below_drewN | apply below_drew1) | exact HB.out)⟩
                  · rw [if_neg c40] at H
                    have c40b0 : decide (t173 < 0) = false := decide_eq_false c40
                    clear c40
                    by_cases c43 : t173 = t171
                    · rw [if_pos c43] at H
                      have c43b0 : (t173 == t171) = true := beq_iff_eq.mpr c43
                      have c43b1 : (t173 != t171) = false := bne_eq_false_iff_eq.mpr c43
                      clear c43
                      replace H := Option.bind_eq_some_iff.mp H
                      obtain ⟨t174, A440, H⟩ := H
                      replace H : ((impl_BestTurns.f kj25 t174 a1).bind fun bt177 => ((laws_eqInt64S.f kj25 bt177.1 t152).bind fun t181 => (if t181 = true then (laws_FnExactBestTurns.j2 kj25 t172 t171 (bt177.2 != t153)) else (laws_FnExactBestTurns.j2 kj25 t172 t171 true)))) = some r := H
                      have A44 := Aside0.mk A440
                      clear A440
                      replace H := Option.bind_eq_some_iff.mp H
                      obtain ⟨⟨t177, t178⟩, A450, H⟩ := H
                      replace H : ((laws_eqInt64S.f kj25 t177 t152).bind fun t181 => (if t181 = true then (laws_FnExactBestTurns.j2 kj25 t172 t171 (t178 != t153)) else (laws_FnExactBestTurns.j2 kj25 t172 t171 true))) = some r := H
                      have A45 := Aside0.mk A450
                      clear A450
                      have HC46 := Aside0.mk H
                      clear H
                      obtain ⟨Ao47, co47, eo47⟩ := Kd.R_slice HO_8.out
                      subst eo47
                      go_upto_region 23 with (first | ((with_reducible refine gate_callee (f := 11) rfl ?_); refine goesL_ (some 65) rfl rfl Try.func11 (by kernel_rfl) rfl #[.slice Ao47 t159.length co47, .int .i64 1] rfl (by (try simp only [List.map_toArray, List.map_cons, List.map_nil]); first | done | rfl | (simp only [List.length_drop, List.length_take]; rfl)) ?_; (with_reducible refine (laws_markInt64S.calls kj25 (fun k_ => some k_ = (.slice Ao47 t159.length co47 : Value).ownBlock) (.slice Ao47 t159.length co47) t159 1 t171 t172 w _ ?side1 ?side2 A38.out).mono ?_); (case side1 => repeat (first | (with_reducible first | exact HB.out | apply below_alloc | apply pw_below_drewN | apply below_drew1) | exact HB.out)); (case side2 => exact Kd.R_tight rfl HO_8.out); rintro e w48 ⟨rfl, hy0, hb, hkp⟩; refine ⟨_, rfl, ?_⟩; have n0_ := Aside0.mk (Kd.R_mono (ok' := fun k_ => some k_ ≠ (.slice Ao47 t159.length co47 : Value).ownBlock) (Kd.R_keptB (HO_5.out) hkp (fun k_ hk_ hs_ => (hk_) hs_)) (fun k_ hk_ => hk_.1)); have n1_ := Aside0.mk (Kd.R_reok rfl hy0 (fun k_ e_ => HO_8.out.1 k_ e_)); have n2_ := Aside0.mk (hb); clear HO_5; clear HO_8; clear HB; have HO_5 := n0_; have HO_8 := n1_; have HB := n2_; clear n0_ n1_ n2_; (try clear hb); (try clear hkp); (try clear hy0)) | ((with_reducible refine gate_callee (f := 12) rfl ?_); refine goesL_ (some 68) rfl rfl Try.func12 (by kernel_rfl) rfl #[.slice Ao47 t172.length co47, .int .i64 1] rfl (by (try simp only [List.map_toArray, List.map_cons, List.map_nil]); first | done | (rw [show t172.length = t159.length from (Kd.R_reads' HO_8.out).1.symm] <;> rfl) | rfl | (simp only [List.length_drop, List.length_take]; rfl)) ?_; (with_reducible refine (laws_heldInt64S.calls kj25 _ _ t172 1 t173 _ ?side1 ?side2 A39.out).mono ?_); (case side1 => repeat (first | exact (Kd.R_reads' HO_8.out).2.2 | (with_reducible refine Kd.C_alloc ?_ _) | (with_reducible refine Kd.C_drewN ?_ _) | (with_reducible refine Kd.C_drew ?_))); (case side2 => rw [show t172.length = t159.length from (Kd.R_reads' HO_8.out).1.symm]; exact (Kd.R_reads' HO_8.out).2.1); rintro e w' ⟨rfl, ⟨nd, rfl⟩⟩; refine ⟨_, rfl, ?_⟩) | ((with_reducible refine gate_callee (f := 8) rfl ?_); refine goesL_ (some 76) rfl rfl Try.func8 (by kernel_rfl) rfl #[.slice A0 l0.length c0] rfl (by (try simp only [List.map_toArray, List.map_cons, List.map_nil]); first | done | rfl | (simp only [List.length_drop, List.length_take]; rfl)) ?_; (with_reducible refine (laws_toInt64S.calls kj25 _ _ l0 t174 _ ?side1 ?side2 A44.out).mono ?_); (case side1 => repeat (first | exact (Kd.C_below HR0.out (by repeat (first | (with_reducible first | exact HB.out | apply below_alloc | apply pw_below_drewN | apply below_drew1) | exact HB.out))) | (with_reducible refine Kd.C_alloc ?_ _) | (with_reducible refine Kd.C_drewN ?_ _) | (with_reducible refine Kd.C_drew ?_))); (case side2 => exact HC0.out); rintro e w49 ⟨v175, rfl, ho0, hb⟩; refine ⟨_, rfl, ?_⟩; have n0_ := Aside0.mk (Kd.R_elder' (by (with_reducible repeat (first | apply Kd.R_alloc | apply Kd.R_drewN | apply Kd.R_drew)); exact HO_5.out) (Kd.R_base ho0) hb); have n1_ := Aside0.mk (Kd.R_elder' (by (with_reducible repeat (first | apply Kd.R_alloc | apply Kd.R_drewN | apply Kd.R_drew)); exact HO_8.out) (Kd.R_base ho0) hb); have n2_ := Aside0.mk (Kd.R_lower (Kd.R_new' (Kd.R_new' ho0 (Kd.R_lt (by (with_reducible repeat (first | apply Kd.R_alloc | apply Kd.R_drewN | apply Kd.R_drew)); exact HO_5.out))) (Kd.R_lt (by (with_reducible repeat (first | apply Kd.R_alloc | apply Kd.R_drewN | apply Kd.R_drew)); exact HO_8.out))) (below_size (by repeat (first | (with_reducible first | exact HB.out | apply below_alloc | apply pw_below_drewN | apply below_drew1) | exact HB.out)))); have n3_ := Aside0.mk (below_step (by repeat (first | (with_reducible first | exact HB.out | apply below_alloc | apply pw_below_drewN | apply below_drew1) | exact HB.out)) hb); clear HO_5; clear HO_8; clear HB; have HO_5 := n0_; have HO_8 := n1_; have HO176 := n2_; have HB := n3_; clear n0_ n1_ n2_ n3_; (try clear hb); (try clear hb2); (try clear hk); (try clear hi); (try clear ho0); obtain ⟨Ao50, co50, eo50⟩ := Kd.R_slice HO176.out; subst eo50) | ((with_reducible refine gate_callee (f := 9) rfl ?_); refine goesL_ (some 78) rfl rfl Try.func9 (by kernel_rfl) rfl #[.slice Ao50 t174.length co50, .int .i64 a1] rfl (by (try simp only [List.map_toArray, List.map_cons, List.map_nil]); first | done | rfl | (simp only [List.length_drop, List.length_take]; rfl)) ?_; (with_reducible refine (impl_BestTurns.calls kj25 _ _ t174 a1 t177 t178 _ ?side1 ?side2 A45.out).mono ?_); (case side1 => repeat (first | exact (Kd.R_reads' HO176.out).2.2 | (with_reducible refine Kd.C_alloc ?_ _) | (with_reducible refine Kd.C_drewN ?_ _) | (with_reducible refine Kd.C_drew ?_))); (case side2 => exact (Kd.R_reads' HO176.out).2.1); rintro e w51 ⟨v179, rfl, ho0, hb⟩; refine ⟨_, rfl, ?_⟩; have n0_ := Aside0.mk (Kd.R_elder' (by (with_reducible repeat (first | apply Kd.R_alloc | apply Kd.R_drewN | apply Kd.R_drew)); exact HO_5.out) (Kd.R_base ho0) hb); have n1_ := Aside0.mk (Kd.R_elder' (by (with_reducible repeat (first | apply Kd.R_alloc | apply Kd.R_drewN | apply Kd.R_drew)); exact HO_8.out) (Kd.R_base ho0) hb); have n2_ := Aside0.mk (Kd.R_elder' (by (with_reducible repeat (first | apply Kd.R_alloc | apply Kd.R_drewN | apply Kd.R_drew)); exact HO176.out) (Kd.R_base ho0) hb); have n3_ := Aside0.mk (Kd.R_lower (Kd.R_new' (Kd.R_new' (Kd.R_new' ho0 (Kd.R_lt (by (with_reducible repeat (first | apply Kd.R_alloc | apply Kd.R_drewN | apply Kd.R_drew)); exact HO_5.out))) (Kd.R_lt (by (with_reducible repeat (first | apply Kd.R_alloc | apply Kd.R_drewN | apply Kd.R_drew)); exact HO_8.out))) (Kd.R_lt (by (with_reducible repeat (first | apply Kd.R_alloc | apply Kd.R_drewN | apply Kd.R_drew)); exact HO176.out))) (below_size (by repeat (first | (with_reducible first | exact HB.out | apply below_alloc | apply pw_below_drewN | apply below_drew1) | exact HB.out)))); have n4_ := Aside0.mk (below_step (by repeat (first | (with_reducible first | exact HB.out | apply below_alloc | apply pw_below_drewN | apply below_drew1) | exact HB.out)) hb); clear HO_5; clear HO_8; clear HO176; clear HB; have HO_5 := n0_; have HO_8 := n1_; have HO176 := n2_; have HO180 := n3_; have HB := n4_; clear n0_ n1_ n2_ n3_ n4_; (try clear hb); (try clear hb2); (try clear hk); (try clear hi); (try clear ho0)))
                      (try simp only [Act.put, List.setIfInBounds_toArray, List.set_cons_zero, List.set_cons_succ])
                      go_cut [89] (fun v89 wc => ∃ (kq : Nat) (x89_45 : Bool), v89 = .bool x89_45 ∧ Aside0 (laws_FnExactBestTurns.j2 kq t172 t171 x89_45 = some r) ∧ Aside0 (kq ≤ kj25) ∧ Aside0 (Kd.R (Kd.int .i64) 2 wc w.heap.size (fun _ => True) (.slice Ao47 t159.length co47) t172) ∧ Aside0 (Below w.heap.size w wc))
                      case first =>
                        have H := HC46.out
                        clear HC46
                        replace H := Option.bind_eq_some_iff.mp H
                        obtain ⟨t181, A520, H⟩ := H
                        replace H : (if t181 = true then (laws_FnExactBestTurns.j2 kj25 t172 t171 (t178 != t153)) else (laws_FnExactBestTurns.j2 kj25 t172 t171 true)) = some r := H
                        have A52 := Aside0.mk A520
                        clear A520
                        by_cases c53 : t181 = true
                        · subst c53
                          have H1 : (laws_FnExactBestTurns.j2 kj25 t172 t171 (t178 != t153)) = some r := by rw [if_pos rfl] at H; exact H
                          clear H
                          have H := H1
                          clear H1
                          have H' := Aside0.mk H
                          clear H
                          obtain ⟨Ao54, co54, eo54⟩ := Kd.R_slice HO180.out
                          subst eo54
                          obtain ⟨Ao55, co55, eo55⟩ := Kd.R_slice HO_5.out
                          subst eo55
                          go_wp2_with (first | ((with_reducible refine gate_callee (f := 10) rfl ?_); refine goesL_ (some 83) rfl rfl Try.func10 (by kernel_rfl) rfl #[.slice Ao54 t177.length co54, .slice Ao55 t152.length co55] rfl (by (try simp only [List.map_toArray, List.map_cons, List.map_nil]); first | done | rfl | (simp only [List.length_drop, List.length_take]; rfl)) ?_; (with_reducible refine (laws_eqInt64S.calls kj25 _ _ t177 _ _ t152 true _ ?side1 ?side2 ?side3 ?side4 A52.out).mono ?_); (case side1 => repeat (first | exact (Kd.R_reads' HO180.out).2.2 | (with_reducible refine Kd.C_alloc ?_ _) | (with_reducible refine Kd.C_drewN ?_ _) | (with_reducible refine Kd.C_drew ?_))); (case side2 => exact (Kd.R_reads' HO180.out).2.1); (case side3 => repeat (first | exact (Kd.R_reads' HO_5.out).2.2 | (with_reducible refine Kd.C_alloc ?_ _) | (with_reducible refine Kd.C_drewN ?_ _) | (with_reducible refine Kd.C_drew ?_))); (case side4 => exact (Kd.R_reads' HO_5.out).2.1); rintro e w' ⟨rfl, ⟨nd, rfl⟩⟩; refine ⟨_, rfl, ?_⟩))
                          go_meet
                          case rel => exact ⟨_, ((t178 != t153)), (by first | rfl | (simp; done) | (simp [*]; done)), H', ⟨by have := HJ7.out; have := HJ25.out; first | omega | exact Nat.le_refl _⟩, ⟨by (with_reducible repeat (first | apply Kd.R_alloc | apply Kd.R_drewN | apply Kd.R_drew)); exact Kd.R_mono HO_8.out (fun _ hk => trivial)⟩, ⟨by repeat (first | (with_reducible first | exact HB.out | apply below_alloc | apply pw_below_drewN | apply below_drew1) | exact HB.out)⟩⟩
                        · replace c53 := Bool.eq_false_iff.mpr c53
                          subst c53
                          have H1 : (laws_FnExactBestTurns.j2 kj25 t172 t171 true) = some r := by rw [if_neg (show ¬ (false = true) by decide)] at H; exact H
                          clear H
                          have H := H1
                          clear H1
                          have H' := Aside0.mk H
                          clear H
                          obtain ⟨Ao56, co56, eo56⟩ := Kd.R_slice HO180.out
                          subst eo56
                          obtain ⟨Ao57, co57, eo57⟩ := Kd.R_slice HO_5.out
                          subst eo57
                          go_wp2_with (first | ((with_reducible refine gate_callee (f := 10) rfl ?_); refine goesL_ (some 83) rfl rfl Try.func10 (by kernel_rfl) rfl #[.slice Ao56 t177.length co56, .slice Ao57 t152.length co57] rfl (by (try simp only [List.map_toArray, List.map_cons, List.map_nil]); first | done | rfl | (simp only [List.length_drop, List.length_take]; rfl)) ?_; (with_reducible refine (laws_eqInt64S.calls kj25 _ _ t177 _ _ t152 false _ ?side1 ?side2 ?side3 ?side4 A52.out).mono ?_); (case side1 => repeat (first | exact (Kd.R_reads' HO180.out).2.2 | (with_reducible refine Kd.C_alloc ?_ _) | (with_reducible refine Kd.C_drewN ?_ _) | (with_reducible refine Kd.C_drew ?_))); (case side2 => exact (Kd.R_reads' HO180.out).2.1); (case side3 => repeat (first | exact (Kd.R_reads' HO_5.out).2.2 | (with_reducible refine Kd.C_alloc ?_ _) | (with_reducible refine Kd.C_drewN ?_ _) | (with_reducible refine Kd.C_drew ?_))); (case side4 => exact (Kd.R_reads' HO_5.out).2.1); rintro e w' ⟨rfl, ⟨nd, rfl⟩⟩; refine ⟨_, rfl, ?_⟩))
                          go_meet
                          case rel => exact ⟨_, (true), (by first | rfl | (simp; done) | (simp [*]; done)), H', ⟨by have := HJ7.out; have := HJ25.out; first | omega | exact Nat.le_refl _⟩, ⟨by (with_reducible repeat (first | apply Kd.R_alloc | apply Kd.R_drewN | apply Kd.R_drew)); exact Kd.R_mono HO_8.out (fun _ hk => trivial)⟩, ⟨by repeat (first | (with_reducible first | exact HB.out | apply below_alloc | apply pw_below_drewN | apply below_drew1) | exact HB.out)⟩⟩
                      case rest =>
                        clear HC46
                        try clear c1
                        try clear c2
                        try clear p2
                        try clear c3
                        try clear c3b0
                        try clear c3b1
                        try clear c4
                        try clear c5
                        try clear c7
                        try clear c8
                        try clear c9
                        try clear c10
                        try clear c11
                        try clear c12
                        try clear c16
                        try clear c21
                        try clear c24
                        try clear c30
                        try clear c30b0
                        try clear c32
                        try clear c37
                        try clear c40
                        try clear c40b0
                        try clear c43
                        try clear c43b0
                        try clear c43b1
                        try clear c53
                        try clear p2
                        obtain ⟨kq, x89_45, rfl, HA, HJ45, HO_8, HB⟩ := hcut
                        have hl8_45 := (Kd.R_reads' HO_8.out).1
                        rw [hl8_45] at HO_8
                        (try simp only [hl8_45])
                        cases kq with
                        | zero => exact absurd HA.out (by simp [laws_FnExactBestTurns.j2])
                        | succ kj45 =>
                          have H := HA.out
                          clear HA
                          simp only [laws_FnExactBestTurns.j2] at H
                          by_cases c58 : x89_45 = true
                          · subst c58
                            have H1 : (some false) = some r := by rw [if_pos rfl] at H; exact H
                            clear H
                            have H := H1
                            clear H1
                            obtain rfl := Option.some.inj H
                            go_wp2
                            go_ret
                            exact ⟨by first | rfl | (simp [errW_none, errW_some] <;> rfl) | (simp [*, errW_none, errW_some] <;> rfl), by repeat (first | (with_reducible first | exact HB.out | apply below_alloc | apply pw_below_drewN | apply below_drew1) | exact HB.out)⟩
                          · replace c58 := Bool.eq_false_iff.mpr c58
                            subst c58
                            have H1 : ((laws_heldInt64S.f kj45 t172 1).bind fun t182 => (if t182 < 0 then (some false) else (if t182 = t171 then (some true) else (some false)))) = some r := by rw [if_neg (show ¬ (false = true) by decide)] at H; exact H
                            clear H
                            have H := H1
                            clear H1
                            replace H := Option.bind_eq_some_iff.mp H
                            obtain ⟨t182, A590, H⟩ := H
                            replace H : (if t182 < 0 then (some false) else (if t182 = t171 then (some true) else (some false))) = some r := H
                            have A59 := Aside0.mk A590
                            clear A590
                            by_cases c60 : t182 < 0
                            · rw [if_pos c60] at H
                              have c60b0 : decide (t182 < 0) = true := decide_eq_true c60
                              clear c60
                              obtain rfl := Option.some.inj H
                              go_wp2_with (first | ((with_reducible refine gate_callee (f := 12) rfl ?_); refine goesL_ (some 92) rfl rfl Try.func12 (by kernel_rfl) rfl #[.slice Ao47 t172.length co47, .int .i64 1] rfl (by (try simp only [List.map_toArray, List.map_cons, List.map_nil]); first | done | rfl | (simp only [List.length_drop, List.length_take]; rfl)) ?_; (with_reducible refine (laws_heldInt64S.calls kj45 _ _ t172 1 t182 _ ?side1 ?side2 A59.out).mono ?_); (case side1 => repeat (first | exact (Kd.R_reads' HO_8.out).2.2 | (with_reducible refine Kd.C_alloc ?_ _) | (with_reducible refine Kd.C_drewN ?_ _) | (with_reducible refine Kd.C_drew ?_))); (case side2 => exact (Kd.R_reads' HO_8.out).2.1); rintro e w' ⟨rfl, ⟨nd, rfl⟩⟩; refine ⟨_, rfl, ?_⟩))
                              go_ret
                              exact ⟨by first | rfl | (simp [errW_none, errW_some] <;> rfl) | (simp [*, errW_none, errW_some] <;> rfl), by repeat (first | (with_reducible first | exact HB.out | apply below_alloc | apply pw_below_drewN | apply below_drew1) | exact HB.out)⟩
                            · rw [if_neg c60] at H
                              have c60b0 : decide (t182 < 0) = false := decide_eq_false c60
                              clear c60
                              by_cases c61 : t182 = t171
                              · rw [if_pos c61] at H
                                have c61b0 : (t182 == t171) = true := beq_iff_eq.mpr c61
                                have c61b1 : (t182 != t171) = false := bne_eq_false_iff_eq.mpr c61
                                clear c61
                                obtain rfl := Option.some.inj H
                                go_wp2_with (first | ((with_reducible refine gate_callee (f := 12) rfl ?_); refine goesL_ (some 92) rfl rfl Try.func12 (by kernel_rfl) rfl #[.slice Ao47 t172.length co47, .int .i64 1] rfl (by (try simp only [List.map_toArray, List.map_cons, List.map_nil]); first | done | rfl | (simp only [List.length_drop, List.length_take]; rfl)) ?_; (with_reducible refine (laws_heldInt64S.calls kj45 _ _ t172 1 t182 _ ?side1 ?side2 A59.out).mono ?_); (case side1 => repeat (first | exact (Kd.R_reads' HO_8.out).2.2 | (with_reducible refine Kd.C_alloc ?_ _) | (with_reducible refine Kd.C_drewN ?_ _) | (with_reducible refine Kd.C_drew ?_))); (case side2 => exact (Kd.R_reads' HO_8.out).2.1); rintro e w' ⟨rfl, ⟨nd, rfl⟩⟩; refine ⟨_, rfl, ?_⟩))
                                go_ret
                                exact ⟨by first | rfl | (simp [errW_none, errW_some] <;> rfl) | (simp [*, errW_none, errW_some] <;> rfl), by repeat (first | (with_reducible first | exact HB.out | apply below_alloc | apply pw_below_drewN | apply below_drew1) | exact HB.out)⟩
                              · rw [if_neg c61] at H
                                have c61b0 : (t182 == t171) = false := beq_eq_false_iff_ne.mpr c61
                                have c61b1 : (t182 != t171) = true := bne_iff_ne.mpr c61
                                obtain rfl := Option.some.inj H
                                go_wp2_with (first | ((with_reducible refine gate_callee (f := 12) rfl ?_); refine goesL_ (some 92) rfl rfl Try.func12 (by kernel_rfl) rfl #[.slice Ao47 t172.length co47, .int .i64 1] rfl (by (try simp only [List.map_toArray, List.map_cons, List.map_nil]); first | done | rfl | (simp only [List.length_drop, List.length_take]; rfl)) ?_; (with_reducible refine (laws_heldInt64S.calls kj45 _ _ t172 1 t182 _ ?side1 ?side2 A59.out).mono ?_); (case side1 => repeat (first | exact (Kd.R_reads' HO_8.out).2.2 | (with_reducible refine Kd.C_alloc ?_ _) | (with_reducible refine Kd.C_drewN ?_ _) | (with_reducible refine Kd.C_drew ?_))); (case side2 => exact (Kd.R_reads' HO_8.out).2.1); rintro e w' ⟨rfl, ⟨nd, rfl⟩⟩; refine ⟨_, rfl, ?_⟩))
                                go_ret
                                exact ⟨by first | rfl | (simp [errW_none, errW_some] <;> rfl) | (simp [*, errW_none, errW_some] <;> rfl), by repeat (first | (with_reducible first | exact HB.out | apply below_alloc | apply pw_below_drewN | apply below_drew1) | exact HB.out)⟩
                    · rw [if_neg c43] at H
                      have c43b0 : (t173 == t171) = false := beq_eq_false_iff_ne.mpr c43
                      have c43b1 : (t173 != t171) = true := bne_iff_ne.mpr c43
                      obtain rfl := Option.some.inj H
                      obtain ⟨Ao62, co62, eo62⟩ := Kd.R_slice HO_8.out
                      subst eo62
                      go_wp2_with (first | ((with_reducible refine gate_callee (f := 11) rfl ?_); refine goesL_ (some 65) rfl rfl Try.func11 (by kernel_rfl) rfl #[.slice Ao62 t159.length co62, .int .i64 1] rfl (by (try simp only [List.map_toArray, List.map_cons, List.map_nil]); first | done | rfl | (simp only [List.length_drop, List.length_take]; rfl)) ?_; (with_reducible refine (laws_markInt64S.calls kj25 (fun k_ => some k_ = (.slice Ao62 t159.length co62 : Value).ownBlock) (.slice Ao62 t159.length co62) t159 1 t171 t172 w _ ?side1 ?side2 A38.out).mono ?_); (case side1 => repeat (first | (with_reducible first | exact HB.out | apply below_alloc | apply pw_below_drewN | apply below_drew1) | exact HB.out)); (case side2 => exact Kd.R_tight rfl HO_8.out); rintro e w63 ⟨rfl, hy0, hb, hkp⟩; refine ⟨_, rfl, ?_⟩; have n0_ := Aside0.mk (Kd.R_mono (ok' := fun k_ => some k_ ≠ (.slice Ao62 t159.length co62 : Value).ownBlock) (Kd.R_keptB (HO_5.out) hkp (fun k_ hk_ hs_ => (hk_) hs_)) (fun k_ hk_ => hk_.1)); have n1_ := Aside0.mk (Kd.R_reok rfl hy0 (fun k_ e_ => HO_8.out.1 k_ e_)); have n2_ := Aside0.mk (hb); clear HO_5; clear HO_8; clear HB; have HO_5 := n0_; have HO_8 := n1_; have HB := n2_; clear n0_ n1_ n2_; (try clear hb); (try clear hkp); (try clear hy0)) | ((with_reducible refine gate_callee (f := 12) rfl ?_); refine goesL_ (some 68) rfl rfl Try.func12 (by kernel_rfl) rfl #[.slice Ao62 t172.length co62, .int .i64 1] rfl (by (try simp only [List.map_toArray, List.map_cons, List.map_nil]); first | done | (rw [show t172.length = t159.length from (Kd.R_reads' HO_8.out).1.symm] <;> rfl) | rfl | (simp only [List.length_drop, List.length_take]; rfl)) ?_; (with_reducible refine (laws_heldInt64S.calls kj25 _ _ t172 1 t173 _ ?side1 ?side2 A39.out).mono ?_); (case side1 => repeat (first | exact (Kd.R_reads' HO_8.out).2.2 | (with_reducible refine Kd.C_alloc ?_ _) | (with_reducible refine Kd.C_drewN ?_ _) | (with_reducible refine Kd.C_drew ?_))); (case side2 => rw [show t172.length = t159.length from (Kd.R_reads' HO_8.out).1.symm]; exact (Kd.R_reads' HO_8.out).2.1); rintro e w' ⟨rfl, ⟨nd, rfl⟩⟩; refine ⟨_, rfl, ?_⟩))
                      go_ret
                      exact ⟨by first | rfl | (simp [errW_none, errW_some] <;> rfl) | (simp [*, errW_none, errW_some] <;> rfl), by repeat (first | (with_reducible first | exact HB.out | apply below_alloc | apply pw_below_drewN | apply below_drew1) | exact HB.out)⟩
          · replace c24 := Bool.eq_false_iff.mpr c24
            subst c24
            have H1 : (some false) = some r := by rw [if_neg (show ¬ (false = true) by decide)] at H; exact H
            clear H
            have H := H1
            clear H1
            obtain rfl := Option.some.inj H
            go_wp2_with (first | ((with_reducible refine gate_callee (f := 8) rfl ?_); refine goesL_ (some 44) rfl rfl Try.func8 (by kernel_rfl) rfl #[.slice A0 l0.length c0] rfl (by (try simp only [List.map_toArray, List.map_cons, List.map_nil]); first | done | rfl | (simp only [List.length_drop, List.length_take]; rfl)) ?_; (with_reducible refine (laws_toInt64S.calls kj7 _ _ l0 t164 _ ?side1 ?side2 A22.out).mono ?_); (case side1 => repeat (first | exact (Kd.C_below HR0.out HB.out) | (with_reducible refine Kd.C_alloc ?_ _) | (with_reducible refine Kd.C_drewN ?_ _) | (with_reducible refine Kd.C_drew ?_))); (case side2 => exact HC0.out); rintro e w64 ⟨v165, rfl, ho0, hb⟩; refine ⟨_, rfl, ?_⟩; have n0_ := Aside0.mk (Kd.R_elder' (by (with_reducible repeat (first | apply Kd.R_alloc | apply Kd.R_drewN | apply Kd.R_drew)); exact HO_5.out) (Kd.R_base ho0) hb); have n1_ := Aside0.mk (Kd.R_elder' (by (with_reducible repeat (first | apply Kd.R_alloc | apply Kd.R_drewN | apply Kd.R_drew)); exact HO_7.out) (Kd.R_base ho0) hb); have n2_ := Aside0.mk (Kd.R_elder' (by (with_reducible repeat (first | apply Kd.R_alloc | apply Kd.R_drewN | apply Kd.R_drew)); exact HO_8.out) (Kd.R_base ho0) hb); have n3_ := Aside0.mk (Kd.R_lower (Kd.R_new' (Kd.R_new' (Kd.R_new' ho0 (Kd.R_lt (by (with_reducible repeat (first | apply Kd.R_alloc | apply Kd.R_drewN | apply Kd.R_drew)); exact HO_5.out))) (Kd.R_lt (by (with_reducible repeat (first | apply Kd.R_alloc | apply Kd.R_drewN | apply Kd.R_drew)); exact HO_7.out))) (Kd.R_lt (by (with_reducible repeat (first | apply Kd.R_alloc | apply Kd.R_drewN | apply Kd.R_drew)); exact HO_8.out))) (below_size (by repeat (first | (with_reducible first | exact HB.out | apply below_alloc | apply pw_below_drewN | apply below_drew1) | exact HB.out)))); have n4_ := Aside0.mk (below_step (by repeat (first | (with_reducible first | exact HB.out | apply below_alloc | apply pw_below_drewN | apply below_drew1) | exact HB.out)) hb); clear HO_5; clear HO_7; clear HO_8; clear HB; have HO_5 := n0_; have HO_7 := n1_; have HO_8 := n2_; have HO166 := n3_; have HB := n4_; clear n0_ n1_ n2_ n3_ n4_; (try clear hb); (try clear hb2); (try clear hk); (try clear hi); (try clear ho0); obtain ⟨Ao65, co65, eo65⟩ := Kd.R_slice HO166.out; subst eo65) | ((with_reducible refine gate_callee (f := 10) rfl ?_); refine goesL_ (some 45) rfl rfl Try.func10 (by kernel_rfl) rfl #[.slice Ao13 t156.length co13, .slice Ao65 t164.length co65] rfl (by (try simp only [List.map_toArray, List.map_cons, List.map_nil]); first | done | rfl | (simp only [List.length_drop, List.length_take]; rfl)) ?_; (with_reducible refine (laws_eqInt64S.calls kj7 _ _ t156 _ _ t164 false _ ?side1 ?side2 ?side3 ?side4 A23.out).mono ?_); (case side1 => repeat (first | exact (Kd.R_reads' HO_7.out).2.2 | (with_reducible refine Kd.C_alloc ?_ _) | (with_reducible refine Kd.C_drewN ?_ _) | (with_reducible refine Kd.C_drew ?_))); (case side2 => exact (Kd.R_reads' HO_7.out).2.1); (case side3 => repeat (first | exact (Kd.R_reads' HO166.out).2.2 | (with_reducible refine Kd.C_alloc ?_ _) | (with_reducible refine Kd.C_drewN ?_ _) | (with_reducible refine Kd.C_drew ?_))); (case side4 => exact (Kd.R_reads' HO166.out).2.1); rintro e w' ⟨rfl, ⟨nd, rfl⟩⟩; refine ⟨_, rfl, ?_⟩))
            go_ret
            exact ⟨by first | rfl | (simp [errW_none, errW_some] <;> rfl) | (simp [*, errW_none, errW_some] <;> rfl), by repeat (first | (with_reducible first | exact HB.out | apply below_alloc | apply pw_below_drewN | apply below_drew1) | exact HB.out)⟩

/-- THE ONE PURE STATEMENT of laws_FnExactBestTurns: yours. -/
def laws_FnExactBestTurns.Pure : Prop := ∀ (l0 : List Int) (a1 : Int), l0.length ≤ maxLen → l0.length * 8 ≤ 140737488351232 → (∀ x ∈ l0, (Lit.int .i64 x).wf = true) → (Lit.int .i64 a1).wf = true → ∃ k, laws_FnExactBestTurns.f k l0 a1 = some true
theorem laws_FnExactBestTurns.walk (P : laws_FnExactBestTurns.Pure) (a0 : Option Addr) (len0 cap0 : Nat) (z0 : List Int) (a1 : Int) (w : World) (w0 : (a0 = none ∧ len0 = 0 ∧ cap0 = 0 ∧ z0 = []) ∨ ∃ x, a0 = some x ∧ len0 ≤ cap0 ∧ cap0 ≤ maxLen ∧ z0.length = cap0 ∧ (∀ i, i < z0.length → w.cell? (x.add i) = some (.int .i64 (z0.getD i 0))) ∧ ∀ n ∈ z0, (Lit.int .i64 n).wf = true) (y0 : len0 * 8 ≤ 140737488351232) (w1 : (Lit.int .i64 a1).wf = true) :
    Calls Try.prog 3 #[.slice a0 len0 cap0, .int .i64 a1] w fun e w' => e = .returned (.bool true) ∧ Below w.heap.size w w' := by
  obtain ⟨l0, rfl, hr0, hm0, hw0, hc0⟩ := ReadsInt.ofRowC w0
  obtain ⟨k, h⟩ := P l0 a1 hm0 y0 hw0 w1
  refine (laws_FnExactBestTurns.calls k _ _ l0 a1 true w (Kd.C_of_reads (d := (0 : Int)) (h1 := fun _ => rfl) hr0) hc0 h).mono ?_
  rintro e w' ⟨rfl, hd⟩
  exact ⟨rfl, hd⟩

end Go.Proofs.Ytoakdilhljnjfaa.Q
/- Plain words for printed functions: rounds ('Ev'), and what the laws' own helpers come to. -/
namespace Go.Proofs.Ytoakdilhljnjfaa.Pure
open Go.RowKit Go.Proofs.Ytoakdilhljnjfaa.Q Go.Proofs.YtoakdilhljnjfaaW.PrintWords Go.Proofs.YtoakdilhljnjfaaW.PrintLast Go.Proofs.YtoakdilhljnjfaaW.PrintMore
set_option linter.unusedVariables false
set_option linter.unusedSimpArgs false

theorem Ev.some_ {α : Type} {r : α} : Ev (fun _ => some r) r := Ev.now r
theorem Ev.pos {α : Type} {c : Prop} [Decidable c] {g f : Nat → Option α} {r : α} (h : c) (k : Ev g r) : Ev (fun n => if c then g n else f n) r := by simpa [h] using k
theorem Ev.neg {α : Type} {c : Prop} [Decidable c] {g f : Nat → Option α} {r : α} (h : ¬ c) (k : Ev f r) : Ev (fun n => if c then g n else f n) r := by simpa [h] using k
theorem Ev.bindc {α β : Type} {g : Option α} {f : Nat → α → Option β} {a : α} {r : β} (h : g = some a) (k : Ev (fun n => f n a) r) : Ev (fun n => g.bind (f n)) r := by simpa [h] using k
theorem wrap64_id {x : Int} (h : -9223372036854775808 ≤ x) (h' : x ≤ 9223372036854775807) : wrap64 x = x := by unfold wrap64; omega
theorem rd_nat (l : List Int) (k : Nat) : rd l k = l.getD k 0 := by simp [rd]
theorem rd_get (l : List Int) (k : Nat) (h : k < l.length) : rd l k = l[k] := by simp [rd, h]

theorem rd_memP (l : List Int) (k : Nat) (h : k < l.length) : rd l k ∈ l := by rw [rd_get l k h]; exact List.getElem_mem h

theorem toInt64S_l (l : List Int) (hl : l.length ≤ 35184372088832) (d : Nat) : ∀ (i : Nat) (o : List Int), i + d = l.length → o.length = l.length → o.take i = l.take i → Ev (fun k => laws_toInt64S.l0 k l o i) l := by
  induction d with
  | zero =>
    intro i o hi ho h
    refine Ev.step (fun k => by rw [laws_toInt64S.l0]) (Ev.neg (by omega) ?_)
    rw [List.take_of_length_le (by omega), List.take_of_length_le (by omega)] at h
    rw [h]; exact Ev.now _
  | succ d ih =>
    intro i o hi ho h
    refine Ev.step (fun k => by rw [laws_toInt64S.l0]) (Ev.pos (by omega) (Ev.pos (by omega) (Ev.pos (by omega) ?_)))
    rw [wrap64_id (by omega) (by omega)]
    have := ih (i + 1) (o.set (i : Int).toNat (rd l i)) (by omega) (by simpa using ho) (by
      rw [rd_get l i (by omega), Int.toNat_natCast, List.take_succ_eq_append_getElem (by simp; omega), List.take_succ_eq_append_getElem (by omega)]
      simp [h, List.take_set_of_le])
    simpa using this
theorem toInt64S_ev (l : List Int) (hl : l.length ≤ 35184372088832) : Ev (fun k => laws_toInt64S.f k l) l := by
  unfold laws_toInt64S.f
  refine Ev.pos (by omega) (Ev.pos (by simpa using hl) ?_)
  simpa using toInt64S_l l hl l.length 0 (List.replicate l.length 0) (by omega) (by simp) (by simp)

theorem eqInt64S_l (l : List Int) (hl : l.length ≤ 35184372088832) (d : Nat) : ∀ (i : Nat), i + d = l.length → Ev (fun k => laws_eqInt64S.l0 k l l i) true := by
  induction d with
  | zero => intro i hi; exact Ev.step (fun k => by rw [laws_eqInt64S.l0]) (Ev.neg (by omega) (Ev.now _))
  | succ d ih =>
    intro i hi
    refine Ev.step (fun k => by rw [laws_eqInt64S.l0]) (Ev.pos (by omega) (Ev.pos (by omega) (Ev.pos (by omega) (Ev.pos rfl ?_))))
    rw [wrap64_id (by omega) (by omega)]
    simpa using ih (i + 1) (by omega)
theorem eqInt64S_ev (l : List Int) (hl : l.length ≤ 35184372088832) : Ev (fun k => laws_eqInt64S.f k l l) true := by
  unfold laws_eqInt64S.f
  exact Ev.pos rfl (by simpa using eqInt64S_l l hl l.length 0 (by omega))

def marks (a : Int) (n : Nat) : List Int := (List.range n).map fun j : Nat => a + (j : Int)
theorem marks_length (a : Int) (n : Nat) : (marks a n).length = n := by simp [marks]
theorem marks_get (a : Int) (n i : Nat) (h : i < n) : rd (marks a n) i = a + i := by
  rw [rd_get _ _ (by simpa [marks] using h)]; simp [marks]
theorem markInt64S_l (n : Nat) (a : Int) (hn : n ≤ 35184372088832) (ha : 0 ≤ a) (ha' : a ≤ 35184372088832) (d : Nat) : ∀ (i : Nat) (o : List Int), i + d = n → o.length = n → o.take i = (marks a n).take i → Ev (fun k => laws_markInt64S.l0 k o (a + i) i) (a + n, marks a n) := by
  induction d with
  | zero =>
    intro i o hi ho h
    refine Ev.step (fun k => by rw [laws_markInt64S.l0]) (Ev.neg (by omega) ?_)
    rw [List.take_of_length_le (by omega), List.take_of_length_le (by rw [marks_length]; omega)] at h
    rw [h, show i = n by omega]; exact Ev.now _
  | succ d ih =>
    intro i o hi ho h
    refine Ev.step (fun k => by rw [laws_markInt64S.l0]) (Ev.pos (by omega) (Ev.pos (by omega) ?_))
    rw [wrap64_id (by omega) (by omega), wrap64_id (by omega) (by omega)]
    have := ih (i + 1) (o.set (i : Int).toNat (a + i)) (by omega) (by simpa using ho) (by
      rw [Int.toNat_natCast, List.take_succ_eq_append_getElem (by simp; omega), List.take_succ_eq_append_getElem (by rw [marks_length]; omega)]
      simp [h, List.take_set_of_le, marks])
    simpa [Int.add_assoc] using this
theorem markInt64S_ev (l : List Int) (hn : l.length ≤ 35184372088832) (a : Int) (ha : 0 ≤ a) (ha' : a ≤ 35184372088832) : Ev (fun k => laws_markInt64S.f k l a) (a + l.length, marks a l.length) := by
  unfold laws_markInt64S.f
  simpa using markInt64S_l l.length a hn ha ha' l.length 0 l (by omega) rfl (by simp)
theorem heldInt64S_l (n : Nat) (a : Int) (hn : n ≤ 35184372088832) (ha : 0 ≤ a) (ha' : a ≤ 35184372088832) (d : Nat) : ∀ (i : Nat), i + d = n → Ev (fun k => laws_heldInt64S.l0 k (marks a n) (a + i) i) (a + n) := by
  induction d with
  | zero =>
    intro i hi
    refine Ev.step (fun k => by rw [laws_heldInt64S.l0]) (Ev.neg (by rw [marks_length]; omega) ?_)
    rw [show i = n by omega]; exact Ev.now _
  | succ d ih =>
    intro i hi
    refine Ev.step (fun k => by rw [laws_heldInt64S.l0]) (Ev.pos (by rw [marks_length]; omega) (Ev.pos (by omega) (Ev.pos (marks_get _ _ _ (by omega)) ?_)))
    rw [wrap64_id (by omega) (by omega), wrap64_id (by omega) (by omega)]
    simpa [Int.add_assoc] using ih (i + 1) (by omega)
theorem heldInt64S_ev (n : Nat) (a : Int) (hn : n ≤ 35184372088832) (ha : 0 ≤ a) (ha' : a ≤ 35184372088832) : Ev (fun k => laws_heldInt64S.f k (marks a n) a) (a + n) := by
  unfold laws_heldInt64S.f
  simpa using heldInt64S_l n a hn ha ha' n 0 (by omega)
end Go.Proofs.Ytoakdilhljnjfaa.Pure
/- Waits in plain words: what spec.l10Wait, spec.l10Sum, impl.wait, impl.sumOfWaits come to. -/
namespace Go.Proofs.Ytoakdilhljnjfaa.Pure
open Go.RowKit Go.Proofs.Ytoakdilhljnjfaa.Q Go.Proofs.YtoakdilhljnjfaaW.PrintWords Go.Proofs.YtoakdilhljnjfaaW.PrintLast Go.Proofs.YtoakdilhljnjfaaW.PrintMore
set_option linter.unusedVariables false
set_option linter.unusedSimpArgs false

/-- From w on, in d slots more. -/
def waitR (l : List Int) (i : Int) (slot : Nat) : Nat → Nat → Int
  | 0, _ => -1
  | d + 1, w => if rd l (((slot + w) % l.length : Nat) : Int) = i then (w : Int) else waitR l i slot d (w + 1)
def waitP (l : List Int) (i : Int) (slot : Nat) : Int := waitR l i slot l.length 0

theorem waitR_bd (l : List Int) (i : Int) (slot : Nat) : ∀ d w : Nat, -1 ≤ waitR l i slot d w ∧ waitR l i slot d w < (w : Int) + d
  | 0, w => by simp [waitR]; omega
  | d + 1, w => by
    have := waitR_bd l i slot d (w + 1)
    unfold waitR
    split <;> omega
theorem waitP_bd (l : List Int) (i : Int) (slot : Nat) : -1 ≤ waitP l i slot ∧ waitP l i slot < l.length := by
  have := waitR_bd l i slot l.length 0
  unfold waitP; omega

theorem tmod_nat (a b : Nat) : Int.tmod (a : Int) (b : Int) = ((a % b : Nat) : Int) := by rfl

theorem l10Wait_l (l : List Int) (i : Int) (slot : Nat) (hn : 0 < l.length) (hl : l.length ≤ 4611686018427387) (hs : slot ≤ 4611686018427387) (d : Nat) : ∀ (w : Nat), w + d = l.length →
    Ev (fun k => spec_l10Wait.l0 k l i slot l.length w) (waitR l i slot d w) := by
  induction d with
  | zero => intro w hw; refine Ev.step (fun k => by rw [spec_l10Wait.l0]) ?_; exact Ev.neg (by omega) (Ev.now _)
  | succ d ih =>
    intro w hw
    have hi : Int.tmod (wrap64 ((slot : Int) + w)) l.length = ((slot + w) % l.length : Nat) := by
      rw [wrap64_id (by omega) (by omega)]; exact tmod_nat (slot + w) l.length
    refine Ev.step (fun k => by rw [spec_l10Wait.l0, hi]) ?_
    refine Ev.pos (by omega) (Ev.neg (by omega) (Ev.pos (by omega) (Ev.pos (by have := Nat.mod_lt (slot + w) hn; omega) ?_)))
    unfold waitR
    by_cases hr : rd l (((slot + w) % l.length : Nat) : Int) = i
    · rw [if_pos hr]; exact Ev.pos hr (Ev.now _)
    · rw [if_neg hr, wrap64_id (by omega) (by omega)]
      exact Ev.neg hr (by simpa using ih (w + 1) (by omega))
theorem l10Wait_ev (l : List Int) (i : Int) (slot : Nat) (hn : 0 < l.length) (hl : l.length ≤ 4611686018427387) (hs : slot ≤ 4611686018427387) : Ev (fun k => spec_l10Wait.f k l i slot) (waitP l i slot) := by
  unfold spec_l10Wait.f waitP
  simpa using l10Wait_l l i slot hn hl hs l.length 0 (by omega)

theorem implWait_l (l : List Int) (i : Int) (slot : Nat) (hn : 0 < l.length) (hl : l.length ≤ 4611686018427387) (hs : slot ≤ 4611686018427387) (d : Nat) : ∀ (w : Nat), w + d = l.length → 0 ≤ waitR l i slot d w → Ev (fun k => impl_wait.l0 k l i slot w) (waitR l i slot d w) := by
  induction d with
  | zero => intro w hw h; simp [waitR] at h
  | succ d ih =>
    intro w hw h
    have hi : Int.tmod (wrap64 ((slot : Int) + w)) l.length = ((slot + w) % l.length : Nat) := by
      rw [wrap64_id (by omega) (by omega)]; exact tmod_nat (slot + w) l.length
    refine Ev.step (fun k => by rw [impl_wait.l0]) ?_
    refine Ev.bindc (show impl_length_int64.f l = some _ from rfl) ?_
    refine Ev.neg (by omega) (Ev.pos (by rw [hi]; omega) (Ev.pos (by rw [hi]; have := Nat.mod_lt (slot + w) hn; omega) ?_))
    unfold waitR at h ⊢
    by_cases hr : rd l (((slot + w) % l.length : Nat) : Int) = i
    · rw [if_pos hr]; exact Ev.pos (by rw [hi]; exact hr) (Ev.now _)
    · rw [if_neg hr] at h
      rw [if_neg hr, wrap64_id (x := (w : Int) + 1) (by omega) (by omega)]
      exact Ev.neg (by rw [hi]; exact hr) (by simpa using ih (w + 1) (by omega) h)
theorem implWait_ev (l : List Int) (i : Int) (slot : Nat) (hn : 0 < l.length) (hl : l.length ≤ 4611686018427387) (hs : slot ≤ 4611686018427387) (h : 0 ≤ waitP l i slot) : Ev (fun k => impl_wait.f k l i slot) (waitP l i slot) := by
  unfold impl_wait.f waitP
  simpa using implWait_l l i slot hn hl hs l.length 0 (by omega) h

/-- Someone waits at all only for a task that has no turn. -/
theorem waitR_found (l : List Int) (i : Int) (slot : Nat) : ∀ d w, (∃ v, w ≤ v ∧ v < w + d ∧ rd l (((slot + v) % l.length : Nat) : Int) = i) → 0 ≤ waitR l i slot d w
  | 0, w, ⟨v, h1, h2, _⟩ => by omega
  | d + 1, w, ⟨v, h1, h2, h3⟩ => by
    unfold waitR
    by_cases hr : rd l (((slot + w) % l.length : Nat) : Int) = i
    · rw [if_pos hr]; omega
    · rw [if_neg hr]
      have : v ≠ w := fun e => hr (e ▸ h3)
      exact waitR_found l i slot d (w + 1) ⟨v, by omega, by omega, h3⟩
theorem waitR_lost (l : List Int) (i : Int) (slot : Nat) (hn : 0 < l.length) (h : i ∉ l) : ∀ d w, waitR l i slot d w = -1
  | 0, w => rfl
  | d + 1, w => by
    unfold waitR
    rw [if_neg, waitR_lost l i slot hn h d (w + 1)]
    intro e
    exact h (e ▸ rd_memP l _ (Nat.mod_lt _ hn))
theorem waitP_mem (l : List Int) (i : Int) (slot : Nat) (hn : 0 < l.length) : 0 ≤ waitP l i slot ↔ i ∈ l := by
  constructor
  · intro h
    by_cases hm : i ∈ l
    · exact hm
    · unfold waitP at h; rw [waitR_lost l i slot hn hm] at h; omega
  · intro hm
    obtain ⟨j, hj, rfl⟩ := List.getElem_of_mem hm
    refine waitR_found l _ slot l.length 0 ⟨(j + (l.length - slot % l.length)) % l.length, by omega, by have := Nat.mod_lt (j + (l.length - slot % l.length)) hn; omega, ?_⟩
    have e : (slot + (j + (l.length - slot % l.length)) % l.length) % l.length = j := by
      have h1 := Nat.mod_lt slot hn
      rw [Nat.add_mod_mod, show slot + (j + (l.length - slot % l.length)) = j + l.length * (slot / l.length + 1) by have := Nat.div_add_mod slot l.length; rw [Nat.mul_add]; omega, Nat.add_mul_mod_self_left, Nat.mod_eq_of_lt hj]
    rw [e, rd_get l j hj]

def sumW (l : List Int) (i j : Int) : Nat → Nat → Int
  | 0, _ => 0
  | d + 1, slot => mx (waitP l i slot) (waitP l j slot) + sumW l i j d (slot + 1)
theorem sumW_bd (l : List Int) (i j : Int) : ∀ d slot : Nat, -(d : Int) ≤ sumW l i j d slot ∧ sumW l i j d slot ≤ (d : Int) * l.length
  | 0, slot => by simp [sumW]
  | d + 1, slot => by
    have h := sumW_bd l i j d (slot + 1)
    have h1 := waitP_bd l i slot
    have h2 := waitP_bd l j slot
    unfold sumW mx
    rw [Int.natCast_add, Int.add_mul]
    split <;> omega

theorem l10Sum_l (l : List Int) (i j : Int) (hn : 0 < l.length) (hl : l.length ≤ 1000000) (d : Nat) : ∀ (slot : Nat) (acc : Int), slot + d = l.length → -1000000 * 1000000 + d ≤ acc → acc + (d : Int) * l.length ≤ 2000000 * 1000000 →
    Ev (fun k => spec_l10Sum.l0 k l i j acc slot) (acc + sumW l i j d slot) := by
  induction d with
  | zero => intro slot acc hs h1 h2; refine Ev.step (fun k => by rw [spec_l10Sum.l0]) ?_; refine Ev.neg (by omega) ?_; simpa [sumW] using Ev.now acc
  | succ d ih =>
    intro slot acc hs h1 h2
    have a1 := waitP_bd l i slot
    have a2 := waitP_bd l j slot
    have b : -1 ≤ mx (waitP l i slot) (waitP l j slot) ∧ mx (waitP l i slot) (waitP l j slot) < l.length := by unfold mx; split <;> omega
    rw [Int.natCast_add, Int.add_mul] at h2
    have hnn : 0 ≤ (d : Int) * l.length := Int.mul_nonneg (by omega) (by omega)
    refine Ev.step (fun k => by rw [spec_l10Sum.l0]) ?_
    refine Ev.pos (by omega) ?_
    refine Ev.bind (l10Wait_ev l i slot hn (by omega) (by omega)) ?_
    refine Ev.bind (l10Wait_ev l j slot hn (by omega) (by omega)) ?_
    rw [wrap64_id (x := acc + mx (waitP l i slot) (waitP l j slot)) (by omega) (by omega), wrap64_id (by omega) (by omega)]
    have := ih (slot + 1) (acc + mx (waitP l i slot) (waitP l j slot)) (by omega) (by omega) (by omega)
    simpa [sumW, Int.add_assoc] using this
theorem l10Sum_ev (l : List Int) (i j : Int) (hn : 0 < l.length) (hl : l.length ≤ 1000000) : Ev (fun k => spec_l10Sum.f k l i j) (sumW l i j l.length 0) := by
  unfold spec_l10Sum.f
  have hq : (l.length : Int) * l.length ≤ 1000000 * 1000000 := Int.mul_le_mul (by omega) (by omega) (by omega) (by omega)
  simpa using l10Sum_l l i j hn hl l.length 0 0 (by omega) (by omega) (by omega)
end Go.Proofs.Ytoakdilhljnjfaa.Pure
/- Plain words: slices.Index and Contains, impl.share and sharesOf, impl.total. -/
namespace Go.Proofs.Ytoakdilhljnjfaa.Pure
open Go.RowKit Go.Proofs.Ytoakdilhljnjfaa.Q Go.Proofs.YtoakdilhljnjfaaW.PrintWords Go.Proofs.YtoakdilhljnjfaaW.PrintLast Go.Proofs.YtoakdilhljnjfaaW.PrintMore
set_option linter.unusedVariables false
set_option linter.unusedSimpArgs false

def idxP (l : List Int) (a : Int) : Nat → Nat → Int
  | 0, _ => -1
  | d + 1, i => if a = rd l i then (i : Int) else idxP l a d (i + 1)
theorem Index_l (l : List Int) (a : Int) (hl : l.length ≤ 4611686018427387) (d : Nat) : ∀ (i : Nat), i + d = l.length → Ev (fun k => slices_Index_int64_int64.l0 k l a l.length i) (idxP l a d i) := by
  induction d with
  | zero => intro i hi; refine Ev.step (fun k => by rw [slices_Index_int64_int64.l0]) ?_; exact Ev.neg (by omega) (Ev.now _)
  | succ d ih =>
    intro i hi
    refine Ev.step (fun k => by rw [slices_Index_int64_int64.l0]) ?_
    refine Ev.pos (by omega) (Ev.pos (by omega) (Ev.pos (by omega) ?_))
    unfold idxP
    by_cases h : a = rd l i
    · rw [if_pos h]; exact Ev.pos h (Ev.now _)
    · rw [if_neg h, wrap64_id (by omega) (by omega)]; exact Ev.neg h (by simpa using ih (i + 1) (by omega))
theorem Index_ev (l : List Int) (a : Int) (hl : l.length ≤ 4611686018427387) : Ev (fun k => slices_Index_int64_int64.f k l a) (idxP l a l.length 0) := by
  unfold slices_Index_int64_int64.f
  simpa using Index_l l a hl l.length 0 (by omega)
theorem idxP_mem (l : List Int) (a : Int) : ∀ d i : Nat, i + d = l.length → (idxP l a d i ≥ 0 ↔ a ∈ l.drop i)
  | 0, i, h => by simp [idxP, List.drop_eq_nil_of_le (show l.length ≤ i by omega)]
  | d + 1, i, h => by
    have ih := idxP_mem l a d (i + 1) (by omega)
    unfold idxP
    rw [List.drop_eq_getElem_cons (by omega), rd_get l i (by omega), List.mem_cons]
    by_cases e : a = l[i]
    · simp [e]
    · rw [if_neg e]; simp [e, ih]
theorem Contains_ev (l : List Int) (a : Int) (hl : l.length ≤ 4611686018427387) : Ev (fun k => slices_Contains_int64_int64.f k l a) (decide (a ∈ l)) := by
  unfold slices_Contains_int64_int64.f
  refine Ev.bind (Index_ev l a hl) ?_
  have h := idxP_mem l a l.length 0 (by omega)
  rw [List.drop_zero] at h
  rw [show decide (idxP l a l.length 0 ≥ 0) = decide (a ∈ l) from by simp [h]]
  exact Ev.now _

theorem total_l (l : List Int) (hl : l.length ≤ 4000000000) (hb : ∀ x ∈ l, -1000000000 ≤ x ∧ x ≤ 1000000000) (d : Nat) : ∀ (i : Nat) (acc : Int), i + d = l.length → -(i : Int) * 1000000000 ≤ acc → acc ≤ (i : Int) * 1000000000 → Ev (fun k => impl_total.l0 k acc l l.length i) (acc + (l.drop i).sum) := by
  induction d with
  | zero => intro i acc hi h1 h2; refine Ev.step (fun k => by rw [impl_total.l0]) ?_; refine Ev.neg (by omega) ?_; simpa [List.drop_eq_nil_of_le (show l.length ≤ i by omega)] using Ev.now acc
  | succ d ih =>
    intro i acc hi h1 h2
    have hx := hb _ (rd_memP l i (by omega))
    refine Ev.step (fun k => by rw [impl_total.l0]) ?_
    refine Ev.pos (by omega) (Ev.pos (by omega) (Ev.pos (by omega) ?_))
    rw [wrap64_id (x := acc + rd l i) (by omega) (by omega), wrap64_id (by omega) (by omega)]
    have := ih (i + 1) (acc + rd l i) (by omega) (by omega) (by omega)
    rw [List.drop_eq_getElem_cons (show i < l.length by omega), List.sum_cons, ← Int.add_assoc, ← rd_get l i (by omega)]
    simpa using this
theorem total_ev (l : List Int) (hl : l.length ≤ 4000000000) (hb : ∀ x ∈ l, -1000000000 ≤ x ∧ x ≤ 1000000000) : Ev (fun k => impl_total.f k l) l.sum := by
  unfold impl_total.f
  simpa using total_l l hl hb l.length 0 0 (by omega) (by omega) (by omega)

theorem share_l (l : List Int) (a : Int) (hl : l.length ≤ 4611686018427387) (d : Nat) : ∀ (i c : Nat), i + d = l.length → c ≤ i → Ev (fun k => impl_share.l0 k a c l l.length i) ((c + (l.drop i).count a : Nat) : Int) := by
  induction d with
  | zero => intro i c hi hc; refine Ev.step (fun k => by rw [impl_share.l0]) ?_; refine Ev.neg (by omega) ?_; simpa [List.drop_eq_nil_of_le (show l.length ≤ i by omega)] using Ev.now (c : Int)
  | succ d ih =>
    intro i c hi hc
    refine Ev.step (fun k => by rw [impl_share.l0]) ?_
    refine Ev.pos (by omega) (Ev.pos (by omega) (Ev.pos (by omega) ?_))
    rw [List.drop_eq_getElem_cons (show i < l.length by omega), List.count_cons, ← rd_get l i (by omega)]
    by_cases h : rd l i = a
    · refine Ev.pos h ?_
      rw [wrap64_id (x := (c : Int) + 1) (by omega) (by omega), wrap64_id (by omega) (by omega)]
      have := ih (i + 1) (c + 1) (by omega) (by omega)
      simpa [h, Nat.add_assoc, Nat.add_comm, Nat.add_left_comm] using this
    · refine Ev.neg h ?_
      rw [wrap64_id (by omega) (by omega)]
      have := ih (i + 1) c (by omega) (by omega)
      simpa [h] using this
theorem share_ev (l : List Int) (a : Int) (hl : l.length ≤ 4611686018427387) : Ev (fun k => impl_share.f k l a) (l.count a : Nat) := by
  unfold impl_share.f
  simpa using share_l l a hl l.length 0 0 (by omega) (by omega)

/-- The shares of the tasks 0 to m - 1. -/
def sharesP (l : List Int) (m : Nat) : List Int := (List.range m).map fun i : Nat => ((l.count (i : Int) : Nat) : Int)
theorem sharesP_succ (l : List Int) (m : Nat) : sharesP l (m + 1) = sharesP l m ++ [((l.count (m : Int) : Nat) : Int)] := by simp [sharesP, List.range_succ]
theorem sharesP_length (l : List Int) (m : Nat) : (sharesP l m).length = m := by simp [sharesP]

theorem mx_le (a b : Int) : a ≤ mx a b ∧ b ≤ mx a b := by unfold mx; split <;> omega
theorem mx_or (a b : Int) : mx a b = a ∨ mx a b = b := by unfold mx; split <;> simp
theorem foldl_mx (l : List Int) : ∀ a, a ≤ l.foldl mx a ∧ (∀ x ∈ l, x ≤ l.foldl mx a) ∧ (l.foldl mx a = a ∨ l.foldl mx a ∈ l) := by
  induction l with
  | nil => intro a; simp
  | cons y l ih =>
    intro a
    obtain ⟨h1, h2, h3⟩ := ih (mx a y)
    have := mx_le a y
    refine ⟨by simp only [List.foldl_cons]; omega, fun x hx => ?_, ?_⟩
    · simp only [List.foldl_cons]
      rcases List.mem_cons.1 hx with rfl | hx
      · omega
      · exact h2 x hx
    · simp only [List.foldl_cons, List.mem_cons]
      rcases h3 with h3 | h3
      · rcases mx_or a y with e | e <;> rw [h3, e] <;> simp
      · exact .inr (.inr h3)
theorem maxOf_spec (l : List Int) (h : 0 < l.length) : maxOf l ∈ l ∧ ∀ x ∈ l, x ≤ maxOf l := by
  cases l with
  | nil => simp at h
  | cons y l =>
    obtain ⟨h1, h2, h3⟩ := foldl_mx l y
    have e : maxOf (y :: l) = l.foldl mx y := by simp [maxOf, rd]
    rw [e]
    refine ⟨?_, fun x hx => ?_⟩
    · rcases h3 with h3 | h3
      · rw [h3]; simp
      · simp [h3]
    · rcases List.mem_cons.1 hx with rfl | hx
      · exact h1
      · exact h2 x hx

theorem sharesOf_l (l : List Int) (hl : l.length ≤ 4611686018427387) (m : Nat) (hm : m ≤ 1000000) (d : Nat) : ∀ i : Nat, i + d = m → Ev (fun k => impl_sharesOf.l0 k l (sharesP l i) m i) (sharesP l m) := by
  induction d with
  | zero => intro i hi; refine Ev.step (fun k => by rw [impl_sharesOf.l0]) ?_; refine Ev.neg (by omega) ?_; rw [show i = m by omega]; exact Ev.now _
  | succ d ih =>
    intro i hi
    refine Ev.step (fun k => by rw [impl_sharesOf.l0]) ?_
    refine Ev.pos (by omega) ?_
    refine Ev.bind (share_ev l i hl) ?_
    refine Ev.pos (by rw [sharesP_length]; omega) ?_
    rw [wrap64_id (by omega) (by omega), ← sharesP_succ]
    simpa using ih (i + 1) (by omega)
/-- With the greatest task at least -1. -/
theorem sharesOf_ev (l : List Int) (h0 : 0 < l.length) (hl : l.length ≤ 4611686018427387) (hm : -1 ≤ maxOf l) (hm' : maxOf l ≤ 1000) : Ev (fun k => impl_sharesOf.f k l) (sharesP l (maxOf l + 1).toNat) := by
  unfold impl_sharesOf.f
  refine Ev.bindc (a := maxOf l) (by unfold slices_Max_int64_int64.f maxLen; rw [if_pos ⟨h0, by omega⟩]) ?_
  rw [wrap64_id (by omega) (by omega)]
  have := sharesOf_l l hl (maxOf l + 1).toNat (by omega) (maxOf l + 1).toNat 0 (by omega)
  rw [show (((maxOf l + 1).toNat : Nat) : Int) = maxOf l + 1 by omega] at this
  simpa [sharesP] using this
theorem sharesP_zero (l : List Int) (m : Nat) : 0 ∈ sharesP l m ↔ ∃ i : Nat, i < m ∧ (i : Int) ∉ l := by
  simp only [sharesP, List.mem_map, List.mem_range]
  constructor
  · rintro ⟨i, hi, h⟩; exact ⟨i, hi, List.count_eq_zero.1 (by omega)⟩
  · rintro ⟨i, hi, h⟩; exact ⟨i, hi, by rw [List.count_eq_zero.2 h]; rfl⟩
end Go.Proofs.Ytoakdilhljnjfaa.Pure
/- Best turns in plain words: impl.BestTurns and spec.BestTurns come to the same. -/
namespace Go.Proofs.Ytoakdilhljnjfaa.Pure
open Go.RowKit Go.Proofs.Ytoakdilhljnjfaa.Q Go.Proofs.YtoakdilhljnjfaaW.PrintWords Go.Proofs.YtoakdilhljnjfaaW.PrintLast Go.Proofs.YtoakdilhljnjfaaW.PrintMore
set_option linter.unusedVariables false
set_option linter.unusedSimpArgs false

/-- The sum of the waits by weights, from the task i on, d tasks. -/
def costR (l wts : List Int) : Nat → Nat → Int
  | 0, _ => 0
  | d + 1, i => (if rd wts i > 0 then rd wts i * sumW l i i l.length 0 else 0) + costR l wts d (i + 1)
def costP (l wts : List Int) : Int := costR l wts wts.length 0

theorem term_bd (l wts : List Int) (hl : l.length ≤ 120) (hw : ∀ x ∈ wts, 0 ≤ x ∧ x ≤ 100) (i : Nat) (hi : i < wts.length) : -12000 ≤ rd wts i * sumW l i i l.length 0 ∧ rd wts i * sumW l i i l.length 0 ≤ 1440000 := by
  obtain ⟨h0, h1⟩ := hw _ (rd_memP wts i hi)
  obtain ⟨s0, s1⟩ := sumW_bd l i i l.length 0
  have hq : (l.length : Int) * l.length ≤ 14400 := Int.le_trans (Int.mul_le_mul (show (l.length : Int) ≤ 120 by omega) (show (l.length : Int) ≤ 120 by omega) (by omega) (by omega)) (by omega)
  generalize sumW l i i l.length 0 = s at *
  generalize rd wts i = x at *
  have s2 : -120 ≤ s := by omega
  have s3 : s ≤ 14400 := by omega
  constructor
  · have : x * (-120) ≤ x * s := Int.mul_le_mul_of_nonneg_left s2 h0
    omega
  · have : x * s ≤ x * 14400 := Int.mul_le_mul_of_nonneg_left s3 h0
    omega
theorem l10Mean_l (l wts : List Int) (hn : 0 < l.length) (hl : l.length ≤ 120) (hw : ∀ x ∈ wts, 0 ≤ x ∧ x ≤ 100) (hk : wts.length ≤ 1000) (d : Nat) : ∀ (i : Nat) (acc : Int), i + d = wts.length → -(i : Int) * 12000 ≤ acc → acc ≤ (i : Int) * 1440000 →
    Ev (fun k => spec_l10Mean.l0 k l wts acc i) (acc + costR l wts d i) := by
  induction d with
  | zero => intro i acc hi h1 h2; refine Ev.step (fun k => by rw [spec_l10Mean.l0]) ?_; refine Ev.neg (by omega) ?_; simpa [costR] using Ev.now acc
  | succ d ih =>
    intro i acc hi h1 h2
    have hb := term_bd l wts hl hw i (by omega)
    refine Ev.step (fun k => by rw [spec_l10Mean.l0]) ?_
    refine Ev.pos (by omega) (Ev.pos (by omega) ?_)
    unfold costR
    by_cases hp : rd wts i > 0
    · rw [if_pos hp]
      refine Ev.pos hp ?_
      refine Ev.bind (l10Sum_ev l i i hn (by omega)) ?_
      rw [wrap64_id (x := rd wts i * _) (by omega) (by omega), wrap64_id (x := acc + _) (by omega) (by omega), wrap64_id (by omega) (by omega), ← Int.add_assoc]
      simpa using ih (i + 1) (acc + rd wts i * sumW l i i l.length 0) (by omega) (by omega) (by omega)
    · rw [if_neg hp]
      refine Ev.neg hp ?_
      rw [wrap64_id (by omega) (by omega), Int.zero_add]
      simpa using ih (i + 1) acc (by omega) (by omega) (by omega)
theorem l10Mean_ev (l wts : List Int) (hn : 0 < l.length) (hl : l.length ≤ 120) (hw : ∀ x ∈ wts, 0 ≤ x ∧ x ≤ 100) (hk : wts.length ≤ 1000) : Ev (fun k => spec_l10Mean.f k l wts) (costP l wts) := by
  unfold spec_l10Mean.f costP
  simpa using l10Mean_l l wts hn hl hw hk wts.length 0 0 (by omega) (by omega) (by omega)

theorem mx_self (a : Int) : mx a a = a := by unfold mx; simp
theorem sumOfWaits_l (l : List Int) (i : Int) (hn : 0 < l.length) (hl : l.length ≤ 1000000) (hm : i ∈ l) (d : Nat) : ∀ (slot : Nat) (acc : Int), slot + d = l.length → -1000000 * 1000000 + d ≤ acc → acc + (d : Int) * l.length ≤ 2000000 * 1000000 →
    Ev (fun k => impl_sumOfWaits.l0 k l i acc l.length slot) (acc + sumW l i i d slot) := by
  induction d with
  | zero => intro slot acc hs h1 h2; refine Ev.step (fun k => by rw [impl_sumOfWaits.l0]) ?_; refine Ev.neg (by omega) ?_; simpa [sumW] using Ev.now acc
  | succ d ih =>
    intro slot acc hs h1 h2
    have a1 := waitP_bd l i slot
    have a0 := (waitP_mem l i slot hn).2 hm
    rw [Int.natCast_add, Int.add_mul] at h2
    have hnn : 0 ≤ (d : Int) * l.length := Int.mul_nonneg (by omega) (by omega)
    refine Ev.step (fun k => by rw [impl_sumOfWaits.l0]) ?_
    refine Ev.pos (by omega) ?_
    refine Ev.bind (implWait_ev l i slot hn (by omega) (by omega) a0) ?_
    rw [wrap64_id (x := acc + waitP l i slot) (by omega) (by omega), wrap64_id (by omega) (by omega)]
    have := ih (slot + 1) (acc + waitP l i slot) (by omega) (by omega) (by omega)
    simpa [sumW, mx_self, Int.add_assoc] using this
theorem sumOfWaits_ev (l : List Int) (i : Int) (hn : 0 < l.length) (hl : l.length ≤ 1000000) (hm : i ∈ l) : Ev (fun k => impl_sumOfWaits.f k l i) (sumW l i i l.length 0) := by
  unfold impl_sumOfWaits.f
  have hq : (l.length : Int) * l.length ≤ 1000000 * 1000000 := Int.mul_le_mul (by omega) (by omega) (by omega) (by omega)
  refine Ev.bindc (show impl_length_int64.f l = some _ from rfl) ?_
  simpa using sumOfWaits_l l i hn hl hm l.length 0 0 (by omega) (by omega) (by omega)

theorem weighted_l (l wts : List Int) (hn : 0 < l.length) (hl : l.length ≤ 120) (hw : ∀ x ∈ wts, 0 ≤ x ∧ x ≤ 100) (hk : wts.length ≤ 1000) (hm : ∀ i : Nat, i < wts.length → rd wts i > 0 → (i : Int) ∈ l) (d : Nat) : ∀ (i : Nat) (acc : Int), i + d = wts.length → -(i : Int) * 12000 ≤ acc → acc ≤ (i : Int) * 1440000 →
    Ev (fun k => impl_weighted.l0 k l acc wts wts.length i) (acc + costR l wts d i) := by
  induction d with
  | zero => intro i acc hi h1 h2; refine Ev.step (fun k => by rw [impl_weighted.l0]) ?_; refine Ev.neg (by omega) ?_; simpa [costR] using Ev.now acc
  | succ d ih =>
    intro i acc hi h1 h2
    have hb := term_bd l wts hl hw i (by omega)
    refine Ev.step (fun k => by rw [impl_weighted.l0]) ?_
    refine Ev.pos (by omega) (Ev.pos (by omega) (Ev.pos (by omega) ?_))
    unfold costR
    by_cases hp : rd wts i > 0
    · rw [if_pos hp]
      refine Ev.pos hp ?_
      refine Ev.bind (sumOfWaits_ev l i hn (by omega) (hm i (by omega) hp)) ?_
      rw [wrap64_id (x := rd wts i * _) (by omega) (by omega), wrap64_id (x := acc + _) (by omega) (by omega), wrap64_id (by omega) (by omega), ← Int.add_assoc]
      simpa using ih (i + 1) (acc + rd wts i * sumW l i i l.length 0) (by omega) (by omega) (by omega)
    · rw [if_neg hp]
      refine Ev.neg hp ?_
      rw [wrap64_id (by omega) (by omega), Int.zero_add]
      simpa using ih (i + 1) acc (by omega) (by omega) (by omega)
theorem weighted_ev (l wts : List Int) (hn : 0 < l.length) (hl : l.length ≤ 120) (hw : ∀ x ∈ wts, 0 ≤ x ∧ x ≤ 100) (hk : wts.length ≤ 1000) (hm : ∀ i : Nat, i < wts.length → rd wts i > 0 → (i : Int) ∈ l) : Ev (fun k => impl_weighted.f k l wts) (costP l wts) := by
  unfold impl_weighted.f costP
  simpa using weighted_l l wts hn hl hw hk hm wts.length 0 0 (by omega) (by omega) (by omega)

/-! The search: 'good' turns have all tasks. -/
def good (m : Nat) (l : List Int) : Prop := ∀ i : Nat, i < m → (i : Int) ∈ l
instance (m : Nat) (l : List Int) : Decidable (good m l) := inferInstanceAs (Decidable (∀ i : Nat, i < m → (i : Int) ∈ l))
/-- The first one of least cost: a is ahead of b. -/
def first : Option (List Int × Int) → Option (List Int × Int) → Option (List Int × Int)
  | a, none => a
  | none, b => b
  | some a, some b => if b.2 < a.2 then some b else some a
theorem first_assoc (a b c : Option (List Int × Int)) : first (first a b) c = first a (first b c) := by
  cases a <;> cases b <;> cases c <;> simp [first]
  · split <;> simp [first]
  · rename_i a b c
    by_cases h1 : b.2 < a.2 <;> by_cases h2 : c.2 < b.2 <;> simp [first, h1, h2]
    · intro h; omega
    · intro h; omega
theorem first_none (a : Option (List Int × Int)) : first none a = a := by cases a <;> rfl

mutual
/-- What the search over turns that begin with l finds, r slots being left. -/
def bestB (wts : List Int) : Nat → List Int → Option (List Int × Int)
  | 0, l => if good wts.length l then some (l, costP l wts) else none
  | r + 1, l => bestL wts r l wts.length 0 none
termination_by r l => (r, 0)
def bestL (wts : List Int) (r : Nat) (l : List Int) (d : Nat) (i : Nat) (acc : Option (List Int × Int)) : Option (List Int × Int) :=
  match d with
  | 0 => acc
  | d + 1 => bestL wts r l d (i + 1) (first acc (bestB wts r (l ++ [(i : Int)])))
termination_by (r, d + 1)
end
theorem bestB_zero (wts l : List Int) : bestB wts 0 l = if good wts.length l then some (l, costP l wts) else none := by rw [bestB]
theorem bestB_succ (wts : List Int) (r : Nat) (l : List Int) : bestB wts (r + 1) l = bestL wts r l wts.length 0 none := by rw [bestB]
theorem bestL_zero (wts : List Int) (r : Nat) (l : List Int) (i : Nat) (acc : Option (List Int × Int)) : bestL wts r l 0 i acc = acc := by rw [bestL]
theorem bestL_succ (wts : List Int) (r : Nat) (l : List Int) (d i : Nat) (acc : Option (List Int × Int)) : bestL wts r l (d + 1) i acc = bestL wts r l d (i + 1) (first acc (bestB wts r (l ++ [(i : Int)]))) := by rw [bestL]
theorem bestL_acc (wts : List Int) (r : Nat) (l : List Int) : ∀ (d i : Nat) (a b : Option (List Int × Int)), bestL wts r l d i (first a b) = first a (bestL wts r l d i b)
  | 0, i, a, b => by rw [bestL_zero, bestL_zero]
  | d + 1, i, a, b => by rw [bestL_succ, bestL_succ, first_assoc, bestL_acc wts r l d (i + 1)]

theorem costR_bd (l wts : List Int) (hl : l.length ≤ 120) (hw : ∀ x ∈ wts, 0 ≤ x ∧ x ≤ 100) : ∀ d i, i + d = wts.length → (∀ j : Nat, j < wts.length → rd wts j > 0 → 0 ≤ sumW l j j l.length 0) → 0 ≤ costR l wts d i
  | 0, i, _, _ => by simp [costR]
  | d + 1, i, hi, hs => by
    have ih := costR_bd l wts hl hw d (i + 1) (by omega) hs
    unfold costR
    by_cases hp : rd wts i > 0
    · rw [if_pos hp]
      have := Int.mul_nonneg (Int.le_of_lt hp) (hs i (by omega) hp)
      omega
    · rw [if_neg hp]; omega
theorem sumW_nonneg (l : List Int) (i : Int) (hn : 0 < l.length) (hm : i ∈ l) : ∀ d slot : Nat, 0 ≤ sumW l i i d slot
  | 0, _ => by simp [sumW]
  | d + 1, slot => by
    have := sumW_nonneg l i hn hm d (slot + 1)
    have := (waitP_mem l i slot hn).2 hm
    unfold sumW; rw [mx_self]; omega
theorem costP_nonneg (l wts : List Int) (hn : 0 < l.length) (hl : l.length ≤ 120) (hw : ∀ x ∈ wts, 0 ≤ x ∧ x ≤ 100) (hg : good wts.length l) : 0 ≤ costP l wts :=
  costR_bd l wts hl hw wts.length 0 (by omega) (fun j hj _ => sumW_nonneg l j hn (hg j hj) _ _)
end Go.Proofs.Ytoakdilhljnjfaa.Pure
/- Best turns in plain words, second part: both searches, and the law. -/
namespace Go.Proofs.Ytoakdilhljnjfaa.Pure
open Go.RowKit Go.Proofs.Ytoakdilhljnjfaa.Q Go.Proofs.YtoakdilhljnjfaaW.PrintWords Go.Proofs.YtoakdilhljnjfaaW.PrintLast Go.Proofs.YtoakdilhljnjfaaW.PrintMore
set_option linter.unusedVariables false
set_option linter.unusedSimpArgs false

abbrev OB := Option (List Int × Int)
def enc : OB → List Int × Int
  | none => ([], -1)
  | some x => x
def toS : OB → BTs
  | none => (none, 0)
  | some x => (some x.1, x.2)
def okO (a : OB) : Prop := ∀ x, a = some x → 0 ≤ x.2
theorem okO_first {a b : OB} (ha : okO a) (hb : okO b) : okO (first a b) := by
  intro x hx
  cases a <;> cases b <;> simp [first] at hx
  · exact hb _ (by rw [hx])
  · exact ha _ (by rw [hx])
  · split at hx
    · exact hb _ (by rw [← hx])
    · exact ha _ (by rw [← hx])


mutual
theorem okO_B (wts : List Int) (hk : wts.length ≤ 8) (hw : ∀ x ∈ wts, 0 ≤ x ∧ x ≤ 100) : ∀ (r : Nat) (l : List Int), 0 < l.length + r → l.length + r ≤ 8 → okO (bestB wts r l)
  | 0, l, h0, h1 => by
    rw [bestB_zero]
    intro x hx
    split at hx
    · rename_i hg
      obtain rfl := Option.some.inj hx
      exact costP_nonneg l wts (by omega) (by omega) hw hg
    · cases hx
  | r + 1, l, h0, h1 => by rw [bestB_succ]; exact okO_L wts hk hw r l wts.length 0 none (by omega) (fun x h => by cases h)
termination_by r l => (r, 0)
theorem okO_L (wts : List Int) (hk : wts.length ≤ 8) (hw : ∀ x ∈ wts, 0 ≤ x ∧ x ≤ 100) : ∀ (r : Nat) (l : List Int) (d i : Nat) (acc : OB), l.length + 1 + r ≤ 8 → okO acc → okO (bestL wts r l d i acc)
  | r, l, 0, i, acc, h, ha => by rw [bestL_zero]; exact ha
  | r, l, d + 1, i, acc, h, ha => by
    rw [bestL_succ]
    exact okO_L wts hk hw r l d (i + 1) _ h (okO_first ha (okO_B wts hk hw r (l ++ [(i : Int)]) (by simp; omega) (by simp; omega)))
termination_by r l d => (r, d + 1)
end

theorem specLeaf (wts : List Int) (hk : wts.length ≤ 8) (hw : ∀ x ∈ wts, 0 ≤ x ∧ x ≤ 100) (l : List Int) (hn : 0 < l.length) (hl : l.length ≤ 120) (d : Nat) : ∀ (i : Nat), i + d = wts.length → Ev (fun k => spec_l10Best.l0 k wts l i) (if ∀ j : Nat, j < wts.length → i ≤ j → (j : Int) ∈ l then (l, costP l wts) else ([], -1)) := by
  induction d with
  | zero =>
    intro i hi
    rw [if_pos (fun j h1 h2 => by omega)]
    refine Ev.step (fun k => by rw [spec_l10Best.l0]) ?_
    refine Ev.neg (by omega) ?_
    refine Ev.bind (l10Mean_ev l wts hn hl hw (by omega)) ?_
    exact Ev.now _
  | succ d ih =>
    intro i hi
    refine Ev.step (fun k => by rw [spec_l10Best.l0]) ?_
    refine Ev.pos (by omega) ?_
    have hwt : Ev (fun k => spec_l10Wait.f k l i 0) (waitP l i 0) := by simpa using l10Wait_ev l i 0 hn (by omega) (by omega)
    refine Ev.bind hwt ?_
    have hm := waitP_mem l i 0 hn
    by_cases h : (i : Int) ∈ l
    · refine Ev.neg (by have := hm.2 h; omega) ?_
      rw [wrap64_id (by omega) (by omega)]
      have e : (∀ j : Nat, j < wts.length → i ≤ j → (j : Int) ∈ l) ↔ ∀ j : Nat, j < wts.length → i + 1 ≤ j → (j : Int) ∈ l := by
        constructor
        · intro h' j h1 h2; exact h' j h1 (by omega)
        · intro h' j h1 h2
          by_cases hj : j = i
          · rw [hj]; exact h
          · exact h' j h1 (by omega)
      simp only [e]
      simpa using ih (i + 1) (by omega)
    · refine Ev.pos (by have := mt hm.1 h; omega) ?_
      rw [if_neg (fun h' => h (h' i (by omega) (Nat.le_refl _)))]
      exact Ev.now _

mutual
theorem specB (wts : List Int) (hk : wts.length ≤ 8) (hw : ∀ x ∈ wts, 0 ≤ x ∧ x ≤ 100) : ∀ (r : Nat) (l : List Int) (n : Int), 0 < l.length + r → l.length + r ≤ 8 → (l.length : Int) + r = n → Ev (fun k => spec_l10Best.f k wts l n) (enc (bestB wts r l))
  | 0, l, n, h0, h1, hn => by
    refine Ev.step (fun k => by rw [spec_l10Best.f]) ?_
    refine Ev.pos (by omega) ?_
    have := specLeaf wts hk hw l (by omega) (by omega) wts.length 0 (by omega)
    have e : enc (bestB wts 0 l) = if ∀ j : Nat, j < wts.length → 0 ≤ j → (j : Int) ∈ l then (l, costP l wts) else ([], -1) := by
      rw [bestB_zero]
      by_cases hg : good wts.length l
      · rw [if_pos hg, if_pos (fun j hj _ => hg j hj)]; rfl
      · rw [if_neg hg, if_neg (fun h => hg (fun j hj => h j hj (by omega)))]; rfl
    rw [e]
    simpa using this
  | r + 1, l, n, h0, h1, hn => by
    refine Ev.step (fun k => by rw [spec_l10Best.f]) ?_
    refine Ev.neg (by omega) ?_
    rw [bestB_succ]
    have := specL wts hk hw r l n wts.length 0 none (by omega) (by omega) (by omega) (fun x h => by cases h)
    simpa [enc] using this
termination_by r l => (r, 0)
theorem specL (wts : List Int) (hk : wts.length ≤ 8) (hw : ∀ x ∈ wts, 0 ≤ x ∧ x ≤ 100) : ∀ (r : Nat) (l : List Int) (n : Int) (d i : Nat) (acc : OB), l.length + 1 + r ≤ 8 → (l.length : Int) + 1 + r = n → i + d = wts.length → okO acc → Ev (fun k => spec_l10Best.l1 k wts l n (enc acc).1 (enc acc).2 i) (enc (bestL wts r l d i acc))
  | r, l, n, 0, i, acc, h1, hn, hi, ha => by
    refine Ev.step (fun k => by rw [spec_l10Best.l1]) ?_
    refine Ev.neg (by omega) ?_
    rw [bestL_zero]; exact Ev.now _
  | r, l, n, d + 1, i, acc, h1, hn, hi, ha => by
    refine Ev.step (fun k => by rw [spec_l10Best.l1]) ?_
    refine Ev.pos (by omega) ?_
    refine Ev.bindc (a := l) (by unfold spec_l01Own.f; simp; omega) ?_
    refine Ev.pos (by omega) ?_
    refine Ev.bind (specB wts hk hw r (l ++ [(i : Int)]) n (by simp; omega) (by simp; omega) (by simp; omega)) ?_
    have hb : okO (bestB wts r (l ++ [(i : Int)])) := okO_B wts hk hw r _ (by simp; omega) (by simp; omega)
    have ih := specL wts hk hw r l n d (i + 1) (first acc (bestB wts r (l ++ [(i : Int)]))) h1 hn (by omega) (okO_first ha hb)
    rw [bestL_succ]
    generalize bestB wts r (l ++ [(i : Int)]) = b at *
    rw [wrap64_id (by omega) (by omega)]
    cases b with
    | none => exact Ev.neg (by simp [enc]) (by simpa [first] using ih)
    | some b =>
      refine Ev.pos (by exact hb b rfl) ?_
      cases acc with
      | none => exact Ev.pos (by simp [enc]) (by simpa [first, enc] using ih)
      | some a =>
        refine Ev.neg (by have := ha a rfl; simp [enc]; omega) ?_
        by_cases hlt : b.2 < a.2
        · exact Ev.pos hlt (by simpa [first, enc, hlt] using ih)
        · exact Ev.neg hlt (by simpa [first, enc, hlt] using ih)
termination_by r l n d => (r, d + 1)
end

theorem implLeaf (wts : List Int) (hk : wts.length ≤ 8) (hw : ∀ x ∈ wts, 0 ≤ x ∧ x ≤ 100) (l : List Int) (hn : 0 < l.length) (hl : l.length ≤ 8) (h0 : 0 < wts.length) (hr : ∀ x ∈ l, 0 ≤ x ∧ x < wts.length) (acc : OB) : Ev (fun k => BT.step k wts.length wts (toS acc) l) (toS (first acc (bestB wts 0 l))) := by
  unfold BT.step
  obtain ⟨hm, hmx⟩ := maxOf_spec l hn
  have hmr := hr _ hm
  refine Ev.bind (sharesOf_ev l hn (by omega) (by omega) (by omega)) ?_
  refine Ev.bind (Contains_ev _ 0 (by rw [sharesP_length]; omega)) ?_
  have hz := sharesP_zero l (maxOf l + 1).toNat
  rw [bestB_zero]
  by_cases hc : (0 : Int) ∈ sharesP l (maxOf l + 1).toNat
  · obtain ⟨i, hi, hni⟩ := hz.1 hc
    rw [if_neg (fun hg : good wts.length l => hni (hg i (by omega)))]
    refine Ev.pos (by simpa using hc) ?_
    exact Ev.now _
  · refine Ev.neg (by simpa using hc) ?_
    refine Ev.bindc (a := maxOf l) (by unfold slices_Max_int64_int64.f maxLen; rw [if_pos ⟨hn, by omega⟩]) ?_
    rw [wrap64_id (by omega) (by omega)]
    by_cases hlt : maxOf l < (wts.length : Int) - 1
    · rw [if_neg]
      · exact Ev.pos hlt (Ev.now _)
      · intro hg
        have := hmx _ (hg (wts.length - 1) (by omega))
        omega
    · refine Ev.neg hlt ?_
      have hg : good wts.length l := fun i hi => by
        by_cases hil : (i : Int) ∈ l
        · exact hil
        · exact absurd (hz.2 ⟨i, by omega, hil⟩) hc
      rw [if_pos hg]
      refine Ev.bind (weighted_ev l wts hn (by omega) hw (by omega) (fun i hi _ => hg i hi)) ?_
      cases acc with
      | none => exact Ev.pos rfl (Ev.now _)
      | some a =>
        refine Ev.neg (by simp [toS]) ?_
        by_cases ho : costP l wts < a.2
        · refine Ev.pos ho ?_; rw [show first (some a) (some (l, costP l wts)) = some (l, costP l wts) by simp [first, ho]]; exact Ev.now _
        · refine Ev.neg ho ?_; rw [show first (some a) (some (l, costP l wts)) = some a by simp [first, ho]]; exact Ev.now _

mutual
theorem implB (wts : List Int) (hk : wts.length ≤ 8) (hw : ∀ x ∈ wts, 0 ≤ x ∧ x ≤ 100) : ∀ (r : Nat) (l : List Int) (n : Int) (acc : OB), 0 < wts.length → (∀ x ∈ l, 0 ≤ x ∧ x < wts.length) → 0 < l.length + r → l.length + r ≤ 8 → (l.length : Int) + r = n → Ev (fun k => BT.all k wts.length n wts l (toS acc)) (toS (first acc (bestB wts r l)))
  | 0, l, n, acc, h0, hr, hp, h1, hn => by
    refine Ev.step (fun k => by rw [BT.all]) ?_
    refine Ev.pos (by omega) (Ev.pos (by omega) ?_)
    exact implLeaf wts hk hw l (by omega) (by omega) h0 hr acc
  | r + 1, l, n, acc, h0, hr, hp, h1, hn => by
    refine Ev.step (fun k => by rw [BT.all]) ?_
    refine Ev.neg (by omega) ?_
    rw [bestB_succ, ← bestL_acc]
    have := implL wts hk hw r l n wts.length 0 (first acc none) h0 hr (by omega) (by omega) (by omega)
    cases acc <;> simpa [first] using this
termination_by r l => (r, 0)
theorem implL (wts : List Int) (hk : wts.length ≤ 8) (hw : ∀ x ∈ wts, 0 ≤ x ∧ x ≤ 100) : ∀ (r : Nat) (l : List Int) (n : Int) (d i : Nat) (acc : OB), 0 < wts.length → (∀ x ∈ l, 0 ≤ x ∧ x < wts.length) → l.length + 1 + r ≤ 8 → (l.length : Int) + 1 + r = n → i + d = wts.length → Ev (fun k => BT.l k wts.length n wts l i (toS acc)) (toS (bestL wts r l d i acc))
  | r, l, n, 0, i, acc, h0, hr, h1, hn, hi => by
    refine Ev.step (fun k => by rw [BT.l]) ?_
    refine Ev.neg (by omega) ?_
    rw [bestL_zero]; exact Ev.now _
  | r, l, n, d + 1, i, acc, h0, hr, h1, hn, hi => by
    refine Ev.step (fun k => by rw [BT.l]) ?_
    refine Ev.pos (by omega) (Ev.pos (by omega) ?_)
    refine Ev.bind (implB wts hk hw r (l ++ [(i : Int)]) n acc h0 (fun x hx => by rcases List.mem_append.1 hx with h | h; exact hr x h; simp at h; omega) (by simp; omega) (by simp; omega) (by simp; omega)) ?_
    rw [bestL_succ, wrap64_id (by omega) (by omega)]
    simpa using implL wts hk hw r l n d (i + 1) _ h0 hr h1 hn (by omega)
termination_by r l n d => (r, d + 1)
end
end Go.Proofs.Ytoakdilhljnjfaa.Pure
/- The program's BestTurns returns what the reference's returns, for all arguments. -/
namespace Go.Proofs.Ytoakdilhljnjfaa.Pure
open Go.RowKit Go.Proofs.Ytoakdilhljnjfaa.Q Go.Proofs.YtoakdilhljnjfaaW.PrintWords Go.Proofs.YtoakdilhljnjfaaW.PrintLast Go.Proofs.YtoakdilhljnjfaaW.PrintMore
set_option linter.unusedVariables false
set_option linter.unusedSimpArgs false

theorem l01In_eq (x lo hi : Int) : spec_l01In.f x lo hi = some (isIn lo hi x) := by
  unfold spec_l01In.f isIn
  by_cases h : x ≥ lo
  · rw [if_pos h]; simp [h]
  · rw [if_neg h]; simp [h]
theorem l10Weights_l (l : List Int) (low most : Int) (hlow : 0 ≤ low) (hl : l.length ≤ 10000000) (d : Nat) : ∀ (i : Nat) (acc : Int), i + d = l.length → 0 ≤ acc → acc ≤ (i : Int) * 100 →
    Ev (fun k => spec_l10Weights.l0 k l low most acc i) ((l.drop i).all (isIn low 100) && (decide (acc + (l.drop i).sum > 0) && decide ((l.length : Int) ≤ most))) := by
  induction d with
  | zero =>
    intro i acc hi h0 h1
    refine Ev.step (fun k => by rw [spec_l10Weights.l0]) ?_
    refine Ev.neg (by omega) ?_
    simp only [List.drop_eq_nil_of_le (show l.length ≤ i by omega), List.all_nil, List.sum_nil, Int.add_zero, Bool.true_and]
    by_cases h : acc > 0
    · refine Ev.pos h ?_; rw [decide_eq_true h, Bool.true_and]; exact Ev.now _
    · refine Ev.neg h ?_; rw [decide_eq_false h, Bool.false_and]; exact Ev.now _
  | succ d ih =>
    intro i acc hi h0 h1
    refine Ev.step (fun k => by rw [spec_l10Weights.l0]) ?_
    refine Ev.pos (by omega) (Ev.pos (by omega) ?_)
    refine Ev.bindc (l01In_eq _ _ _) ?_
    rw [List.drop_eq_getElem_cons (show i < l.length by omega), List.all_cons, List.sum_cons, ← rd_get l i (by omega)]
    cases hx : isIn low 100 (rd l i) with
    | false => exact Ev.neg (by simp) (by simpa using Ev.now false)
    | true =>
      have hxr : low ≤ rd l i ∧ rd l i ≤ 100 := by simpa [isIn] using hx
      refine Ev.pos rfl ?_
      rw [wrap64_id (x := acc + rd l i) (by omega) (by omega), wrap64_id (by omega) (by omega), Bool.true_and]
      have := ih (i + 1) (acc + rd l i) (by omega) (by omega) (by omega)
      simpa [Int.add_assoc] using this
theorem l10Weights_ev (l : List Int) (low most : Int) (hlow : 0 ≤ low) (hl : l.length ≤ 10000000) : Ev (fun k => spec_l10Weights.f k l low most) (l.all (isIn low 100) && (decide (l.sum > 0) && decide ((l.length : Int) ≤ most))) := by
  unfold spec_l10Weights.f
  simpa using l10Weights_l l low most hlow hl l.length 0 0 (by omega) (by omega) (by omega)

theorem isMany_eq (n : Int) : impl_isMany.f n = some (isIn 1 8 n) := by
  unfold impl_isMany.f
  rw [within_isIn]; rfl
theorem all_isIn (l : List Int) (lo hi : Int) : l.all (isIn lo hi) = true ↔ ∀ x ∈ l, lo ≤ x ∧ x ≤ hi := by simp [isIn]
theorem areWeights_ev (l : List Int) (hl : l.length ≤ 10000000) : Ev (fun k => impl_areWeights.f k l) (isIn 1 8 l.length && (l.all (isIn 0 100) && decide (l.sum > 0))) := by
  unfold impl_areWeights.f
  refine Ev.bindc (isMany_eq _) ?_
  cases h1 : isIn 1 8 (l.length : Int) with
  | false => exact Ev.neg (by simp) (by simpa using Ev.now false)
  | true =>
    refine Ev.pos rfl ?_
    cases h2 : l.all (isIn 0 100) with
    | false => exact Ev.neg (by simp) (by simpa using Ev.now false)
    | true =>
      refine Ev.pos rfl ?_
      have hb := (all_isIn l 0 100).1 h2
      refine Ev.bind (total_ev l (by omega) (fun x hx => by have := hb x hx; omega)) ?_
      simpa using Ev.now (decide (l.sum > 0))

def bestR (l : List Int) (n : Int) : List Int × Int :=
  if l.all (isIn 1 100) = true ∧ l.sum > 0 ∧ l.length ≤ 3 ∧ 1 ≤ n ∧ n ≤ 8 then if n < l.length then ([], 3) else ((enc (bestB l n.toNat [])).1, 0) else ([], 2)

theorem all_zero (l : List Int) (h : l.all (isIn 1 100) = true) : ∀ x ∈ l, 0 ≤ x ∧ x ≤ 100 := fun x hx => by have := (all_isIn l 1 100).1 h x hx; omega

theorem specBest_j (l : List Int) (n : Int) (b : Bool) (hb : b = false → l.all (isIn 1 100) = true ∧ l.length ≤ 3 ∧ 1 ≤ n ∧ n ≤ 8) : Ev (fun k => spec_BestTurns.j0 k l n b) (if b = true then ([], 2) else if n < l.length then ([], 3) else ((enc (bestB l n.toNat [])).1, 0)) := by
  refine Ev.step (fun k => by rw [spec_BestTurns.j0]) ?_
  cases b with
  | true => exact Ev.pos rfl (Ev.now _)
  | false =>
    obtain ⟨h1, h2, h3, h4⟩ := hb rfl
    refine Ev.neg (by simp) ?_
    by_cases hlt : n < l.length
    · refine Ev.pos hlt ?_; simpa [hlt] using Ev.now (([] : List Int), (3 : Int))
    · refine Ev.neg hlt ?_
      refine Ev.bind (specB l (by omega) (all_zero l h1) n.toNat [] n (by simp; omega) (by simp; omega) (by simp; omega)) ?_
      simpa [hlt] using Ev.now ((enc (bestB l n.toNat [])).1, (0 : Int))
theorem specBest_ev (l : List Int) (n : Int) (hl : l.length ≤ 10000000) : Ev (fun k => spec_BestTurns.f k l n) (bestR l n) := by
  unfold spec_BestTurns.f bestR
  refine Ev.bind (l10Weights_ev l 1 3 (by omega) hl) ?_
  by_cases hw : l.all (isIn 1 100) = true ∧ l.sum > 0 ∧ l.length ≤ 3
  · obtain ⟨h1, h2, h3⟩ := hw
    have h3' : (l.length : Int) ≤ 3 := by omega
    refine Ev.pos (by simp [h1, h2, h3']) ?_
    refine Ev.bindc (l01In_eq _ _ _) ?_
    have := specBest_j l n (!isIn 1 8 n) (fun hb => ⟨h1, h3, by simpa [isIn] using hb⟩)
    by_cases hn : 1 ≤ n ∧ n ≤ 8
    · simpa [isIn, hn, h1, h2, h3] using this
    · rw [if_neg (fun h => hn h.2.2.2)]
      simpa [isIn, hn] using this
  · rw [if_neg (fun h => hw ⟨h.1, h.2.1, h.2.2.1⟩)]
    refine Ev.neg ?_ (by simpa using specBest_j l n true (fun h => by cases h))
    intro h
    simp only [Bool.and_eq_true, decide_eq_true_eq] at h
    exact hw ⟨h.1, h.2.1, by omega⟩

theorem sum_pos_len (l : List Int) (h : l.sum > 0) : 0 < l.length := by
  cases l with
  | nil => simp at h
  | cons => simp

theorem implBest_ev (l : List Int) (n : Int) (hl : l.length ≤ 10000000) : Ev (fun k => impl_BestTurns.f k l n) (bestR l n) := by
  unfold impl_BestTurns.f bestR
  refine Ev.bind (areWeights_ev l hl) ?_
  by_cases hc : 1 ≤ (l.length : Int) ∧ (l.length : Int) ≤ 8 ∧ l.all (isIn 0 100) = true ∧ l.sum > 0
  · obtain ⟨c1, c2, c3, c4⟩ := hc
    refine Ev.pos (by simp [isIn, c1, c2, c4]; exact (all_isIn l 0 100).1 c3) ?_
    by_cases h3 : (l.length : Int) > 3
    · rw [if_neg (fun h => by have := h.2.2.1; omega)]
      exact Ev.pos h3 (Ev.now _)
    · refine Ev.neg h3 ?_
      refine Ev.bind (Contains_ev l 0 (by omega)) ?_
      by_cases hz : (0 : Int) ∈ l
      · rw [if_neg (fun h => by have := (all_isIn l 1 100).1 h.1 0 hz; omega)]
        exact Ev.pos (by simpa using hz) (Ev.now _)
      · refine Ev.neg (by simpa using hz) ?_
        have h1 : l.all (isIn 1 100) = true := (all_isIn l 1 100).2 (fun x hx => by
          have := (all_isIn l 0 100).1 c3 x hx
          have : x ≠ 0 := fun e => hz (e ▸ hx)
          omega)
        refine Ev.bindc (within_isIn _ _ _) ?_
        by_cases hn : 1 ≤ n ∧ n ≤ 8
        · refine Ev.pos (by simp [isIn, hn]) ?_
          rw [if_pos ⟨h1, c4, by omega, hn⟩]
          by_cases hlt : n < l.length
          · rw [if_pos hlt]; exact Ev.pos hlt (Ev.now _)
          · rw [if_neg hlt]
            refine Ev.neg hlt ?_
            have := implB l (by omega) (all_zero l h1) n.toNat [] n none (by omega) (fun x hx => by cases hx) (by simp; omega) (by simp; omega) (by simp; omega)
            refine Ev.bind this ?_
            rw [first_none]
            cases bestB l n.toNat [] <;> exact Ev.now _
        · rw [if_neg (fun h => hn h.2.2.2)]
          exact Ev.neg (by simpa [isIn] using hn) (Ev.now _)
  · rw [if_neg (fun h => hc ⟨by have := sum_pos_len l h.2.1; omega, by have := h.2.2.1; omega, (all_isIn l 0 100).2 (all_zero l h.1), h.2.1⟩)]
    refine Ev.neg ?_ (Ev.now _)
    intro h
    simp only [Bool.and_eq_true, decide_eq_true_eq, isIn] at h
    exact hc ⟨h.1.1, h.1.2, by simpa [isIn] using h.2.1, h.2.2⟩

theorem bestB_len (wts : List Int) : ∀ (r : Nat) (l : List Int), ∀ x, bestB wts r l = some x → x.1.length = l.length + r := by
  intro r
  induction r with
  | zero => intro l x hx; rw [bestB_zero] at hx; split at hx <;> simp at hx; rw [← hx]; rfl
  | succ r ih =>
    intro l x hx
    rw [bestB_succ] at hx
    have key : ∀ (d i : Nat) (acc : OB), (∀ y, acc = some y → y.1.length = l.length + (r + 1)) → ∀ y, bestL wts r l d i acc = some y → y.1.length = l.length + (r + 1) := by
      intro d
      induction d with
      | zero => intro i acc ha y hy; rw [bestL_zero] at hy; exact ha y hy
      | succ d ihd =>
        intro i acc ha y hy
        rw [bestL_succ] at hy
        refine ihd (i + 1) _ (fun z hz => ?_) y hy
        have hb := ih (l ++ [(i : Int)])
        generalize bestB wts r (l ++ [(i : Int)]) = b at hz hb
        cases acc <;> cases b <;> simp [first] at hz
        · have := hb z (by rw [hz]); simpa [Nat.add_assoc, Nat.add_comm 1 r] using this
        · exact ha z (by rw [hz])
        · split at hz
          · have := hb z (by rw [← hz]); simpa [Nat.add_assoc, Nat.add_comm 1 r] using this
          · exact ha z (by rw [← hz])
    exact key _ _ none (fun y hy => by cases hy) x hx

theorem bestR_len (l : List Int) (n : Int) : (bestR l n).1.length ≤ 8 := by
  unfold bestR
  split
  · rename_i h
    split
    · simp
    · cases hb : bestB l n.toNat [] with
      | none => simp [enc]
      | some x => have := bestB_len l n.toNat [] x hb; simp [enc]; simp at this; omega
  · simp

theorem FnExactBestTurns : laws_FnExactBestTurns.Pure := by
  intro l0 a1 _ _ _ _
  refine Ev.rounds ?_
  unfold laws_FnExactBestTurns.f
  by_cases hbig : (l0.length : Int) > 1048576
  · exact Ev.pos hbig (Ev.now _)
  · refine Ev.neg hbig ?_
    have hl : l0.length ≤ 10000000 := by omega
    have hs := specBest_ev l0 a1 hl
    have hi := implBest_ev l0 a1 hl
    have h8 := bestR_len l0 a1
    generalize bestR l0 a1 = R at *
    obtain ⟨g, c⟩ := R
    simp only at h8
    refine Ev.bind (toInt64S_ev l0 (by omega)) ?_
    refine Ev.bind hs ?_
    refine Ev.bind (toInt64S_ev l0 (by omega)) ?_
    refine Ev.bind hi ?_
    refine Ev.bind (eqInt64S_ev g (by omega)) ?_
    refine Ev.pos rfl ?_
    refine Ev.step (fun k => by rw [laws_FnExactBestTurns.j0]) ?_
    refine Ev.neg (by simp) ?_
    refine Ev.bind (toInt64S_ev l0 (by omega)) ?_
    refine Ev.bind (eqInt64S_ev l0 (by omega)) ?_
    refine Ev.pos rfl ?_
    refine Ev.bind (markInt64S_ev l0 (by omega) 1 (by omega) (by omega)) ?_
    refine Ev.neg (by simp; omega) ?_
    refine Ev.bind (eqInt64S_ev g (by omega)) ?_
    refine Ev.pos rfl ?_
    refine Ev.step (fun k => by rw [laws_FnExactBestTurns.j1]) ?_
    refine Ev.neg (by simp) ?_
    refine Ev.bind (markInt64S_ev g (by omega) 1 (by omega) (by omega)) ?_
    refine Ev.bind (heldInt64S_ev g.length 1 (by omega) (by omega) (by omega)) ?_
    refine Ev.neg (by omega) ?_
    refine Ev.pos rfl ?_
    refine Ev.bind (toInt64S_ev l0 (by omega)) ?_
    refine Ev.bind hi ?_
    refine Ev.bind (eqInt64S_ev g (by omega)) ?_
    refine Ev.pos rfl ?_
    refine Ev.step (fun k => by rw [laws_FnExactBestTurns.j2]) ?_
    refine Ev.neg (by simp) ?_
    refine Ev.bind (heldInt64S_ev g.length 1 (by omega) (by omega) (by omega)) ?_
    refine Ev.neg (by omega) ?_
    refine Ev.pos rfl ?_
    exact Ev.now _
end Go.Proofs.Ytoakdilhljnjfaa.Pure
-- written by wip/tools/printx.py (this session's) out of the translation; Lean checks it
namespace Go.Proofs.Ytoakdilhljnjfaa.fnExactBestTurns
open Go.ChangeShapes Go.WideShapes Go.ChangeAt Go.RowKit
open Go.ChangeMaps (open_string shut_string)
set_option linter.unusedVariables false
theorem own : ownKnob Try.prog.godebug = none := by kernel_rfl
theorem laidOut : laidOutB Try.prog = true := by kernel_rfl
def IsRow (k : IntKind) (w : World) (a : Option Addr) (len cap : Nat) (zs : List Int) : Prop :=
  (a = none ∧ len = 0 ∧ cap = 0 ∧ zs = []) ∨
  ∃ x, a = some x ∧ len ≤ cap ∧ cap ≤ maxLen ∧ zs.length = cap ∧ (∀ i, i < zs.length → w.cell? (x.add i) = some (.int k (zs.getD i 0))) ∧ ∀ n ∈ zs, (Lit.int k n).wf = true
set_option maxRecDepth 100000 in
theorem lifted (os : Os) (started : os.Started) (H : Type) (enc : TypeId × Value → H) :
    ReturnsInHanded {} Try.checked os 3 .any (Rows.fnExactBestTurnsSpec.pre6 enc Try.prog Try.f3 Rows.fnExactBestTurnsRow.domain false) (Rows.fnExactBestTurnsSpec.post enc Try.prog Try.f3 false true false false) := by
  refine returnsInHanded_of_change_sized (C := Try.checked) own started (by kernel_rfl) Try.func3
    (ChangeSpec.witness6 (enc := enc) (C := Try.checked) false ⟨#[], #[.slice none 0 0, .int .i64 0], []⟩ 8 (by kernel_rfl) (by kernel_rfl) (by kernel_rfl) (by kernel_rfl)) ?_
  intro W base args ds gs before hval0 hW hcnd hsz0 _
  have hsz : (DataW.weightsEach Try.prog (Try.f3.params.toList ++ Rows.fnExactBestTurnsSpec.plain.varTypes Try.prog) (ds ++ gs)).all (· ≤ reachBytes) = true := hsz0
  have hval : ∀ (j : Nat) t v, Try.f3.params[j]? = some t → args[j]? = some v → Value.okWide Try.prog W .any base t v := hval0
  have hW' := hW
  obtain ⟨p, q, hA0, hV, rfl, hfz, hnd⟩ := hW
  have hA : DataW.TrodAll enc Try.prog W 0 (fun _ => true) true Try.f3.params.toList args.toList ds p := hA0
  rw [Try.params3] at hA hval hsz
  obtain ⟨v0, vs0, d0, ds0, p0, q0, hargs, rfl, rfl, h0, r0⟩ := trodAll_cons hA
  obtain ⟨v1, vs1, d1, ds1, p1, q1, rfl, rfl, rfl, h1, r1⟩ := trodAll_cons r0
  obtain ⟨rfl, rfl, rfl⟩ := trodAll_nil r1
  obtain rfl : args = #[v0, v1] := by cases args; simp_all
  obtain ⟨rfl, rfl⟩ := trodVars_none hV
  obtain ⟨a0, len0, cap0, rfl⟩ := okWide_slice Try.underlying22 (hval 0 22 v0 rfl rfl)
  have k0 := h0
  have lt0 : ∀ x ∈ p0, x.block < W.heap.size := by obtain ⟨m, hm⟩ := k0; exact DataW.trod_lt m _ _ _ hm
  obtain ⟨z0, w0⟩ : ∃ zs, IsRow .i64 W a0 len0 cap0 zs := by
    obtain ⟨fuel, hf⟩ := h0
    rcases open_ints Try.underlying22 Try.underlying2 (by kernel_rfl) hf with ⟨hcs, _⟩ | ⟨x, l, c, zs, hcs, _, hl, hm, hz, _, hcell, hwz⟩
    · simp [Value.cells] at hcs
      obtain ⟨rfl, rfl, rfl⟩ := hcs
      exact ⟨[], .inl ⟨rfl, rfl, rfl, rfl⟩⟩
    · simp [Value.cells] at hcs
      obtain ⟨rfl, rfl, rfl⟩ := hcs
      exact ⟨zs, .inr ⟨_, rfl, hl, hm, by simpa using hz, hcell, hwz⟩⟩
  have y0 : len0 * 8 ≤ 140737488351232 := Go.Proofs.YtoakdilhljnjfaaW.PrintWords.sized_ints hsz (j := 0) (t := 22) rfl rfl Try.underlying22 Try.underlying2 (by kernel_rfl) (by kernel_rfl) h0
  obtain ⟨a1, rfl, rfl, rfl, w1⟩ := open_int Try.underlying2 (hval 1 2 v1 rfl rfl) h1
  clear hA0 hval0 hsz0 hsz
  refine (Q.laws_FnExactBestTurns.walk Pure.FnExactBestTurns a0 len0 cap0 z0 a1 W w0 y0 w1).mono fun e W' ⟨he, bel⟩ => ?_
  subst he
  exact ⟨_, rfl, _, _, _, [], _, [], hW', trodAll_mk1 (shut_bool Try.underlying4 _), (trodAll_cons_mk (Below.trod laidOut (by kernel_rfl) (of_decide_eq_true (by kernel_rfl)) k0 bel lt0) (trodAll_cons_mk (shut_int Try.underlying2 w1) trodAll_mk0)), rfl, bel.frame _, fun h => by cases h⟩
theorem over : Rows.fnExactBestTurnsRow.holds Try.pinned (OpenSpec.ofChange Rows.fnExactBestTurnsSpec) :=
  OpenClaim.holds_of_wide 3 Try.f3 rfl rfl rfl rfl rfl rfl rfl ⟨rfl, rfl, rfl, rfl, rfl⟩ rfl rfl rfl rfl rfl (by kernel_rfl) Try.func3 (by kernel_rfl)
    (of_decide_eq_true (by kernel_rfl)) (by unfold Func.isWrapper; first | (rw [if_pos (by decide +kernel)]; kernel_rfl) | (rw [if_neg (by decide +kernel)]; exact ⟨rfl, rfl⟩))
    (fun os started H enc _ => lifted os started H enc)
theorem proved : Rows.FnExactBestTurnsSaid := over
end Go.Proofs.Ytoakdilhljnjfaa.fnExactBestTurns
namespace Go.Proofs.Ytoakdilhljnjfaa
/-- The row, under a short name, for the claim. -/
theorem fnExactBestTurns_holds : Rows.FnExactBestTurnsSaid := fnExactBestTurns.proved
end Go.Proofs.Ytoakdilhljnjfaa
