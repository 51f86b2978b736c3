/- Jobs can be met exactly if no demand is too great, and none is late then. (Part 2 of 7.) No conditions beside those of the statement. -/
import Derived.Test.YtoakdilhljnjfaaCJOB1
import Derived.Below
import Derived.Deep.Draws
import Derived.Deep.AppendLies
import Derived.Maps.AppendAt
import Derived.OwnWalk
import Derived.Laws.BytesArg
import Derived.Laws.MakeOwn
import Derived.Laws.OwnMore
import Derived.Deep.OwnRows
import Derived.Tactics
import Derived.Lib.ConvBytes
import Derived.Laws.Slices
import Derived.WalkKit
import Derived.KernelRfl
import Derived.RowKit3
import Derived.Deep.LoopGhost
import Derived.Deep.QuietTactic
import Derived.BigQuiet
import Derived.WideLaws
import Derived.Deep.DeepCutAuto
import Derived.Deep.CutBlock
import Derived.Deep.RegionHeld3
import Derived.Laws.Rows
import Derived.Lib.AppendStr
import Derived.ArgAppend
import Derived.Laws.IdiomCopy
import Derived.RowKit
import Derived.OrdersHeld
import Derived.Laws.BitsLemmas
import Derived.Laws.StructEq
import Derived.Test.YtoakdilhljnjfaaProg
import Derived.WalkSpells
import Derived.Outline
import Derived.Lib.SliceRun
import Derived.Laws.Bits64b
import Derived.Test.YtoakdilhljnjfaaRows
import Derived.ProofKit
import Derived.OpenShut
import Derived.ShutString
import Derived.ChangeOld
import Derived.SizedLaws
namespace Go.Proofs.Ytoakdilhljnjfaa.Q
open Go.RowKit Go.Proofs.YtoakdilhljnjfaaW.PrintWords Go.Proofs.YtoakdilhljnjfaaW.PrintLast Go.Proofs.YtoakdilhljnjfaaW.PrintMore
attribute [local go_sem] max2_int min2_int max_two min_two max_three min_three max_four min_four   -- for this text's walks alone
set_option linter.unusedVariables false
set_option linter.unusedSimpArgs false
theorem info2 : (Try.prog.info? 2).map (fun i => (i.zero, i.size, i.bytes)) = some (some (.int .i64 0), 1, 8) := by kernel_rfl
end Go.Proofs.Ytoakdilhljnjfaa.Q
namespace Go.Proofs.Ytoakdilhljnjfaa.Pure
open Go.RowKit Go.Proofs.Ytoakdilhljnjfaa.Q Go.Proofs.YtoakdilhljnjfaaW.PrintWords Go.Proofs.YtoakdilhljnjfaaW.PrintLast Go.Proofs.YtoakdilhljnjfaaW.PrintMore
set_option linter.unusedVariables false
set_option linter.unusedSimpArgs false
theorem Ev.pos {α : Type} {c : Prop} [Decidable c] {g f : Nat → Option α} {r : α} (h : c) (k : Ev g r) : Ev (fun n => if c then g n else f n) r := by simpa [h] using k
theorem Ev.neg {α : Type} {c : Prop} [Decidable c] {g f : Nat → Option α} {r : α} (h : ¬ c) (k : Ev f r) : Ev (fun n => if c then g n else f n) r := by simpa [h] using k
theorem Ev.bindc {α β : Type} {g : Option α} {f : Nat → α → Option β} {a : α} {r : β} (h : g = some a) (k : Ev (fun n => f n a) r) : Ev (fun n => g.bind (f n)) r := by simpa [h] using k
theorem wrap64_id {x : Int} (h : -9223372036854775808 ≤ x) (h' : x ≤ 9223372036854775807) : wrap64 x = x := by unfold wrap64; omega
theorem rd_get (l : List Int) (k : Nat) (h : k < l.length) : rd l k = l[k] := by simp [rd, h]
theorem rd_memP (l : List Int) (k : Nat) (h : k < l.length) : rd l k ∈ l := by rw [rd_get l k h]; exact List.getElem_mem h
end Go.Proofs.Ytoakdilhljnjfaa.Pure
namespace Go.Proofs.Ytoakdilhljnjfaa.Q
open Go.RowKit Go.Proofs.YtoakdilhljnjfaaW.PrintWords Go.Proofs.YtoakdilhljnjfaaW.PrintLast Go.Proofs.YtoakdilhljnjfaaW.PrintMore
attribute [local go_sem] max2_int min2_int max_two min_two max_three min_three max_four min_four   -- for this text's walks alone
set_option linter.unusedVariables false
set_option linter.unusedSimpArgs false
def impl_divisor.l0 : Nat → Int → Int → Option (Int)
 | 0, _, _ => none
 | k + 1, x0, x1 => if x1 = 0 then (some x0) else (impl_divisor.l0 k x1 (Int.tmod x0 x1))
def impl_divisor.f (k : Nat) (a0 : Int) (a1 : Int) : Option (Int) := impl_divisor.l0 k a0 a1
set_option maxHeartbeats 8000000 in
set_option maxRecDepth 100000 in
theorem impl_divisor.calls (k : Nat) (a0 : Int) (a1 : Int) (r : Int) (w : World) (h : impl_divisor.f k a0 a1 = some r) :
 Calls Try.prog 106 #[.int .i64 a0, .int .i64 a1] w fun e w' => e = .returned (.int .i64 r) ∧ Drawn0 w w' := by
 have H : (impl_divisor.l0 k a0 a1) = some r := h
 clear h
 have H' := Aside0.mk H
 clear H
 go_enter Try.func106, Try.ntmps106
 go_wp2
 repeat (go_quiet (fail); try go_wp2)
 go_loopg [0, 1] k (fun kq v0 v1 w' => ∃ (x0_1 : Int) (x1_1 : Int), v0 = .int .i64 x0_1 ∧ v1 = .int .i64 x1_1 ∧ Aside0 (impl_divisor.l0 kq x0_1 x1_1 = some r) ∧ Aside0 (kq ≤ k) ∧ Drawn0 w w')
 case atStart => exact ⟨(a0), (a1), (by rfl), (by rfl), H', ⟨Nat.le_refl _⟩, by exact Drawn0.refl _⟩
 clear H'
 obtain ⟨x0_1, x1_1, rfl, rfl, HA, HK1, ⟨m1, rfl⟩⟩ := hrel
 cases gk with
 | zero => exact absurd HA.out (by simp [impl_divisor.l0])
 | succ k1 =>
  have H := HA.out
  clear HA
  simp only [impl_divisor.l0] at H
  by_cases c3 : x1_1 = 0
  · rw [if_pos c3] at H
    have c3b0 : (x1_1 == 0) = true := beq_iff_eq.mpr c3
    have c3b1 : (x1_1 != 0) = false := bne_eq_false_iff_eq.mpr c3
    clear c3
    obtain rfl := Option.some.inj H
    go_wp2
    repeat (go_quiet (fail); try go_wp2)
    go_ret
    exact ⟨by rfl, by repeat (first | exact Drawn0.refl _ | apply Drawn0.step)⟩
  rw [if_neg c3] at H
  have c3b0 : (x1_1 == 0) = false := beq_eq_false_iff_ne.mpr c3
  have c3b1 : (x1_1 != 0) = true := bne_iff_ne.mpr c3
  have H' := Aside0.mk H
  clear H
  go_wp2
  repeat (go_quiet (fail); try go_wp2)
  go_roundg k1
  case measure => have := HK1.out; omega
  case rel => exact ⟨(x1_1), (Int.tmod x0_1 x1_1), (by rfl), (by rfl), H', ⟨by have := HK1.out; omega⟩, by repeat (first | exact Drawn0.refl _ | apply Drawn0.step)⟩
end Go.Proofs.Ytoakdilhljnjfaa.Q
namespace Go.Proofs.Ytoakdilhljnjfaa.Q
open Go.RowKit Go.Proofs.YtoakdilhljnjfaaW.PrintWords Go.Proofs.YtoakdilhljnjfaaW.PrintLast Go.Proofs.YtoakdilhljnjfaaW.PrintMore
attribute [local go_sem] max2_int min2_int max_two min_two max_three min_three max_four min_four   -- for this text's walks alone
set_option linter.unusedVariables false
set_option linter.unusedSimpArgs false
def spec_l01Gcd.l0 : Nat → Int → Int → Option (Int)
 | 0, _, _ => none
 | k + 1, x0, x1 => if x1 = 0 then (some x0) else (spec_l01Gcd.l0 k x1 (Int.tmod x0 x1))
def spec_l01Gcd.f (k : Nat) (a0 : Int) (a1 : Int) : Option (Int) := spec_l01Gcd.l0 k a0 a1
set_option maxHeartbeats 8000000 in
set_option maxRecDepth 100000 in
theorem spec_l01Gcd.calls (k : Nat) (a0 : Int) (a1 : Int) (r : Int) (w : World) (h : spec_l01Gcd.f k a0 a1 = some r) :
 Calls Try.prog 109 #[.int .i64 a0, .int .i64 a1] w fun e w' => e = .returned (.int .i64 r) ∧ Drawn0 w w' := by
 have H : (spec_l01Gcd.l0 k a0 a1) = some r := h
 clear h
 have H' := Aside0.mk H
 clear H
 go_enter Try.func109, Try.ntmps109
 go_wp2
 go_loopg [0, 1] k (fun kq v0 v1 w' => ∃ (x0_1 : Int) (x1_1 : Int), v0 = .int .i64 x0_1 ∧ v1 = .int .i64 x1_1 ∧ Aside0 (spec_l01Gcd.l0 kq x0_1 x1_1 = some r) ∧ Aside0 (kq ≤ k) ∧ Drawn0 w w')
 case atStart => exact ⟨(a0), (a1), (by rfl), (by rfl), H', ⟨Nat.le_refl _⟩, by exact Drawn0.refl _⟩
 clear H'
 obtain ⟨x0_1, x1_1, rfl, rfl, HA, HK1, ⟨m1, rfl⟩⟩ := hrel
 cases gk with
 | zero => exact absurd HA.out (by simp [spec_l01Gcd.l0])
 | succ k1 =>
  have H := HA.out
  clear HA
  simp only [spec_l01Gcd.l0] at H
  by_cases c3 : x1_1 = 0
  · rw [if_pos c3] at H
    have c3b0 : (x1_1 == 0) = true := beq_iff_eq.mpr c3
    have c3b1 : (x1_1 != 0) = false := bne_eq_false_iff_eq.mpr c3
    clear c3
    obtain rfl := Option.some.inj H
    go_wp2
    go_ret
    exact ⟨by rfl, by repeat (first | exact Drawn0.refl _ | apply Drawn0.step)⟩
  rw [if_neg c3] at H
  have c3b0 : (x1_1 == 0) = false := beq_eq_false_iff_ne.mpr c3
  have c3b1 : (x1_1 != 0) = true := bne_iff_ne.mpr c3
  have H' := Aside0.mk H
  clear H
  go_wp2
  go_roundg k1
  case measure => have := HK1.out; omega
  case rel => exact ⟨(x1_1), (Int.tmod x0_1 x1_1), (by rfl), (by rfl), H', ⟨by have := HK1.out; omega⟩, by repeat (first | exact Drawn0.refl _ | apply Drawn0.step)⟩
end Go.Proofs.Ytoakdilhljnjfaa.Q
namespace Go.Proofs.Ytoakdilhljnjfaa.Q
open Go.RowKit Go.Proofs.YtoakdilhljnjfaaW.PrintWords Go.Proofs.YtoakdilhljnjfaaW.PrintLast Go.Proofs.YtoakdilhljnjfaaW.PrintMore
attribute [local go_sem] max2_int min2_int max_two min_two max_three min_three max_four min_four   -- for this text's walks alone
set_option linter.unusedVariables false
set_option linter.unusedSimpArgs false
def spec_l01Lcm.f (k : Nat) (a0 : Int) (a1 : Int) : Option (Int) := (spec_l01Gcd.f k a0 a1).bind fun t389 => (if t389 = 0 then (none) else (some (wrap64 ((wrap64 (Int.tdiv a0 t389)) * a1))))
set_option maxHeartbeats 8000000 in
set_option maxRecDepth 100000 in
theorem spec_l01Lcm.calls (k : Nat) (a0 : Int) (a1 : Int) (r : Int) (w : World) (h : spec_l01Lcm.f k a0 a1 = some r) :
 Calls Try.prog 108 #[.int .i64 a0, .int .i64 a1] w fun e w' => e = .returned (.int .i64 r) ∧ Drawn0 w w' := by
 have H : ((spec_l01Gcd.f k a0 a1).bind fun t389 => (if t389 = 0 then (none) else (some (wrap64 ((wrap64 (Int.tdiv a0 t389)) * a1))))) = some r := h
 clear h
 replace H := Option.bind_eq_some_iff.mp H
 obtain ⟨t389, A30, H⟩ := H
 replace H : (if t389 = 0 then (none) else (some (wrap64 ((wrap64 (Int.tdiv a0 t389)) * a1)))) = some r := H
 have A3 := Aside0.mk A30
 clear A30
 by_cases c4 : t389 = 0
 · rw [if_pos c4] at H
   exact absurd H (by simp)
 rw [if_neg c4] at H
 have c4b0 : (t389 == 0) = false := beq_eq_false_iff_ne.mpr c4
 have c4b1 : (t389 != 0) = true := bne_iff_ne.mpr c4
 obtain rfl := Option.some.inj H
 go_enter Try.func108, Try.ntmps108
 go_wp2_with (((with_reducible refine gate_callee (f := 109) rfl ?_); refine goesL_ (some 8) rfl rfl Try.func109 (by kernel_rfl) rfl #[.int .i64 a0, .int .i64 a1] rfl (by (try simp only [List.map_toArray, List.map_cons, List.map_nil]); rfl) ?_; (with_reducible refine (spec_l01Gcd.calls k a0 a1 t389 _ A3.out).mono ?_); rintro e w' ⟨rfl, ⟨nd, rfl⟩⟩; refine ⟨_, rfl, ?_⟩))
 go_ret
 exact ⟨by rfl, by repeat (first | exact Drawn0.refl _ | apply Drawn0.step)⟩
end Go.Proofs.Ytoakdilhljnjfaa.Q
namespace Go.Proofs.Ytoakdilhljnjfaa.Q
open Go.RowKit Go.Proofs.YtoakdilhljnjfaaW.PrintWords Go.Proofs.YtoakdilhljnjfaaW.PrintLast Go.Proofs.YtoakdilhljnjfaaW.PrintMore
attribute [local go_sem] max2_int min2_int max_two min_two max_three min_three max_four min_four   -- for this text's walks alone
set_option linter.unusedVariables false
set_option linter.unusedSimpArgs false
def spec_l01Lowest.f (k : Nat) (a0 : Int) (a1 : Int) : Option (Int × Int) := (spec_l01Gcd.f k a0 a1).bind fun t501 => (if t501 = 0 then (none) else (some (wrap64 (Int.tdiv a0 t501), wrap64 (Int.tdiv a1 t501))))
set_option maxHeartbeats 8000000 in
set_option maxRecDepth 100000 in
theorem spec_l01Lowest.calls (k : Nat) (a0 : Int) (a1 : Int) (r1 : Int) (r2 : Int) (w : World) (h : spec_l01Lowest.f k a0 a1 = some (r1, r2)) :
 Calls Try.prog 75 #[.int .i64 a0, .int .i64 a1] w fun e w' => e = .returned (.tuple #[.int .i64 r1, .int .i64 r2]) ∧ Drawn0 w w' := by
 have H : ((spec_l01Gcd.f k a0 a1).bind fun t501 => (if t501 = 0 then (none) else (some (wrap64 (Int.tdiv a0 t501), wrap64 (Int.tdiv a1 t501))))) = some (r1, r2) := h
 clear h
 replace H := Option.bind_eq_some_iff.mp H
 obtain ⟨t501, A30, H⟩ := H
 replace H : (if t501 = 0 then (none) else (some (wrap64 (Int.tdiv a0 t501), wrap64 (Int.tdiv a1 t501)))) = some (r1, r2) := H
 have A3 := Aside0.mk A30
 clear A30
 by_cases c4 : t501 = 0
 · rw [if_pos c4] at H
   exact absurd H (by simp)
 rw [if_neg c4] at H
 have c4b0 : (t501 == 0) = false := beq_eq_false_iff_ne.mpr c4
 have c4b1 : (t501 != 0) = true := bne_iff_ne.mpr c4
 simp only [Option.some.injEq, Prod.mk.injEq] at H
 obtain ⟨rfl, rfl⟩ := H
 go_enter Try.func75, Try.ntmps75
 go_wp2_with ((go_at_call 109; (with_reducible refine (spec_l01Gcd.calls k a0 a1 t501 _ A3.out).mono ?_); rintro e w' ⟨rfl, ⟨nd, rfl⟩⟩; (try first | exact ⟨rfl, _, World.drewN_drewN _ _ _⟩ | exact ⟨rfl, _, Eq.trans (World.drewN_drewN _ _ _) (congrArg (World.drewN _) (Nat.add_assoc _ _ _))⟩)))
 repeat (go_quiet (first | (go_at_call 109; (with_reducible refine (spec_l01Gcd.calls k a0 a1 t501 _ A3.out).mono ?_); rintro e w' ⟨rfl, ⟨nd, rfl⟩⟩; (try first | exact ⟨rfl, _, World.drewN_drewN _ _ _⟩ | exact ⟨rfl, _, Eq.trans (World.drewN_drewN _ _ _) (congrArg (World.drewN _) (Nat.add_assoc _ _ _))⟩))); try go_wp2_with (first | (go_at_call 109; (with_reducible refine (spec_l01Gcd.calls k a0 a1 t501 _ A3.out).mono ?_); rintro e w' ⟨rfl, ⟨nd, rfl⟩⟩; (try first | exact ⟨rfl, _, World.drewN_drewN _ _ _⟩ | exact ⟨rfl, _, Eq.trans (World.drewN_drewN _ _ _) (congrArg (World.drewN _) (Nat.add_assoc _ _ _))⟩))))
 go_ret2
 exact ⟨by rfl, by repeat (first | exact Drawn0.refl _ | apply Drawn0.step)⟩
end Go.Proofs.Ytoakdilhljnjfaa.Q
namespace Go.Proofs.Ytoakdilhljnjfaa.Q
open Go.RowKit Go.Proofs.YtoakdilhljnjfaaW.PrintWords Go.Proofs.YtoakdilhljnjfaaW.PrintLast Go.Proofs.YtoakdilhljnjfaaW.PrintMore
attribute [local go_sem] max2_int min2_int max_two min_two max_three min_three max_four min_four   -- for this text's walks alone
set_option linter.unusedVariables false
set_option linter.unusedSimpArgs false
def impl_Tasks_multiple.l0 : Nat → Int → List Int → Int → Int → Option (Int)
 | 0, _, _, _, _ => none
 | k + 1, x3, x7, x8, x9 => if x9 < x8 then (if 0 ≤ x9 then (if x9 < (x7.length : Int) then ((impl_divisor.f k x3 (rd x7 x9)).bind fun t338 => (if t338 = 0 then (none) else (impl_Tasks_multiple.l0 k (wrap64 ((wrap64 (Int.tdiv x3 t338)) * (rd x7 x9))) x7 x8 (wrap64 (x9 + 1))))) else (none)) else (none)) else (some x3)
def impl_Tasks_multiple.f (k : Nat) (l0_0 : List Int) : Option (Int) := impl_Tasks_multiple.l0 k 1 l0_0 (l0_0.length : Int) 0
set_option maxHeartbeats 8000000 in
set_option maxRecDepth 100000 in
theorem impl_Tasks_multiple.calls (k : Nat) (A0_0 : Option Addr) (c0_0 : Nat) (l0_0 : List Int) (r : Int) (w : World) (hr0_0 : Kd.C (Kd.int .i64) w A0_0 l0_0.length l0_0) (hc0_0 : l0_0.length ≤ c0_0) (h : impl_Tasks_multiple.f k l0_0 = some r) :
 Calls Try.prog 107 #[.agg #[.slice A0_0 l0_0.length c0_0]] w fun e w' => e = .returned (.int .i64 r) ∧ Below w.heap.size w w' := by
 have hu67 := Try.underlying67
 have HR0_0 := Aside0.mk hr0_0
 have HC0_0 := Aside0.mk hc0_0
 clear hr0_0 hc0_0
 have HB := Aside0.mk (Below.refl w.heap.size w)
 have H : (impl_Tasks_multiple.l0 k 1 l0_0 (l0_0.length : Int) 0) = some r := h
 clear h
 have H' := Aside0.mk H
 clear H
 go_enter Try.func107, Try.ntmps107
 go_wp2_with (((with_reducible refine gate_dst (N := 1) rfl ?_); refine box_event ?hg (N := 1) ?hd (cs := #[.slice A0_0 l0_0.length c0_0]) (t := 67) ?hr ?_; (case hd => rfl); (case hg => rfl); (case hr => (go_simp; done)); intro gb336 hg w2 hbox hb; have n0_ := Aside0.mk (below_step HB.out hb); have n1_ := Aside0.mk (hbox); have n2_ := Aside0.mk ((by rw [hg]; exact (below_size HB.out) : w.heap.size ≤ gb336)); have n3_ := Aside0.mk ((by rw [hg]; exact (below_size HB.out) : w.heap.size ≤ gb336)); clear HB; have HB := n0_; have BK336 := n1_; have GW336 := n2_; have GE336 := n3_; clear n0_ n1_ n2_ n3_; clear hb hbox hg; have hcz3_0 : w2.cell? ⟨gb336, 0, none⟩ = some (.slice A0_0 l0_0.length c0_0) := (blk_cell BK336.out 0).trans rfl; have hfz3_0 := blk_frozen BK336.out 0))
 go_loopg [3, 9] k (fun kq v3 v9 w' => ∃ (x3_1 : Int) (x9_1 : Int), v3 = .int .i64 x3_1 ∧ v9 = .int .i64 x9_1 ∧ Aside0 (impl_Tasks_multiple.l0 kq x3_1 l0_0 (l0_0.length : Int) x9_1 = some r) ∧ Aside0 (kq ≤ k) ∧ Aside0 (w'.heap[gb336]? = some (.cells #[(.slice A0_0 l0_0.length c0_0)] 67 (0, 0))) ∧ Aside0 (Below w.heap.size w w'))
 case atStart => exact ⟨(1), (0), (by rfl), (by rfl), H', ⟨Nat.le_refl _⟩, ⟨by exact BK336.out⟩, ⟨by exact HB.out⟩⟩
 clear H'
 clear hcz3_0 hfz3_0
 obtain ⟨x3_1, x9_1, rfl, rfl, HA, HK1, BK336, HB⟩ := hrel
 cases gk with
 | zero => exact absurd HA.out (by simp [impl_Tasks_multiple.l0])
 | succ k1 =>
  have H := HA.out
  clear HA
  simp only [impl_Tasks_multiple.l0] at H
  by_cases c4 : x9_1 < (l0_0.length : Int)
  rotate_left
  · rw [if_neg c4] at H
    have c4b0 : decide (x9_1 < (l0_0.length : Int)) = false := decide_eq_false c4
    clear c4
    obtain rfl := Option.some.inj H
    go_wp2
    go_ret
    exact ⟨by rfl, by exact HB.out⟩
  rw [if_pos c4] at H
  have c4b0 : decide (x9_1 < (l0_0.length : Int)) = true := decide_eq_true c4
  clear c4
  by_cases c5 : 0 ≤ x9_1
  rotate_left
  · rw [if_neg c5] at H
    exact absurd H (by simp)
  rw [if_pos c5] at H
  have c5b0 : decide (0 ≤ x9_1) = true := decide_eq_true c5
  clear c5
  by_cases c6 : x9_1 < (l0_0.length : Int)
  rotate_left
  · rw [if_neg c6] at H
    exact absurd H (by simp)
  rw [if_pos c6] at H
  have c6b0 : decide (x9_1 < (l0_0.length : Int)) = true := decide_eq_true c6
  clear c6
  replace H := Option.bind_eq_some_iff.mp H
  obtain ⟨t338, A70, H⟩ := H
  replace H : (if t338 = 0 then (none) else (impl_Tasks_multiple.l0 k1 (wrap64 ((wrap64 (Int.tdiv x3_1 t338)) * (rd l0_0 x9_1))) l0_0 (l0_0.length : Int) (wrap64 (x9_1 + 1)))) = some r := H
  have A7 := Aside0.mk A70
  clear A70
  by_cases c8 : t338 = 0
  · rw [if_pos c8] at H
    exact absurd H (by simp)
  rw [if_neg c8] at H
  have c8b0 : (t338 == 0) = false := beq_eq_false_iff_ne.mpr c8
  have c8b1 : (t338 != 0) = true := bne_iff_ne.mpr c8
  have H' := Aside0.mk H
  clear H
  have p337 : 0 ≤ (x9_1 : Int) := of_decide_eq_true (by (with_reducible assumption))
  have q337 : x9_1 < (l0_0.length : Int) := of_decide_eq_true (by (with_reducible assumption))
  obtain ⟨ad337, e337, hx337_0⟩ := Kd.at_int HR0_0.out x9_1 p337 q337
  cases e337
  replace hx337_0 := (HB.out.cell (World.block_lt_of_cell? w _ hx337_0)).trans hx337_0
  replace p337 := eq_true p337
  replace q337 := eq_true q337
  go_wp2_with (((with_reducible refine gate_callee (f := 106) rfl ?_); refine goesL_ (some 16) rfl rfl Try.func106 (by kernel_rfl) rfl #[.int .i64 x3_1, .int .i64 (rd l0_0 x9_1)] rfl (by (try simp only [List.map_toArray, List.map_cons, List.map_nil]); rfl) ?_; (with_reducible refine (impl_divisor.calls k1 x3_1 (rd l0_0 x9_1) t338 _ A7.out).mono ?_); rintro e w' ⟨rfl, ⟨nd, rfl⟩⟩; refine ⟨_, rfl, ?_⟩))
  go_roundg k1
  case measure => have := HK1.out; omega
  case rel => exact ⟨(wrap64 ((wrap64 (Int.tdiv x3_1 t338)) * (rd l0_0 x9_1))), (wrap64 (x9_1 + 1)), (by rfl), (by rfl), H', ⟨by have := HK1.out; omega⟩, ⟨by (with_reducible repeat (refine blk_drewN ?_ _)); exact BK336.out⟩, ⟨by repeat (with_reducible first | exact HB.out | apply pw_below_drewN)⟩⟩
end Go.Proofs.Ytoakdilhljnjfaa.Q
namespace Go.Proofs.Ytoakdilhljnjfaa.Pure
open Go.RowKit Go.Proofs.Ytoakdilhljnjfaa.Q Go.Proofs.YtoakdilhljnjfaaW.PrintWords Go.Proofs.YtoakdilhljnjfaaW.PrintLast Go.Proofs.YtoakdilhljnjfaaW.PrintMore
set_option linter.unusedVariables false
set_option linter.unusedSimpArgs false
theorem tmodN (a b : Nat) : Int.tmod (a : Int) (b : Int) = ((a % b : Nat) : Int) := by
  rw [Int.tmod_eq_emod_of_nonneg (by omega)]; rfl
theorem tdivN (a b : Nat) : Int.tdiv (a : Int) (b : Int) = ((a / b : Nat) : Int) := by
  rw [Int.tdiv_eq_ediv_of_nonneg (by omega)]; rfl
theorem wrapN {n : Nat} (h : n ≤ 9223372036854775807) : wrap64 (n : Int) = (n : Int) := wrap64_id (by omega) (by omega)
theorem gcd_turn (a b : Nat) : Nat.gcd a b = Nat.gcd b (a % b) := by
  rw [Nat.gcd_comm a b, Nat.gcd_rec b a, Nat.gcd_comm]
theorem divisor_l : ∀ (n a b : Nat), b < n → Ev (fun k => impl_divisor.l0 k (a : Int) (b : Int)) ((Nat.gcd a b : Nat) : Int)
  | 0, _, _, h => by omega
  | n + 1, a, b, h => by
    refine Ev.step (fun k => by rw [impl_divisor.l0]) ?_
    by_cases hb : b = 0
    · subst hb; rw [Nat.gcd_zero_right]; exact Ev.pos rfl (Ev.now _)
    · refine Ev.neg (by omega) ?_
      rw [tmodN, gcd_turn]
      exact divisor_l n b (a % b) (by have := Nat.mod_lt a (show 0 < b by omega); omega)
theorem divisor_ev (a b : Nat) : Ev (fun k => impl_divisor.f k (a : Int) (b : Int)) ((Nat.gcd a b : Nat) : Int) := divisor_l (b + 1) a b (by omega)
theorem l01Gcd_l : ∀ (n a b : Nat), b < n → Ev (fun k => spec_l01Gcd.l0 k (a : Int) (b : Int)) ((Nat.gcd a b : Nat) : Int)
  | 0, _, _, h => by omega
  | n + 1, a, b, h => by
    refine Ev.step (fun k => by rw [spec_l01Gcd.l0]) ?_
    by_cases hb : b = 0
    · subst hb; rw [Nat.gcd_zero_right]; exact Ev.pos rfl (Ev.now _)
    · refine Ev.neg (by omega) ?_
      rw [tmodN, gcd_turn]
      exact l01Gcd_l n b (a % b) (by have := Nat.mod_lt a (show 0 < b by omega); omega)
theorem l01Gcd_ev (a b : Nat) : Ev (fun k => spec_l01Gcd.f k (a : Int) (b : Int)) ((Nat.gcd a b : Nat) : Int) := l01Gcd_l (b + 1) a b (by omega)
theorem lcm_form (a b : Nat) : a / Nat.gcd a b * b = Nat.lcm a b := by
  unfold Nat.lcm; rw [Nat.div_mul_right_comm (Nat.gcd_dvd_left a b)]
theorem lcm_le (a b : Nat) : Nat.lcm a b ≤ a * b := by
  unfold Nat.lcm; exact Nat.div_le_self _ _
theorem l01Lcm_ev (a b : Nat) (ha : 0 < a) (h : a * b ≤ 9223372036854775807) (h' : a ≤ 9223372036854775807) : Ev (fun k => spec_l01Lcm.f k (a : Int) (b : Int)) ((Nat.lcm a b : Nat) : Int) := by
  unfold spec_l01Lcm.f
  have hg := Nat.gcd_pos_of_pos_left b ha
  have hd := Nat.div_le_self a (Nat.gcd a b)
  refine Ev.bind (l01Gcd_ev a b) (Ev.neg (by omega) ?_)
  have hl := lcm_le a b
  have hf := lcm_form a b
  have e : (((a / Nat.gcd a b : Nat) : Int)) * (b : Int) = ((Nat.lcm a b : Nat) : Int) := by rw [← hf]; simp
  rw [tdivN, wrapN (n := a / Nat.gcd a b) (Nat.le_trans hd h'), e, wrapN (Nat.le_trans hl h)]
  exact Ev.now _
theorem l01Lowest_ev (a b : Nat) (hb : 0 < b) (h : a ≤ 9223372036854775807) (h' : b ≤ 9223372036854775807) : Ev (fun k => spec_l01Lowest.f k (a : Int) (b : Int)) (((a / Nat.gcd a b : Nat) : Int), ((b / Nat.gcd a b : Nat) : Int)) := by
  unfold spec_l01Lowest.f
  have hg := Nat.gcd_pos_of_pos_right a hb
  have hd := Nat.div_le_self a (Nat.gcd a b)
  have he := Nat.div_le_self b (Nat.gcd a b)
  refine Ev.bind (l01Gcd_ev a b) (Ev.neg (by omega) ?_)
  rw [tdivN, tdivN, wrapN (n := a / Nat.gcd a b) (Nat.le_trans hd h), wrapN (n := b / Nat.gcd a b) (Nat.le_trans he h')]
  exact Ev.now _
def lcmF (a : Nat) : List Int → Nat
  | [] => a
  | p :: l => lcmF (Nat.lcm a p.toNat) l
def Ok60 (l : List Int) : Prop := ∀ p ∈ l, 1 ≤ p ∧ p ≤ 60
theorem lcmF_ge : ∀ (l : List Int) (a : Nat), Ok60 l → 0 < a → a ≤ lcmF a l
  | [], _, _, _ => Nat.le_refl _
  | p :: l, a, h, ha => by
    have hp := h p (by simp)
    have h0 := Nat.lcm_pos ha (show 0 < p.toNat by omega)
    have h1 := Nat.le_of_dvd h0 (Nat.dvd_lcm_left a p.toNat)
    have h2 := lcmF_ge l (Nat.lcm a p.toNat) (fun x hx => h x (by simp [hx])) h0
    unfold lcmF; omega
theorem lcmF_dvd : ∀ (l : List Int) (a : Nat), a ∣ lcmF a l ∧ ∀ p ∈ l, p.toNat ∣ lcmF a l
  | [], a => ⟨Nat.dvd_refl _, by simp⟩
  | p :: l, a => by
    obtain ⟨h1, h2⟩ := lcmF_dvd l (Nat.lcm a p.toNat)
    refine ⟨Nat.dvd_trans (Nat.dvd_lcm_left a _) h1, fun q hq => ?_⟩
    rcases List.mem_cons.mp hq with rfl | hq
    · exact Nat.dvd_trans (Nat.dvd_lcm_right a _) h1
    · exact h2 q hq
theorem dropC (l : List Int) (q : Nat) (h : q < l.length) : l.drop q = rd l q :: l.drop (q + 1) := by
  rw [List.drop_eq_getElem_cons h, rd_get l q h]
theorem multiple_l (l : List Int) (hl : Ok60 l) (h8 : l.length ≤ 8) (d : Nat) : ∀ (i a : Nat), i + d = l.length → 0 < a → a ≤ 60 ^ i → Ev (fun k => impl_Tasks_multiple.l0 k (a : Int) l (l.length : Int) (i : Int)) ((lcmF a (l.drop i) : Nat) : Int) := by
  induction d with
  | zero =>
    intro i a hi ha hb
    refine Ev.step (fun k => by rw [impl_Tasks_multiple.l0]) ?_
    rw [List.drop_of_length_le (by omega), lcmF]
    exact Ev.neg (by omega) (Ev.now _)
  | succ d ih =>
    intro i a hi ha hb
    have hp := hl _ (rd_memP l i (by omega))
    have hb7 : a ≤ 60 ^ 7 := Nat.le_trans hb (Nat.pow_le_pow_right (by omega) (by omega))
    have hm : a * (rd l i).toNat ≤ 60 ^ 7 * 60 := Nat.mul_le_mul hb7 (by omega)
    have hn : a * (rd l i).toNat ≤ 60 ^ i * 60 := Nat.mul_le_mul hb (by omega)
    have hlc := lcm_le a (rd l i).toNat
    have h0 := Nat.lcm_pos ha (show 0 < (rd l i).toNat by omega)
    have hg := Nat.gcd_pos_of_pos_left (rd l i).toNat ha
    have hd := Nat.div_le_self a (Nat.gcd a (rd l i).toNat)
    have hf := lcm_form a (rd l i).toNat
    have hr : rd l i = (((rd l i).toNat : Nat) : Int) := by omega
    refine Ev.step (fun k => by rw [impl_Tasks_multiple.l0]) ?_
    refine Ev.pos (by omega) (Ev.pos (by omega) (Ev.pos (by omega) ?_))
    rw [dropC l i (by omega), lcmF]
    generalize hq : (rd l i).toNat = q at *
    rw [hr]
    refine Ev.bind (divisor_ev a q) (Ev.neg (by omega) ?_)
    have e : (((a / Nat.gcd a q : Nat) : Int)) * (q : Int) = ((Nat.lcm a q : Nat) : Int) := by rw [← hf]; simp
    rw [tdivN, wrapN (n := a / Nat.gcd a q) (Nat.le_trans hd (by omega)), e, wrapN (n := Nat.lcm a q) (by omega), wrap64_id (x := (i : Int) + 1) (by omega) (by omega)]
    exact ih (i + 1) (Nat.lcm a q) (by omega) h0 (by rw [Nat.pow_succ]; omega)
theorem multiple_ev (l : List Int) (hl : Ok60 l) (h8 : l.length ≤ 8) : Ev (fun k => impl_Tasks_multiple.f k l) ((lcmF 1 l : Nat) : Int) := by
  unfold impl_Tasks_multiple.f
  simpa using multiple_l l hl h8 l.length 0 1 (by omega) (by omega) (by simp)
theorem lcmF_le : ∀ (l : List Int) (a : Nat), Ok60 l → lcmF a l ≤ a * 60 ^ l.length
  | [], a, _ => by simp [lcmF]
  | p :: l, a, h => by
    have hp := h p (by simp)
    have h1 := lcmF_le l (Nat.lcm a p.toNat) (fun x hx => h x (by simp [hx]))
    have h2 : Nat.lcm a p.toNat ≤ a * 60 := Nat.le_trans (lcm_le a p.toNat) (Nat.mul_le_mul (Nat.le_refl _) (by omega))
    have h3 := Nat.mul_le_mul h2 (Nat.le_refl (60 ^ l.length))
    have h4 : a * 60 * 60 ^ l.length = a * 60 ^ (l.length + 1) := by rw [Nat.pow_succ, Nat.mul_assoc, Nat.mul_comm 60]
    unfold lcmF
    rw [List.length_cons]
    omega
theorem lowest_same {a b c d : Nat} (hb : 0 < b) (h1 : Nat.Coprime a b) (h2 : Nat.Coprime c d) (h : a * d = c * b) : a = c ∧ b = d := by
  have h3 : b ∣ d := h1.symm.dvd_of_dvd_mul_left (by rw [h]; exact Nat.dvd_mul_left b c)
  have h4 : d ∣ b := h2.symm.dvd_of_dvd_mul_left (by rw [← h]; exact Nat.dvd_mul_left d a)
  have h5 : b = d := Nat.dvd_antisymm h3 h4
  subst h5
  exact ⟨Nat.eq_of_mul_eq_mul_right hb h, rfl⟩
end Go.Proofs.Ytoakdilhljnjfaa.Pure
namespace Go.Proofs.Ytoakdilhljnjfaa.Q
open Go.RowKit Go.Proofs.YtoakdilhljnjfaaW.PrintWords Go.Proofs.YtoakdilhljnjfaaW.PrintLast Go.Proofs.YtoakdilhljnjfaaW.PrintMore
set_option linter.unusedVariables false
set_option linter.unusedSimpArgs false
structure FnOk (F : FuncId) : Prop where
  mk :: (out : ∃ fn, Try.prog.funcs[F]? = some fn ∧ (fn.name == "runtime.NumGoroutine") = false ∧ fn.body.isSome = true)
theorem run_value {oi : Oper} {a : Act} {w : World} {F : FuncId} {cap : Array Value} {x : Operand} {ops_ : Array Operand} {ts : Array TypeId} (hF : FnOk F)
    (args : Array Value) (hop : oi.op = .call { callee := .value x, args := ops_, argTypes := ts }) (hx : a.eval x = .func (.func F) #[] cap) (hargs : ops_.map a.eval = args) :
    (execOp a.eval oi).run Try.prog w = .ok (.enter F (args ++ cap)) w := by
  obtain ⟨fn, h1, h2, h3⟩ := hF.out
  have he := enters_ h1 h2 h3 (args ++ cap) w
  unfold execOp
  simp [hop, resolve, Deferred.ofValue, hx, invoke, hargs, he]
theorem goesV {ops : Array Oper} {Q : Exit → Act → World → Prop} {rest : List Oper} {oi : Oper} {a : Act} {w : World} (N : Option Tmp) (hd : oi.dst = N) (hg : oi.guard = none)
    {F : FuncId} {cap : Array Value} {x : Operand} {ops_ : Array Operand} {ts : Array TypeId} (hF : FnOk F) (args : Array Value)
    (hop : oi.op = .call { callee := .value x, args := ops_, argTypes := ts }) (hx : a.eval x = .func (.func F) #[] cap) (hargs : ops_.map a.eval = args)
    (h : Calls Try.prog F (args ++ cap) w fun e w' => ∃ v, e = .returned v ∧ wpList Try.prog ops Q rest (a.put N v) w') : wpList Try.prog ops Q (oi :: rest) a w := by
  refine wpList_plain hg fun K hK => ?_
  unfold Oper.wp
  rw [run_value hF args hop hx hargs, Oper.upon_enter]
  refine h.mono fun e w'' hh => ?_
  obtain ⟨v, rfl, hk⟩ := hh
  subst hd
  exact hK _ _ hk
structure Tells (w0 : World) (F : FuncId) (cap : Array Value) (l : List Int) (p : Int → Bool) : Prop where
  mk :: (ok : FnOk F) (out : ∀ x, x ∈ l → ∀ W, Below w0.heap.size w0 W → Calls Try.prog F (#[.int .i64 x] ++ cap) W fun e W' => e = .returned (.bool (p x)) ∧ Below W.heap.size W W')
def findIdx (p : Int → Bool) : List Int → Int → Int
  | [], _ => -1
  | x :: l, i => if p x then i else findIdx p l (i + 1)
theorem findIdx_neg (p : Int → Bool) : ∀ (l : List Int) (i : Int), 0 ≤ i → (findIdx p l i ≥ 0 ↔ l.any p = true)
  | [], i, h => by simp [findIdx]
  | x :: l, i, h => by
    unfold findIdx
    by_cases hp : p x = true
    · simp [hp, h]
    · have := findIdx_neg p l (i + 1) (by omega)
      simp [hp, this]
theorem findIdx_drop (p : Int → Bool) (l : List Int) (k : Nat) (h : k < l.length) (i : Int) : findIdx p (l.drop k) i = if p (rd l k) then i else findIdx p (l.drop (k + 1)) (i + 1) := by
  rw [List.drop_eq_getElem_cons h]
  simp [findIdx, rd, List.getElem?_eq_getElem h]
theorem below_more {w0 W W' : World} (h : Below w0.heap.size w0 W) (h' : Below W.heap.size W W') : Below w0.heap.size w0 W' := h.trans (h'.mono h.size)
theorem ret_int {k : IntKind} {a b : Int} (h : a = b) : Ending.returned (.int k a) = .returned (.int k b) := by rw [h]
theorem ret_bool {a b : Bool} (h : a = b) : Ending.returned (.bool a) = .returned (.bool b) := by rw [h]
theorem rd_mem (l : List Int) (k : Nat) (h : k < l.length) : rd l k ∈ l := by
  simp [rd, List.getElem?_eq_getElem h]
end Go.Proofs.Ytoakdilhljnjfaa.Q
namespace Go.Proofs.Ytoakdilhljnjfaa.Q
open Go.RowKit Go.Proofs.YtoakdilhljnjfaaW.PrintWords Go.Proofs.YtoakdilhljnjfaaW.PrintLast Go.Proofs.YtoakdilhljnjfaaW.PrintMore
set_option linter.unusedVariables false
set_option linter.unusedSimpArgs false
set_option maxHeartbeats 800000 in
set_option maxRecDepth 100000 in
theorem IndexFunc.any (F : FuncId) (cap : Array Value) (p : Int → Bool) (A0 : Option Addr) (c0 : Nat) (l0 : List Int) (w0 w : World) (hB : Below w0.heap.size w0 w)
    (hr : Kd.C (Kd.int .i64) w0 A0 l0.length l0) (hl : l0.length ≤ maxLen) (hf : Tells w0 F cap l0 p) :
    Calls Try.prog 124 #[.slice A0 l0.length c0, .func (.func F) #[] cap] w fun e w' => e = .returned (.int .i64 (findIdx p l0 0)) ∧ Below w0.heap.size w0 w' := by
  have HR := Aside0.mk hr
  have HF := Aside0.mk hf
  have HB0 := Aside0.mk hB
  unfold maxLen at hl
  clear hr hf hB
  go_enter Try.func124, Try.ntmps124
  go_wp2
  go_loopw [8] (fun v wr => ∃ k : Nat, k ≤ l0.length ∧ v = .int .i64 k ∧ Aside0 (findIdx p (l0.drop k) k = findIdx p l0 0) ∧ Aside0 (Below w0.heap.size w0 wr)) (fun v _ => l0.length - (intOf v).toNat)
  case atStart => exact ⟨0, Nat.zero_le _, rfl, ⟨rfl⟩, HB0⟩
  case round =>
    clear HB0
    obtain ⟨k, hk, rfl, HE, HB⟩ := hrel
    by_cases hlt : k < l0.length
    · have hd := Aside0.mk (findIdx_drop p l0 k hlt k)
      obtain ⟨ad, rfl, hx⟩ := Kd.at_int HR.out (k : Int) (by omega) (by omega)
      have hm := Aside0.mk (rd_mem l0 k hlt)
      replace hx := (HB.out.cell (World.block_lt_of_cell? w0 _ hx)).trans hx
      rw [Int.toNat_natCast] at hx
      by_cases hp : p (rd l0 k) = true
      · have hres := Aside0.mk (HE.out.symm.trans (hd.out.trans (if_pos hp)))
        have hc := Aside0.mk (HF.out.out (rd l0 k) hm.out _ HB.out)
        rw [hp] at hc
        clear hp
        go_wp2_with (refine goesV (some 16) rfl rfl HF.out.ok #[.int .i64 (rd l0 k)] rfl rfl (by (try simp only [List.map_toArray, List.map_cons, List.map_nil]); first | done | rfl) ?_; refine hc.out.mono ?_; rintro e w' ⟨rfl, hb⟩; have HB' := Aside0.mk (below_more HB.out hb); clear hb; refine ⟨_, rfl, ?_⟩)
        go_ret
        exact ⟨ret_int hres.out.symm, HB'.out⟩
      · have hp' : p (rd l0 k) = false := by simpa using hp
        have hres := Aside0.mk (HE.out.symm.trans (hd.out.trans (if_neg hp)))
        have hc := Aside0.mk (HF.out.out (rd l0 k) hm.out _ HB.out)
        rw [hp'] at hc
        clear hp hp'
        go_wp2_with (refine goesV (some 16) rfl rfl HF.out.ok #[.int .i64 (rd l0 k)] rfl rfl (by (try simp only [List.map_toArray, List.map_cons, List.map_nil]); first | done | rfl) ?_; refine hc.out.mono ?_; rintro e w' ⟨rfl, hb⟩; have HB' := Aside0.mk (below_more HB.out hb); clear hb; refine ⟨_, rfl, ?_⟩)
        go_roundw
        case rel => exact ⟨k + 1, by omega, by go_num, ⟨hres.out.symm⟩, HB'⟩
        case measure => simp [intOf]; omega
    · have hres : findIdx p l0 0 = -1 := by rw [← HE.out, List.drop_eq_nil_of_le (by omega)]; rfl
      have Hres := Aside0.mk hres
      clear hres
      have hge : l0.length ≤ k := by omega
      have hge' : decide (k < l0.length) = false := by simpa using hge
      go_wp2
      go_ret
      exact ⟨ret_int Hres.out.symm, HB.out⟩
set_option maxHeartbeats 800000 in
set_option maxRecDepth 100000 in
theorem ContainsFunc.any (F : FuncId) (cap : Array Value) (p : Int → Bool) (A0 : Option Addr) (c0 : Nat) (l0 : List Int) (w0 w : World) (hB : Below w0.heap.size w0 w)
    (hr : Kd.C (Kd.int .i64) w0 A0 l0.length l0) (hl : l0.length ≤ maxLen) (hf : Tells w0 F cap l0 p) :
    Calls Try.prog 112 #[.slice A0 l0.length c0, .func (.func F) #[] cap] w fun e w' => e = .returned (.bool (l0.any p)) ∧ Below w0.heap.size w0 w' := by
  have H := Aside0.mk (IndexFunc.any F cap p A0 c0 l0 w0 w hB hr hl hf)
  have hi := Aside0.mk (findIdx_neg p l0 0 (by omega))
  clear hr hf hB
  have hd : decide (0 ≤ findIdx p l0 0) = l0.any p := by
    have := hi.out
    by_cases h : l0.any p = true
    · rw [h]; exact decide_eq_true (this.2 h)
    · rw [Bool.not_eq_true] at h
      rw [h]; exact decide_eq_false (fun h' => by have := this.1 h'; rw [h] at this; cases this)
  have Hd := Aside0.mk hd
  clear hd
  go_enter Try.func112, Try.ntmps112
  go_wp2_with (go_at_call 124; refine H.out.mono ?_; rintro e w' ⟨rfl, hb⟩; have HB := Aside0.mk hb; clear hb)
  go_ret
  exact ⟨ret_bool Hd.out, HB.out⟩
theorem areAll1.tells (F : FuncId) (cap : Array Value) (p : Int → Bool) (l0 : List Int) (w0 w : World) (hB : Below w0.heap.size w0 w) (hf : Tells w0 F cap l0 p) (b T : Nat) (fz : Nat × Nat)
    (hb : w.heap[b]? = some (.cells #[.func (.func F) #[] cap] T fz)) : Tells w 113 #[.pointer (some ⟨b, 0, none⟩)] l0 (fun x => !p x) := by
  refine ⟨⟨⟨Try.f113, by kernel_rfl, rfl, rfl⟩⟩, fun x hx W hW => ?_⟩
  have HF := Aside0.mk hf
  have HC := Aside0.mk (hf.out x hx W (below_more hB hW))
  have hcell : W.cell? ⟨b, 0, none⟩ = some (.func (.func F) #[] cap) := by
    have hlt : b < w.heap.size := (Array.getElem?_eq_some_iff.1 hb).1
    rw [hW.cell (p := ⟨b, 0, none⟩) hlt]
    simp [World.cell?, hb]
  clear hf hB hW hb
  go_enter Try.func113, Try.ntmps113
  go_wp2_with (refine goesV (some 6) rfl rfl HF.out.ok #[.int .i64 x] rfl rfl (by (try simp only [List.map_toArray, List.map_cons, List.map_nil]); first | done | rfl) ?_; refine HC.out.mono ?_; rintro e w' ⟨rfl, hb⟩; have HB' := Aside0.mk hb; clear hb; refine ⟨_, rfl, ?_⟩)
  go_ret
  exact ⟨rfl, HB'.out⟩
theorem any_not (p : Int → Bool) (l : List Int) : (!l.any fun x => !p x) = l.all p := by
  induction l with
  | nil => rfl
  | cons x l ih => simp only [List.any_cons, List.all_cons, Bool.not_or, Bool.not_not, ih]
set_option maxHeartbeats 800000 in
set_option maxRecDepth 100000 in
theorem areAll.any (F : FuncId) (cap : Array Value) (p : Int → Bool) (A0 : Option Addr) (c0 : Nat) (l0 : List Int) (w : World)
    (hr : Kd.C (Kd.int .i64) w A0 l0.length l0) (hl : l0.length ≤ maxLen) (hf : Tells w F cap l0 p) :
    Calls Try.prog 86 #[.slice A0 l0.length c0, .func (.func F) #[] cap] w fun e w' => e = .returned (.bool (l0.all p)) ∧ Below w.heap.size w w' := by
  have hB1 : Below w.heap.size w (w.alloc (.cells #[.func (.func F) #[] cap] 92 (0, 0))) := (Below.refl _ _).alloc (Nat.le_refl _) _
  have hb1 : (w.alloc (.cells #[.func (.func F) #[] cap] 92 (0, 0))).heap[w.heap.size]? = some (.cells #[.func (.func F) #[] cap] 92 (0, 0)) := Array.getElem?_push_size
  have HT := Aside0.mk (areAll1.tells F cap p l0 w _ hB1 hf w.heap.size 92 (0, 0) hb1)
  have H := Aside0.mk (ContainsFunc.any _ _ _ A0 c0 l0 _ _ (Below.refl _ _) (Kd.C_below hr hB1) hl HT.out)
  have HB1 := Aside0.mk hB1
  have Hn := Aside0.mk (any_not p l0)
  have hmf : ∀ (fn : Fn) (first cap : Array Value) (w : World), (Instr.makeFunc fn first cap).run Try.prog w = .ok (.func fn first cap) w := fun _ _ _ _ => rfl
  clear hr hf hB1 hb1
  go_enter Try.func86, Try.ntmps86
  go_wp2_with (go_at_call 112; refine H.out.mono ?_; rintro e w' ⟨rfl, hb⟩; have HB := Aside0.mk hb; clear hb)
  go_ret
  exact ⟨ret_bool Hn.out, below_more HB1.out HB.out⟩
end Go.Proofs.Ytoakdilhljnjfaa.Q
namespace Go.Proofs.Ytoakdilhljnjfaa.Q
open Go.RowKit Go.Proofs.YtoakdilhljnjfaaW.PrintWords Go.Proofs.YtoakdilhljnjfaaW.PrintLast Go.Proofs.YtoakdilhljnjfaaW.PrintMore
attribute [local go_sem] max2_int min2_int max_two min_two max_three min_three max_four min_four   -- for this text's walks alone
set_option linter.unusedVariables false
set_option linter.unusedSimpArgs false
def impl_within.f (a0 : Int) (a1 : Int) (a2 : Int) : Option (Bool) := if a1 ≤ a0 then (some (decide (a0 ≤ a2))) else (some false)
set_option maxHeartbeats 8000000 in
set_option maxRecDepth 100000 in
theorem impl_within.calls (a0 : Int) (a1 : Int) (a2 : Int) (r : Bool) (w : World) (h : impl_within.f a0 a1 a2 = some r) :
 Calls Try.prog 48 #[.int .i64 a0, .int .i64 a1, .int .i64 a2] w fun e w' => e = .returned (.bool r) ∧ Drawn0 w w' := by
 have H : (if a1 ≤ a0 then (some (decide (a0 ≤ a2))) else (some false)) = some r := h
 clear h
 by_cases c4 : a1 ≤ a0
 · rw [if_pos c4] at H
   have c4b0 : decide (a1 ≤ a0) = true := decide_eq_true c4
   clear c4
   obtain rfl := Option.some.inj H
   go_enter Try.func48, Try.ntmps48
   go_wp2
   go_ret
   exact ⟨by rfl, by exact Drawn0.refl _⟩
 rw [if_neg c4] at H
 have c4b0 : decide (a1 ≤ a0) = false := decide_eq_false c4
 clear c4
 obtain rfl := Option.some.inj H
 go_enter Try.func48, Try.ntmps48
 go_wp2
 go_ret
 exact ⟨by rfl, by exact Drawn0.refl _⟩
end Go.Proofs.Ytoakdilhljnjfaa.Q
namespace Go.Proofs.Ytoakdilhljnjfaa.Q
open Go.RowKit Go.Proofs.YtoakdilhljnjfaaW.PrintWords Go.Proofs.YtoakdilhljnjfaaW.PrintLast Go.Proofs.YtoakdilhljnjfaaW.PrintMore
attribute [local go_sem] max2_int min2_int max_two min_two max_three min_three max_four min_four   -- for this text's walks alone
set_option linter.unusedVariables false
set_option linter.unusedSimpArgs false
def impl_length_int64.f (l0 : List Int) : Option (Int) := some (l0.length : Int)
set_option maxHeartbeats 8000000 in
set_option maxRecDepth 100000 in
theorem impl_length_int64.calls (A0 : Option Addr) (c0 : Nat) (l0 : List Int) (r : Int) (w : World) (hr0 : Kd.C (Kd.int .i64) w A0 l0.length l0) (hc0 : l0.length ≤ c0) (h : impl_length_int64.f l0 = some r) :
 Calls Try.prog 45 #[.slice A0 l0.length c0] w fun e w' => e = .returned (.int .i64 r) ∧ Drawn0 w w' := by
 have HR0 := Aside0.mk hr0
 have HC0 := Aside0.mk hc0
 clear hr0 hc0
 have H : (some (l0.length : Int)) = some r := h
 clear h
 obtain rfl := Option.some.inj H
 go_enter Try.func45, Try.ntmps45
 go_wp2
 go_ret
 exact ⟨by rfl, by exact Drawn0.refl _⟩
end Go.Proofs.Ytoakdilhljnjfaa.Q
namespace Go.Proofs.Ytoakdilhljnjfaa.Q
open Go.RowKit Go.Proofs.YtoakdilhljnjfaaW.PrintWords Go.Proofs.YtoakdilhljnjfaaW.PrintLast Go.Proofs.YtoakdilhljnjfaaW.PrintMore
set_option linter.unusedVariables false
set_option linter.unusedSimpArgs false
def isIn (lo hi x : Int) : Bool := decide (lo ≤ x ∧ x ≤ hi)
theorem within_isIn (x lo hi : Int) : impl_within.f x lo hi = some (isIn lo hi x) := by
  unfold impl_within.f isIn
  by_cases h : lo ≤ x <;> simp [h]
theorem areWeights1.tells (l0 : List Int) (w : World) : Tells w 87 #[] l0 (isIn 0 100) := by
  refine ⟨⟨⟨Try.f87, by kernel_rfl, rfl, rfl⟩⟩, fun x hx W hW => ?_⟩
  have H := Aside0.mk (impl_within.calls x 0 100 _ W (within_isIn x 0 100))
  go_enter Try.func87, Try.ntmps87
  go_wp2_with (go_at_call 48; refine H.out.mono ?_; rintro e w' ⟨rfl, ⟨nd, rfl⟩⟩)
  go_ret
  exact ⟨rfl, pw_below_drewN (Below.refl _ _) _⟩
end Go.Proofs.Ytoakdilhljnjfaa.Q
namespace Go.Proofs.Ytoakdilhljnjfaa.Q
open Go.RowKit Go.Proofs.YtoakdilhljnjfaaW.PrintWords Go.Proofs.YtoakdilhljnjfaaW.PrintLast Go.Proofs.YtoakdilhljnjfaaW.PrintMore
attribute [local go_sem] max2_int min2_int max_two min_two max_three min_three max_four min_four   -- for this text's walks alone
set_option linter.unusedVariables false
set_option linter.unusedSimpArgs false
def spec_l01In.f (a0 : Int) (a1 : Int) (a2 : Int) : Option (Bool) := if a0 ≥ a1 then (some (decide (a0 ≤ a2))) else (some false)
set_option maxHeartbeats 8000000 in
set_option maxRecDepth 100000 in
theorem spec_l01In.calls (a0 : Int) (a1 : Int) (a2 : Int) (r : Bool) (w : World) (h : spec_l01In.f a0 a1 a2 = some r) :
 Calls Try.prog 43 #[.int .i64 a0, .int .i64 a1, .int .i64 a2] w fun e w' => e = .returned (.bool r) ∧ Drawn0 w w' := by
 have H : (if a0 ≥ a1 then (some (decide (a0 ≤ a2))) else (some false)) = some r := h
 clear h
 by_cases c4 : a0 ≥ a1
 · rw [if_pos c4] at H
   have c4b0 : decide (a1 ≤ a0) = true := decide_eq_true c4
   clear c4
   obtain rfl := Option.some.inj H
   go_enter Try.func43, Try.ntmps43
   go_wp2
   go_ret
   exact ⟨by rfl, by exact Drawn0.refl _⟩
 rw [if_neg c4] at H
 have c4b0 : decide (a1 ≤ a0) = false := decide_eq_false c4
 clear c4
 obtain rfl := Option.some.inj H
 go_enter Try.func43, Try.ntmps43
 go_wp2
 go_ret
 exact ⟨by rfl, by exact Drawn0.refl _⟩
end Go.Proofs.Ytoakdilhljnjfaa.Q
namespace Go.Proofs.Ytoakdilhljnjfaa.Q
open Go.RowKit Go.Proofs.YtoakdilhljnjfaaW.PrintWords Go.Proofs.YtoakdilhljnjfaaW.PrintLast Go.Proofs.YtoakdilhljnjfaaW.PrintMore
attribute [local go_sem] max2_int min2_int max_two min_two max_three min_three max_four min_four   -- for this text's walks alone
set_option linter.unusedVariables false
set_option linter.unusedSimpArgs false
abbrev bQ55_0 : Array Bool := #[false, false, false, false, false, false, false, false, false, false, false, false, false, false, false, false, false, false, false, false, false, false, false, false, false, false, false, false, false, false]
abbrev bQ55_1 : Array Bool := #[true, false, false, false, false, false, false, false, false, false, false, false, false, false, false, false, false, false, false, false, false, false, false, false, false, false, false, false, false, false]
abbrev bQ55_2 : Array Bool := #[true, false, true, false, false, false, false, false, false, false, false, false, false, false, false, false, false, false, false, false, false, false, false, false, false, false, false, false, false, false]
abbrev bQ55_3 : Array Bool := #[true, true, true, false, false, false, false, false, false, false, false, false, false, false, false, false, false, false, false, false, false, false, false, false, false, false, false, false, false, false]
abbrev bQ55_4 : Array Bool := #[true, true, true, true, false, false, false, false, false, false, false, false, false, false, false, false, false, false, false, false, false, false, false, false, false, false, false, false, false, false]
abbrev bQ55_5 : Array Bool := #[true, true, true, true, true, false, false, false, false, false, false, false, false, false, false, false, false, false, false, false, false, false, false, false, false, false, false, false, false, false]
abbrev bQ55_6 : Array Bool := #[true, true, true, true, true, true, false, false, false, false, false, false, false, false, false, false, false, false, false, false, false, false, false, false, false, false, false, false, false, false]
abbrev bQ55_7 : Array Bool := #[true, true, true, true, true, true, true, false, false, false, false, false, false, false, false, false, false, false, false, false, false, false, false, false, false, false, false, false, false, false]
abbrev bQ55_8 : Array Bool := #[true, true, true, true, true, true, true, true, false, false, false, false, false, false, false, false, false, false, false, false, false, false, false, false, false, false, false, false, false, false]
abbrev bQ55_9 : Array Bool := #[true, true, true, true, true, true, true, true, true, false, false, false, false, false, false, false, false, false, false, false, false, false, false, false, false, false, false, false, false, false]
abbrev bQ55_10 : Array Bool := #[true, true, true, true, true, true, true, true, true, true, false, false, false, false, false, false, false, false, false, false, false, false, false, false, false, false, false, false, false, false]
abbrev bQ55_11 : Array Bool := #[true, true, true, true, true, true, true, true, true, true, true, false, false, false, false, false, false, false, false, false, false, false, false, false, false, false, false, false, false, false]
abbrev bQ55_12 : Array Bool := #[true, true, true, true, true, true, true, true, true, true, true, true, false, false, false, false, false, false, false, false, false, false, false, false, false, false, false, false, false, false]
abbrev bQ55_13 : Array Bool := #[true, true, true, true, true, true, true, true, true, true, true, true, true, false, false, false, false, false, false, false, false, false, false, false, false, false, false, false, false, false]
abbrev bQ55_14 : Array Bool := #[true, true, true, true, true, true, true, true, true, true, true, true, true, true, false, false, false, false, false, false, false, false, false, false, false, false, false, false, false, false]
abbrev bQ55_15 : Array Bool := #[true, true, true, true, true, true, true, true, true, true, true, true, true, true, true, false, false, false, false, false, false, false, false, false, false, false, false, false, false, false]
abbrev bQ55_16 : Array Bool := #[true, true, true, true, true, true, true, true, true, true, true, true, true, true, true, true, false, false, false, false, false, false, false, false, false, false, false, false, false, false]
abbrev bQ55_17 : Array Bool := #[true, true, true, true, true, true, true, true, true, true, true, true, true, true, true, true, true, false, false, false, false, false, false, false, false, false, false, false, false, false]
abbrev bQ55_18 : Array Bool := #[true, true, true, true, true, true, true, true, true, true, true, true, true, true, true, true, true, true, false, false, false, false, false, false, false, false, false, false, false, false]
abbrev bQ55_19 : Array Bool := #[true, true, true, true, true, true, true, true, true, true, true, true, true, true, true, true, true, true, true, false, false, false, false, false, false, false, false, false, false, false]
abbrev bQ55_20 : Array Bool := #[true, true, true, true, true, true, true, true, true, true, true, true, true, true, true, true, true, true, true, true, false, false, false, false, false, false, false, false, false, false]
abbrev bQ55_21 : Array Bool := #[true, true, true, true, true, true, true, true, true, true, true, true, true, true, true, true, true, true, true, true, true, false, false, false, false, false, false, false, false, false]
abbrev bQ55_22 : Array Bool := #[true, true, true, true, true, true, true, true, true, true, true, true, true, true, true, true, true, true, true, true, true, true, false, false, false, false, false, false, false, false]
abbrev bQ55_23 : Array Bool := #[true, true, true, true, true, true, true, true, true, true, true, true, true, true, true, true, true, true, true, true, true, true, true, false, false, false, false, false, false, false]
abbrev bQ55_24 : Array Bool := #[true, true, true, true, true, true, true, true, true, true, true, true, true, true, true, true, true, true, true, true, true, true, true, true, false, false, false, false, false, false]
abbrev bQ55_25 : Array Bool := #[true, true, true, true, true, true, true, true, true, true, true, true, true, true, true, true, true, true, true, true, true, true, true, true, true, false, false, false, false, false]
abbrev bQ55_26 : Array Bool := #[true, true, true, true, true, true, true, true, true, true, true, true, true, true, true, true, true, true, true, true, true, true, true, true, true, true, false, false, false, false]
abbrev bQ55_27 : Array Bool := #[true, true, true, true, true, true, true, true, true, true, true, true, true, true, true, true, true, true, true, true, true, true, true, true, true, true, true, false, false, false]
abbrev bQ55_28 : Array Bool := #[true, true, true, true, true, true, true, true, true, true, true, true, true, true, true, true, true, true, true, true, true, true, true, true, true, true, true, true, false, false]
abbrev bQ55_29 : Array Bool := #[true, true, true, true, true, true, true, true, true, true, true, true, true, true, true, true, true, true, true, true, true, true, true, true, true, true, true, true, true, false]
abbrev bQ55_30 : Array Bool := #[true, true, true, true, true, true, true, true, true, true, true, true, true, true, true, true, true, true, true, true, true, true, true, true, true, true, true, true, true, true]
abbrev bQ55_31 : Array Bool := #[true, true, true, true, true, true, true, true, true, false, true, false, false, false, false, false, false, false, false, false, false, false, false, false, false, false, false, false, false, false]
abbrev bQ55_32 : Array Bool := #[true, true, true, true, true, true, true, true, true, true, true, true, true, true, true, true, true, true, false, true, false, false, false, false, false, false, false, false, false, false]
abbrev bQ55_33 : Array Bool := #[true, true, true, true, true, true, true, true, true, true, true, true, true, true, true, true, true, true, false, true, false, false, true, false, false, false, false, false, false, false]
abbrev bQ55_34 : Array Bool := #[true, true, true, true, true, true, true, true, true, true, true, true, true, true, true, true, true, true, false, true, false, false, true, false, true, false, false, false, false, false]
abbrev bQ55_35 : Array Bool := #[true, true, true, true, true, true, true, true, true, true, true, true, true, true, true, true, true, true, true, true, false, false, true, false, true, false, false, false, false, false]
abbrev bQ55_36 : Array Bool := #[true, true, true, true, true, true, true, true, true, true, true, true, true, true, true, true, true, true, true, true, true, false, true, false, true, false, false, false, false, false]
abbrev bQ55_37 : Array Bool := #[true, true, true, true, true, true, true, true, true, true, true, true, true, true, true, true, true, true, true, true, true, true, true, false, true, false, false, false, false, false]
mutual
def spec_l04Is.j0 : Nat → Int → Bool → List Int → List Int → List Int → Option (Bool)
 | 0, _, _, _, _, _ => none
 | k + 1, x3, x27, x382000, x382001, x382002 => if x27 = true then (some false) else (spec_l04Is.l0 k x3 0 x382000 x382001 x382002)
def spec_l04Is.l0 : Nat → Int → Int → List Int → List Int → List Int → Option (Bool)
 | 0, _, _, _, _, _ => none
 | k + 1, x3, x4, x382000, x382001, x382002 => if x4 < x3 then (if 0 ≤ x4 then (if x4 < (x382000.length : Int) then ((spec_l01In.f (rd x382000 x4) 1 20).bind fun t383 => (if t383 = true then (if x4 < (x382001.length : Int) then ((spec_l01In.f (rd x382001 x4) 1 60).bind fun t385 => (if t385 = true then (if x4 < (x382002.length : Int) then ((spec_l01In.f (rd x382002 x4) 1 (rd x382001 x4)).bind fun t388 => (if t388 = true then (spec_l04Is.l0 k x3 (wrap64 (x4 + 1)) x382000 x382001 x382002) else (some false))) else (none)) else (some false))) else (none)) else (some false))) else (none)) else (none)) else (some true)
end
def spec_l04Is.f (k : Nat) (l0_0 : List Int) (l0_1 : List Int) (l0_2 : List Int) : Option (Bool) := if (l0_0.length : Int) < 1 then (spec_l04Is.j0 k (l0_0.length : Int) true l0_0 l0_1 l0_2) else (if (l0_0.length : Int) > 8 then (spec_l04Is.j0 k (l0_0.length : Int) true l0_0 l0_1 l0_2) else (if (l0_1.length : Int) = (l0_0.length : Int) then (spec_l04Is.j0 k (l0_0.length : Int) ((l0_2.length : Int) != (l0_0.length : Int)) l0_0 l0_1 l0_2) else (spec_l04Is.j0 k (l0_0.length : Int) true l0_0 l0_1 l0_2)))
def spec_l04Is.T7 : Bool × List (List Nat × List Nat) := (true, [([], []), ([0], [0]), ([], []), ([1, 2], [1, 2]), ([3], [3]), ([4], [4]), ([5], [5]), ([6, 5], [6]), ([7], [7]), ([8, 7], [7, 8]), ([7], [7]), ([9, 10, 7], [7, 9, 10]), ([11, 7], [7, 11]), ([12, 7, 7], [7, 12]), ([13, 7], [7, 13]), ([7, 14], [7, 14]), ([15, 13], [15]), ([16], [16]), ([17, 16], [16, 17]), ([16], [16]), ([18, 19, 16], [16, 18, 19]), ([20, 16], [16, 20]), ([16], [16]), ([22, 16], [16, 22]), ([16], [16]), ([23, 24, 16], [16, 23, 24]), ([25, 16], [16, 25]), ([21, 26, 16, 16], [16, 21, 26]), ([27, 16], [16, 27]), ([16, 28], [16, 28])])
def spec_l04Is.B7 : List Nat := [0, 1, 0, 7, 15, 31, 63, 127, 255, 511, 255, 2047, 4095, 8191, 16383, 32767, 65535, 131071, 262143, 131071, 1048575, 2097151, 131071, 4325375, 131071, 29491199, 63045631, 134217727, 268435455, 536870911]
theorem spec_l04Is.tab7 : rtab .any (opsOf Try.f55 7) = spec_l04Is.T7 := by kernel_rfl
theorem spec_l04Is.bits7 : waitsOk spec_l04Is.T7.2 spec_l04Is.B7 = true := by kernel_rfl
set_option maxHeartbeats 8000000 in
set_option maxRecDepth 100000 in
theorem spec_l04Is.calls (k : Nat) (A0_0 : Option Addr) (c0_0 : Nat) (l0_0 : List Int) (A0_1 : Option Addr) (c0_1 : Nat) (l0_1 : List Int) (A0_2 : Option Addr) (c0_2 : Nat) (l0_2 : List Int) (r : Bool) (w : World) (hr0_0 : Kd.C (Kd.int .i64) w A0_0 l0_0.length l0_0) (hc0_0 : l0_0.length ≤ c0_0) (hr0_1 : Kd.C (Kd.int .i64) w A0_1 l0_1.length l0_1) (hc0_1 : l0_1.length ≤ c0_1) (hr0_2 : Kd.C (Kd.int .i64) w A0_2 l0_2.length l0_2) (hc0_2 : l0_2.length ≤ c0_2) (h : spec_l04Is.f k l0_0 l0_1 l0_2 = some r) :
 Calls Try.prog 55 #[.agg #[.slice A0_0 l0_0.length c0_0, .slice A0_1 l0_1.length c0_1, .slice A0_2 l0_2.length c0_2]] w fun e w' => e = .returned (.bool r) ∧ Below w.heap.size w w' := by
 have hu33 := Try.underlying33
 have HR0_0 := Aside0.mk hr0_0
 have HC0_0 := Aside0.mk hc0_0
 clear hr0_0 hc0_0
 have HR0_1 := Aside0.mk hr0_1
 have HC0_1 := Aside0.mk hc0_1
 clear hr0_1 hc0_1
 have HR0_2 := Aside0.mk hr0_2
 have HC0_2 := Aside0.mk hc0_2
 clear hr0_2 hc0_2
 have HB := Aside0.mk (Below.refl w.heap.size w)
 have H : (if (l0_0.length : Int) < 1 then (spec_l04Is.j0 k (l0_0.length : Int) true l0_0 l0_1 l0_2) else (if (l0_0.length : Int) > 8 then (spec_l04Is.j0 k (l0_0.length : Int) true l0_0 l0_1 l0_2) else (if (l0_1.length : Int) = (l0_0.length : Int) then (spec_l04Is.j0 k (l0_0.length : Int) ((l0_2.length : Int) != (l0_0.length : Int)) l0_0 l0_1 l0_2) else (spec_l04Is.j0 k (l0_0.length : Int) true l0_0 l0_1 l0_2)))) = some r := h
 clear h
 have HC2 := Aside0.mk H
 clear H
 go_enter Try.func55, Try.ntmps55
 go_upto_region 2 with (((with_reducible refine gate_dst (N := 1) rfl ?_); (try (refine gate_guard (by rfl) ?_; dsimp only)); refine box_event ?hg (N := 1) ?hd (cs := #[.slice A0_0 l0_0.length c0_0, .slice A0_1 l0_1.length c0_1, .slice A0_2 l0_2.length c0_2]) (t := 33) ?hr ?_; (case hd => rfl); (case hg => rfl); (case hr => (go_simp; done)); intro gb381 hg w3 hbox hb; have n0_ := Aside0.mk (below_step HB.out hb); have n1_ := Aside0.mk (hbox); have n2_ := Aside0.mk ((by rw [hg]; exact (below_size HB.out) : w.heap.size ≤ gb381)); have n3_ := Aside0.mk ((by rw [hg]; exact (below_size HB.out) : w.heap.size ≤ gb381)); clear HB; have HB := n0_; have BK381 := n1_; have GW381 := n2_; have GE381 := n3_; clear n0_ n1_ n2_ n3_; clear hb hbox hg; have hcz4_0 : w3.cell? ⟨gb381, 0, none⟩ = some (.slice A0_0 l0_0.length c0_0) := (blk_cell BK381.out 0).trans rfl; have hcz4_1 : w3.cell? ⟨gb381, 1, none⟩ = some (.slice A0_1 l0_1.length c0_1) := (blk_cell BK381.out 1).trans rfl; have hcz4_2 : w3.cell? ⟨gb381, 2, none⟩ = some (.slice A0_2 l0_2.length c0_2) := (blk_cell BK381.out 2).trans rfl; have hfz4_0 := blk_frozen BK381.out 0; have hfz4_1 := blk_frozen BK381.out 1; have hfz4_2 := blk_frozen BK381.out 2))
 (try simp only [Act.put, List.setIfInBounds_toArray, List.set_cons_zero, List.set_cons_succ])
 go_cut [27] (fun v27 wc => ∃ (kq : Nat) (x27_1 : Bool), v27 = .bool x27_1 ∧ Aside0 (spec_l04Is.j0 kq (l0_0.length : Int) x27_1 l0_0 l0_1 l0_2 = some r) ∧ Aside0 (kq ≤ k) ∧ Aside0 (wc.heap[gb381]? = some (.cells #[(.slice A0_0 l0_0.length c0_0), (.slice A0_1 l0_1.length c0_1), (.slice A0_2 l0_2.length c0_2)] 33 (0, 0))) ∧ Aside0 (Below w.heap.size w wc))
 case first =>
  have H := HC2.out
  clear HC2
  by_cases c5 : (l0_0.length : Int) < 1
  · rw [if_pos c5] at H
    have c5b0 : decide ((l0_0.length : Int) < 1) = true := decide_eq_true c5
    have c5b1 : decide (l0_0.length < 1) = true := decide_eq_true (by omega)
    clear c5
    (skip)
    have H' := Aside0.mk H
    clear H
    go_wp2
    go_meet
    case rel => exact ⟨_, (true), (by rfl), H', ⟨by omega⟩, ⟨by exact BK381.out⟩, ⟨by exact HB.out⟩⟩
  rw [if_neg c5] at H
  have c5b0 : decide ((l0_0.length : Int) < 1) = false := decide_eq_false c5
  have c5b1 : decide (l0_0.length < 1) = false := decide_eq_false (by omega)
  clear c5
  (skip)
  by_cases c6 : (l0_0.length : Int) > 8
  · rw [if_pos c6] at H
    have c6b0 : decide (8 < (l0_0.length : Int)) = true := decide_eq_true c6
    have c6b1 : decide (8 < l0_0.length) = true := decide_eq_true (by omega)
    clear c6
    have H' := Aside0.mk H
    clear H
    go_wp2
    go_meet
    case rel => exact ⟨_, (true), (by rfl), H', ⟨by omega⟩, ⟨by exact BK381.out⟩, ⟨by exact HB.out⟩⟩
  rw [if_neg c6] at H
  have c6b0 : decide (8 < (l0_0.length : Int)) = false := decide_eq_false c6
  have c6b1 : decide (8 < l0_0.length) = false := decide_eq_false (by omega)
  clear c6
  by_cases c7 : (l0_1.length : Int) = (l0_0.length : Int)
  rotate_left
  · rw [if_neg c7] at H
    have c7b0 : ((l0_1.length : Int) == (l0_0.length : Int)) = false := beq_eq_false_iff_ne.mpr c7
    have c7b1 : ((l0_1.length : Int) != (l0_0.length : Int)) = true := bne_iff_ne.mpr c7
    have c7b2 : (l0_1.length == l0_0.length) = false := by (simp at c7 ⊢; omega)
    have H' := Aside0.mk H
    clear H
    have hcz9_0 : w3.cell? ⟨gb381, 0, none⟩ = some (.slice A0_0 l0_0.length c0_0) := (blk_cell BK381.out 0).trans rfl
    have hcz9_1 : w3.cell? ⟨gb381, 1, none⟩ = some (.slice A0_1 l0_1.length c0_1) := (blk_cell BK381.out 1).trans rfl
    have hcz9_2 : w3.cell? ⟨gb381, 2, none⟩ = some (.slice A0_2 l0_2.length c0_2) := (blk_cell BK381.out 2).trans rfl
    have hfz9_0 := blk_frozen BK381.out 0
    have hfz9_1 := blk_frozen BK381.out 1
    have hfz9_2 := blk_frozen BK381.out 2
    go_wp2
    go_meet
    case rel => exact ⟨_, (true), (by rfl), H', ⟨by omega⟩, ⟨by exact BK381.out⟩, ⟨by exact HB.out⟩⟩
  rw [if_pos c7] at H
  have c7b0 : ((l0_1.length : Int) == (l0_0.length : Int)) = true := beq_iff_eq.mpr c7
  have c7b1 : ((l0_1.length : Int) != (l0_0.length : Int)) = false := bne_eq_false_iff_eq.mpr c7
  have c7b2 : (l0_1.length == l0_0.length) = true := by (simp at c7 ⊢; omega)
  clear c7
  have H' := Aside0.mk H
  clear H
  have hcz8_0 : w3.cell? ⟨gb381, 0, none⟩ = some (.slice A0_0 l0_0.length c0_0) := (blk_cell BK381.out 0).trans rfl
  have hcz8_1 : w3.cell? ⟨gb381, 1, none⟩ = some (.slice A0_1 l0_1.length c0_1) := (blk_cell BK381.out 1).trans rfl
  have hcz8_2 : w3.cell? ⟨gb381, 2, none⟩ = some (.slice A0_2 l0_2.length c0_2) := (blk_cell BK381.out 2).trans rfl
  have hfz8_0 := blk_frozen BK381.out 0
  have hfz8_1 := blk_frozen BK381.out 1
  have hfz8_2 := blk_frozen BK381.out 2
  go_wp2
  go_meet
  case rel => exact ⟨_, (((l0_2.length : Int) != (l0_0.length : Int))), (by rfl), H', ⟨by omega⟩, ⟨by exact BK381.out⟩, ⟨by exact HB.out⟩⟩
 clear HC2
 clear hcz4_0 hcz4_1 hcz4_2 hfz4_0 hfz4_1 hfz4_2
 obtain ⟨kq, x27_1, rfl, HA, HJ1, BK381, HB⟩ := hcut
 cases kq with
 | zero => exact absurd HA.out (by simp [spec_l04Is.j0])
 | succ kj1 =>
  have H := HA.out
  clear HA
  simp only [spec_l04Is.j0] at H
  by_cases c10 : x27_1 = true
  · subst c10
    have H1 : (some false) = some r := by rw [if_pos rfl] at H; exact H
    clear H
    have H := H1
    clear H1
    obtain rfl := Option.some.inj H
    go_wp2
    go_ret
    exact ⟨by rfl, by exact HB.out⟩
  replace c10 := Bool.eq_false_iff.mpr c10
  subst c10
  have H1 : (spec_l04Is.l0 kj1 (l0_0.length : Int) 0 l0_0 l0_1 l0_2) = some r := by rw [if_neg (show ¬ (false = true) by decide)] at H; exact H
  clear H
  have H := H1
  clear H1
  have H' := Aside0.mk H
  clear H
  go_wp2
  go_loopg [4] kj1 (fun kq v4 w' => ∃ (x4_2 : Int), v4 = .int .i64 x4_2 ∧ Aside0 (spec_l04Is.l0 kq (l0_0.length : Int) x4_2 l0_0 l0_1 l0_2 = some r) ∧ Aside0 (kq ≤ kj1) ∧ Aside0 (w'.heap[gb381]? = some (.cells #[(.slice A0_0 l0_0.length c0_0), (.slice A0_1 l0_1.length c0_1), (.slice A0_2 l0_2.length c0_2)] 33 (0, 0))) ∧ Aside0 (Below w.heap.size w w'))
  case atStart => exact ⟨(0), (by rfl), H', ⟨Nat.le_refl _⟩, ⟨by exact BK381.out⟩, ⟨by exact HB.out⟩⟩
  clear H'
  obtain ⟨x4_2, rfl, HA, HK2, BK381, HB⟩ := hrel
  cases gk with
  | zero => exact absurd HA.out (by simp [spec_l04Is.l0])
  | succ k2 =>
   have H := HA.out
   clear HA
   simp only [spec_l04Is.l0] at H
   by_cases c11 : x4_2 < (l0_0.length : Int)
   rotate_left
   · rw [if_neg c11] at H
     have c11b0 : decide (x4_2 < (l0_0.length : Int)) = false := decide_eq_false c11
     clear c11
     obtain rfl := Option.some.inj H
     go_wp2
     go_ret
     exact ⟨by rfl, by exact HB.out⟩
   rw [if_pos c11] at H
   have c11b0 : decide (x4_2 < (l0_0.length : Int)) = true := decide_eq_true c11
   clear c11
   by_cases c12 : 0 ≤ x4_2
   rotate_left
   · rw [if_neg c12] at H
     exact absurd H (by simp)
   rw [if_pos c12] at H
   have c12b0 : decide (0 ≤ x4_2) = true := decide_eq_true c12
   clear c12
   by_cases c13 : x4_2 < (l0_0.length : Int)
   rotate_left
   · rw [if_neg c13] at H
     exact absurd H (by simp)
   rw [if_pos c13] at H
   have c13b0 : decide (x4_2 < (l0_0.length : Int)) = true := decide_eq_true c13
   clear c13
   replace H := Option.bind_eq_some_iff.mp H
   obtain ⟨t383, A140, H⟩ := H
   replace H : (if t383 = true then (if x4_2 < (l0_1.length : Int) then ((spec_l01In.f (rd l0_1 x4_2) 1 60).bind fun t385 => (if t385 = true then (if x4_2 < (l0_2.length : Int) then ((spec_l01In.f (rd l0_2 x4_2) 1 (rd l0_1 x4_2)).bind fun t388 => (if t388 = true then (spec_l04Is.l0 k2 (l0_0.length : Int) (wrap64 (x4_2 + 1)) l0_0 l0_1 l0_2) else (some false))) else (none)) else (some false))) else (none)) else (some false)) = some r := H
   have A14 := Aside0.mk A140
   clear A140
   by_cases c15 : t383 = true
   rotate_left
   · replace c15 := Bool.eq_false_iff.mpr c15
     subst c15
     have H1 : (some false) = some r := by rw [if_neg (show ¬ (false = true) by decide)] at H; exact H
     clear H
     have H := H1
     clear H1
     obtain rfl := Option.some.inj H
     try go_wp2
     have n0_ := Aside0.mk (blk_drew BK381.out)
     have n1_ := Aside0.mk (below_drew1 HB.out)
     clear BK381
     clear HB
     have BK381 := n0_
     have HB := n1_
     clear n0_ n1_
     have p382 : 0 ≤ (x4_2 : Int) := of_decide_eq_true (by (with_reducible assumption))
     have q382 : x4_2 < (l0_0.length : Int) := of_decide_eq_true (by (with_reducible assumption))
     obtain ⟨ad382, e382, hx382_0⟩ := Kd.at_int HR0_0.out x4_2 p382 q382
     have hw382_0 := hx382_0
     cases e382
     replace hx382_0 := (HB.out.cell (World.block_lt_of_cell? w _ hx382_0)).trans hx382_0
     replace p382 := eq_true p382
     replace q382 := eq_true q382
     refine start_ (n := 30) (S := fun w' => w'.cell? ⟨gb381, 0, none⟩ = some (.slice (some ad382) l0_0.length c0_0) ∧ w'.cell? ⟨gb381, 1, none⟩ = some (.slice A0_1 l0_1.length c0_1) ∧ w'.cell? ⟨gb381, 2, none⟩ = some (.slice A0_2 l0_2.length c0_2) ∧ w'.cell? (ad382.add (x4_2).toNat) = some (.int .i64 (rd l0_0 x4_2))) (ds := []) bQ55_0 (by kernel_rfl) rfl rfl ⟨(blk_cell BK381.out 0).trans rfl, (blk_cell BK381.out 1).trans rfl, (blk_cell BK381.out 2).trans rfl, ((HB.out.cell (World.block_lt_of_cell? w _ hw382_0)).trans hw382_0)⟩ (fun hHeld => ?_); refine with_tabW spec_l04Is.tab7 spec_l04Is.bits7 (fun HT_ HW_ => ?_)
     generalize wr.drew = w25 at BK381 HB hx382_0 hHeld ⊢
     refine pure_ (i := 0) (N := some 33) (v := ?_) (a' := ?_) bQ55_1 rfl rfl (any_of HT_.out (by kernel_rfl)) (fun _ _ _ h => h) (Or.inl ⟨by rfl, ?_⟩) ?_ ?_
     rotate_left
     · intro w'
       go_simp
       with_reducible rfl
     rotate_left
     · simp only [Act.put, List.setIfInBounds_toArray, List.set_cons_zero, List.set_cons_succ, i64_w, i32_w]
       rfl
     refine pure_ (i := 2) (N := some 35) (v := ?_) (a' := ?_) bQ55_2 rfl rfl (any_of HT_.out (by kernel_rfl)) (fun _ _ _ h => h) (Or.inl ⟨by rfl, ?_⟩) ?_ ?_
     rotate_left
     · intro w'
       go_simp
       with_reducible rfl
     rotate_left
     · simp only [Act.put, List.setIfInBounds_toArray, List.set_cons_zero, List.set_cons_succ, i64_w, i32_w]
       rfl
     refine take_ (i := 1) (N := some 34) (v := ?_) (a' := ?_) bQ55_3 rfl rfl (take_ofW HT_.out HW_.out (by kernel_rfl)) (fun _ _ _ h => h) (Or.inl ⟨by rfl, ?_⟩) hHeld ?_ ?_
     rotate_left
     · rintro w' ⟨s0, s1, s2, s3⟩
       go_simp
       with_reducible rfl
     rotate_left
     · simp only [Act.put, List.setIfInBounds_toArray, List.set_cons_zero, List.set_cons_succ, i64_w, i32_w]
       rfl
     refine pure_ (i := 3) (N := some 36) (v := ?_) (a' := ?_) bQ55_4 rfl rfl (any_of HT_.out (by kernel_rfl)) (fun _ _ _ h => h) (Or.inl ⟨by rfl, ?_⟩) ?_ ?_
     rotate_left
     · intro w'
       go_simp
       with_reducible rfl
     rotate_left
     · simp only [Act.put, List.setIfInBounds_toArray, List.set_cons_zero, List.set_cons_succ, i64_w, i32_w]
       rfl
     refine take_ (i := 4) (N := some 37) (v := ?_) (a' := ?_) bQ55_5 rfl rfl (take_ofW HT_.out HW_.out (by kernel_rfl)) (fun _ _ _ h => h) (Or.inl ⟨by rfl, ?_⟩) hHeld ?_ ?_
     rotate_left
     · rintro w' ⟨s0, s1, s2, s3⟩
       go_simp
       with_reducible rfl
     rotate_left
     · simp only [Act.put, List.setIfInBounds_toArray, List.set_cons_zero, List.set_cons_succ, i64_w, i32_w]
       rfl
     refine one_ (i := 5) (N := some 38) bQ55_6 rfl rfl (one_of HT_.out (by kernel_rfl)) (by decide) (fun K hK => ?_)
     refine goes_ Try.func43 (by kernel_rfl) rfl #[.int .i64 (rd l0_0 x4_2), .int .i64 1, .int .i64 20] (by rfl) rfl rfl (by (try simp only [List.map_toArray, List.map_cons, List.map_nil]); rfl) ?_
     with_reducible refine (spec_l01In.calls (rd l0_0 x4_2) 1 20 false _ A14.out).mono ?_
     rintro e w' ⟨rfl, ⟨nd, rfl⟩⟩
     refine ⟨_, rfl, ?_⟩
     refine hK.out _ _ ⟨(blk_cell BK381.out 0).trans rfl, (blk_cell BK381.out 1).trans rfl, (blk_cell BK381.out 2).trans rfl, ((HB.out.cell (World.block_lt_of_cell? w _ hw382_0)).trans hw382_0)⟩ (fun hHeld => ?_)
     clear hK K
     refine norm_ (a' := ?_) ?_ ?_
     rotate_left
     · show Act.put _ (some 38) _ = _
       simp only [Act.put, List.setIfInBounds_toArray, List.set_cons_zero, List.set_cons_succ, i64_w, i32_w]
       rfl
     refine pure_ (i := 6) (N := some 39) (v := ?_) (a' := ?_) bQ55_7 rfl rfl (any_of HT_.out (by kernel_rfl)) (fun _ _ _ h => h) (Or.inl ⟨by rfl, ?_⟩) ?_ ?_
     rotate_left
     · intro w'
       go_simp
       with_reducible rfl
     rotate_left
     · simp only [Act.put, List.setIfInBounds_toArray, List.set_cons_zero, List.set_cons_succ, i64_w, i32_w]
       rfl
     refine pure_ (i := 7) (N := some 40) (v := ?_) (a' := ?_) bQ55_8 rfl rfl (any_of HT_.out (by kernel_rfl)) (fun _ _ _ h => h) (Or.inl ⟨by rfl, ?_⟩) ?_ ?_
     rotate_left
     · intro w'
       go_simp
       with_reducible rfl
     rotate_left
     · simp only [Act.put, List.setIfInBounds_toArray, List.set_cons_zero, List.set_cons_succ, i64_w, i32_w]
       rfl
     refine pure_ (i := 8) (N := some 41) (v := undef) (a' := ?_) bQ55_9 rfl rfl (any_of HT_.out (by kernel_rfl)) (fun _ _ _ h => h) (Or.inr ⟨by rfl, rfl⟩) ?_ ?_
     rotate_left
     · simp only [Act.put, List.setIfInBounds_toArray, List.set_cons_zero, List.set_cons_succ, i64_w, i32_w]
       rfl
     refine pure_ (i := 9) (N := some 42) (v := undef) (a' := ?_) bQ55_10 rfl rfl (any_of HT_.out (by kernel_rfl)) (fun _ _ _ h => h) (Or.inr ⟨by rfl, rfl⟩) ?_ ?_
     rotate_left
     · simp only [Act.put, List.setIfInBounds_toArray, List.set_cons_zero, List.set_cons_succ, i64_w, i32_w]
       rfl
     refine pure_ (i := 10) (N := some 43) (v := undef) (a' := ?_) bQ55_11 rfl rfl (any_of HT_.out (by kernel_rfl)) (fun _ _ _ h => h) (Or.inr ⟨by rfl, rfl⟩) ?_ ?_
     rotate_left
     · simp only [Act.put, List.setIfInBounds_toArray, List.set_cons_zero, List.set_cons_succ, i64_w, i32_w]
       rfl
     refine pure_ (i := 11) (N := some 44) (v := undef) (a' := ?_) bQ55_12 rfl rfl (any_of HT_.out (by kernel_rfl)) (fun _ _ _ h => h) (Or.inr ⟨by rfl, rfl⟩) ?_ ?_
     rotate_left
     · simp only [Act.put, List.setIfInBounds_toArray, List.set_cons_zero, List.set_cons_succ, i64_w, i32_w]
       rfl
     refine pure_ (i := 12) (N := some 45) (v := undef) (a' := ?_) bQ55_13 rfl rfl (any_of HT_.out (by kernel_rfl)) (fun _ _ _ h => h) (Or.inr ⟨by rfl, rfl⟩) ?_ ?_
     rotate_left
     · simp only [Act.put, List.setIfInBounds_toArray, List.set_cons_zero, List.set_cons_succ, i64_w, i32_w]
       rfl
     refine pure_ (i := 13) (N := some 46) (v := undef) (a' := ?_) bQ55_14 rfl rfl (any_of HT_.out (by kernel_rfl)) (fun _ _ _ h => h) (Or.inr ⟨by rfl, rfl⟩) ?_ ?_
     rotate_left
     · simp only [Act.put, List.setIfInBounds_toArray, List.set_cons_zero, List.set_cons_succ, i64_w, i32_w]
       rfl
     refine pure_ (i := 14) (N := some 47) (v := undef) (a' := ?_) bQ55_15 rfl rfl (any_of HT_.out (by kernel_rfl)) (fun _ _ _ h => h) (Or.inr ⟨by rfl, rfl⟩) ?_ ?_
     rotate_left
     · simp only [Act.put, List.setIfInBounds_toArray, List.set_cons_zero, List.set_cons_succ, i64_w, i32_w]
       rfl
     refine pure_ (i := 15) (N := some 48) (v := ?_) (a' := ?_) bQ55_16 rfl rfl (any_of HT_.out (by kernel_rfl)) (fun _ _ _ h => h) (Or.inl ⟨by rfl, ?_⟩) ?_ ?_
     rotate_left
     · intro w'
       go_simp
       with_reducible rfl
     rotate_left
     · simp only [Act.put, List.setIfInBounds_toArray, List.set_cons_zero, List.set_cons_succ, i64_w, i32_w]
       rfl
     refine pure_ (i := 16) (N := some 49) (v := ?_) (a' := ?_) bQ55_17 rfl rfl (any_of HT_.out (by kernel_rfl)) (fun _ _ _ h => h) (Or.inl ⟨by rfl, ?_⟩) ?_ ?_
     rotate_left
     · intro w'
       go_simp
       with_reducible rfl
     rotate_left
     · simp only [Act.put, List.setIfInBounds_toArray, List.set_cons_zero, List.set_cons_succ, i64_w, i32_w]
       rfl
     refine pure_ (i := 17) (N := some 50) (v := undef) (a' := ?_) bQ55_18 rfl rfl (any_of HT_.out (by kernel_rfl)) (fun _ _ _ h => h) (Or.inr ⟨by rfl, rfl⟩) ?_ ?_
     rotate_left
     · simp only [Act.put, List.setIfInBounds_toArray, List.set_cons_zero, List.set_cons_succ, i64_w, i32_w]
       rfl
     refine pure_ (i := 18) (N := some 51) (v := undef) (a' := ?_) bQ55_19 rfl rfl (any_of HT_.out (by kernel_rfl)) (fun _ _ _ h => h) (Or.inr ⟨by rfl, rfl⟩) ?_ ?_
     rotate_left
     · simp only [Act.put, List.setIfInBounds_toArray, List.set_cons_zero, List.set_cons_succ, i64_w, i32_w]
       rfl
     refine pure_ (i := 19) (N := some 52) (v := undef) (a' := ?_) bQ55_20 rfl rfl (any_of HT_.out (by kernel_rfl)) (fun _ _ _ h => h) (Or.inr ⟨by rfl, rfl⟩) ?_ ?_
     rotate_left
     · simp only [Act.put, List.setIfInBounds_toArray, List.set_cons_zero, List.set_cons_succ, i64_w, i32_w]
       rfl
     refine pure_ (i := 20) (N := some 53) (v := undef) (a' := ?_) bQ55_21 rfl rfl (any_of HT_.out (by kernel_rfl)) (fun _ _ _ h => h) (Or.inr ⟨by rfl, rfl⟩) ?_ ?_
     rotate_left
     · simp only [Act.put, List.setIfInBounds_toArray, List.set_cons_zero, List.set_cons_succ, i64_w, i32_w]
       rfl
     refine pure_ (i := 21) (N := some 54) (v := undef) (a' := ?_) bQ55_22 rfl rfl (any_of HT_.out (by kernel_rfl)) (fun _ _ _ h => h) (Or.inr ⟨by rfl, rfl⟩) ?_ ?_
     rotate_left
     · simp only [Act.put, List.setIfInBounds_toArray, List.set_cons_zero, List.set_cons_succ, i64_w, i32_w]
       rfl
     refine pure_ (i := 22) (N := some 55) (v := undef) (a' := ?_) bQ55_23 rfl rfl (any_of HT_.out (by kernel_rfl)) (fun _ _ _ h => h) (Or.inr ⟨by rfl, rfl⟩) ?_ ?_
     rotate_left
     · simp only [Act.put, List.setIfInBounds_toArray, List.set_cons_zero, List.set_cons_succ, i64_w, i32_w]
       rfl
     refine pure_ (i := 23) (N := some 56) (v := undef) (a' := ?_) bQ55_24 rfl rfl (any_of HT_.out (by kernel_rfl)) (fun _ _ _ h => h) (Or.inr ⟨by rfl, rfl⟩) ?_ ?_
     rotate_left
     · simp only [Act.put, List.setIfInBounds_toArray, List.set_cons_zero, List.set_cons_succ, i64_w, i32_w]
       rfl
     refine pure_ (i := 24) (N := some 57) (v := undef) (a' := ?_) bQ55_25 rfl rfl (any_of HT_.out (by kernel_rfl)) (fun _ _ _ h => h) (Or.inr ⟨by rfl, rfl⟩) ?_ ?_
     rotate_left
     · simp only [Act.put, List.setIfInBounds_toArray, List.set_cons_zero, List.set_cons_succ, i64_w, i32_w]
       rfl
     refine pure_ (i := 25) (N := some 58) (v := undef) (a' := ?_) bQ55_26 rfl rfl (any_of HT_.out (by kernel_rfl)) (fun _ _ _ h => h) (Or.inr ⟨by rfl, rfl⟩) ?_ ?_
     rotate_left
     · simp only [Act.put, List.setIfInBounds_toArray, List.set_cons_zero, List.set_cons_succ, i64_w, i32_w]
       rfl
     refine pure_ (i := 26) (N := some 59) (v := undef) (a' := ?_) bQ55_27 rfl rfl (any_of HT_.out (by kernel_rfl)) (fun _ _ _ h => h) (Or.inr ⟨by rfl, rfl⟩) ?_ ?_
     rotate_left
     · simp only [Act.put, List.setIfInBounds_toArray, List.set_cons_zero, List.set_cons_succ, i64_w, i32_w]
       rfl
     refine pure_ (i := 27) (N := some 60) (v := undef) (a' := ?_) bQ55_28 rfl rfl (any_of HT_.out (by kernel_rfl)) (fun _ _ _ h => h) (Or.inr ⟨by rfl, rfl⟩) ?_ ?_
     rotate_left
     · simp only [Act.put, List.setIfInBounds_toArray, List.set_cons_zero, List.set_cons_succ, i64_w, i32_w]
       rfl
     refine pure_ (i := 28) (N := some 61) (v := undef) (a' := ?_) bQ55_29 rfl rfl (any_of HT_.out (by kernel_rfl)) (fun _ _ _ h => h) (Or.inr ⟨by rfl, rfl⟩) ?_ ?_
     rotate_left
     · simp only [Act.put, List.setIfInBounds_toArray, List.set_cons_zero, List.set_cons_succ, i64_w, i32_w]
       rfl
     refine pure_ (i := 29) (N := some 62) (v := ?_) (a' := ?_) bQ55_30 rfl rfl (any_of HT_.out (by kernel_rfl)) (fun _ _ _ h => h) (Or.inl ⟨by rfl, ?_⟩) ?_ ?_
     rotate_left
     · intro w'
       go_simp
       with_reducible rfl
     rotate_left
     · simp only [Act.put, List.setIfInBounds_toArray, List.set_cons_zero, List.set_cons_succ, i64_w, i32_w]
       rfl
     refine done_ (done_of HT_.out (by kernel_rfl)) ?_
     try go_wp2
     go_ret
     exact ⟨by rfl, by repeat (with_reducible first | exact HB.out | apply pw_below_drewN)⟩
   subst c15
   have H1 : (if x4_2 < (l0_1.length : Int) then ((spec_l01In.f (rd l0_1 x4_2) 1 60).bind fun t385 => (if t385 = true then (if x4_2 < (l0_2.length : Int) then ((spec_l01In.f (rd l0_2 x4_2) 1 (rd l0_1 x4_2)).bind fun t388 => (if t388 = true then (spec_l04Is.l0 k2 (l0_0.length : Int) (wrap64 (x4_2 + 1)) l0_0 l0_1 l0_2) else (some false))) else (none)) else (some false))) else (none)) = some r := by rw [if_pos rfl] at H; exact H
   clear H
   have H := H1
   clear H1
   by_cases c16 : x4_2 < (l0_1.length : Int)
   rotate_left
   · rw [if_neg c16] at H
     exact absurd H (by simp)
   rw [if_pos c16] at H
   have c16b0 : decide (x4_2 < (l0_1.length : Int)) = true := decide_eq_true c16
   clear c16
   replace H := Option.bind_eq_some_iff.mp H
   obtain ⟨t385, A170, H⟩ := H
   replace H : (if t385 = true then (if x4_2 < (l0_2.length : Int) then ((spec_l01In.f (rd l0_2 x4_2) 1 (rd l0_1 x4_2)).bind fun t388 => (if t388 = true then (spec_l04Is.l0 k2 (l0_0.length : Int) (wrap64 (x4_2 + 1)) l0_0 l0_1 l0_2) else (some false))) else (none)) else (some false)) = some r := H
   have A17 := Aside0.mk A170
   clear A170
   by_cases c18 : t385 = true
   rotate_left
   · replace c18 := Bool.eq_false_iff.mpr c18
     subst c18
     have H1 : (some false) = some r := by rw [if_neg (show ¬ (false = true) by decide)] at H; exact H
     clear H
     have H := H1
     clear H1
     obtain rfl := Option.some.inj H
     try go_wp2
     have n0_ := Aside0.mk (blk_drew BK381.out)
     have n1_ := Aside0.mk (below_drew1 HB.out)
     clear BK381
     clear HB
     have BK381 := n0_
     have HB := n1_
     clear n0_ n1_
     have p382 : 0 ≤ (x4_2 : Int) := of_decide_eq_true (by (with_reducible assumption))
     have q382 : x4_2 < (l0_0.length : Int) := of_decide_eq_true (by (with_reducible assumption))
     obtain ⟨ad382, e382, hx382_0⟩ := Kd.at_int HR0_0.out x4_2 p382 q382
     have hw382_0 := hx382_0
     cases e382
     replace hx382_0 := (HB.out.cell (World.block_lt_of_cell? w _ hx382_0)).trans hx382_0
     replace p382 := eq_true p382
     replace q382 := eq_true q382
     have p384 : 0 ≤ (x4_2 : Int) := of_decide_eq_true (by (with_reducible assumption))
     have q384 : x4_2 < (l0_1.length : Int) := of_decide_eq_true (by (with_reducible assumption))
     obtain ⟨ad384, e384, hx384_0⟩ := Kd.at_int HR0_1.out x4_2 p384 q384
     have hw384_0 := hx384_0
     cases e384
     replace hx384_0 := (HB.out.cell (World.block_lt_of_cell? w _ hx384_0)).trans hx384_0
     replace p384 := eq_true p384
     replace q384 := eq_true q384
     refine start_ (n := 30) (S := fun w' => w'.cell? ⟨gb381, 0, none⟩ = some (.slice (some ad382) l0_0.length c0_0) ∧ w'.cell? ⟨gb381, 1, none⟩ = some (.slice (some ad384) l0_1.length c0_1) ∧ w'.cell? ⟨gb381, 2, none⟩ = some (.slice A0_2 l0_2.length c0_2) ∧ w'.cell? (ad382.add (x4_2).toNat) = some (.int .i64 (rd l0_0 x4_2)) ∧ w'.cell? (ad384.add (x4_2).toNat) = some (.int .i64 (rd l0_1 x4_2))) (ds := []) bQ55_0 (by kernel_rfl) rfl rfl ⟨(blk_cell BK381.out 0).trans rfl, (blk_cell BK381.out 1).trans rfl, (blk_cell BK381.out 2).trans rfl, ((HB.out.cell (World.block_lt_of_cell? w _ hw382_0)).trans hw382_0), ((HB.out.cell (World.block_lt_of_cell? w _ hw384_0)).trans hw384_0)⟩ (fun hHeld => ?_); refine with_tabW spec_l04Is.tab7 spec_l04Is.bits7 (fun HT_ HW_ => ?_)
     generalize wr.drew = w24 at BK381 HB hx382_0 hx384_0 hHeld ⊢
     refine pure_ (i := 0) (N := some 33) (v := ?_) (a' := ?_) bQ55_1 rfl rfl (any_of HT_.out (by kernel_rfl)) (fun _ _ _ h => h) (Or.inl ⟨by rfl, ?_⟩) ?_ ?_
     rotate_left
     · intro w'
       go_simp
       with_reducible rfl
     rotate_left
     · simp only [Act.put, List.setIfInBounds_toArray, List.set_cons_zero, List.set_cons_succ, i64_w, i32_w]
       rfl
     refine pure_ (i := 2) (N := some 35) (v := ?_) (a' := ?_) bQ55_2 rfl rfl (any_of HT_.out (by kernel_rfl)) (fun _ _ _ h => h) (Or.inl ⟨by rfl, ?_⟩) ?_ ?_
     rotate_left
     · intro w'
       go_simp
       with_reducible rfl
     rotate_left
     · simp only [Act.put, List.setIfInBounds_toArray, List.set_cons_zero, List.set_cons_succ, i64_w, i32_w]
       rfl
     refine take_ (i := 1) (N := some 34) (v := ?_) (a' := ?_) bQ55_3 rfl rfl (take_ofW HT_.out HW_.out (by kernel_rfl)) (fun _ _ _ h => h) (Or.inl ⟨by rfl, ?_⟩) hHeld ?_ ?_
     rotate_left
     · rintro w' ⟨s0, s1, s2, s3, s4⟩
       go_simp
       with_reducible rfl
     rotate_left
     · simp only [Act.put, List.setIfInBounds_toArray, List.set_cons_zero, List.set_cons_succ, i64_w, i32_w]
       rfl
     refine pure_ (i := 3) (N := some 36) (v := ?_) (a' := ?_) bQ55_4 rfl rfl (any_of HT_.out (by kernel_rfl)) (fun _ _ _ h => h) (Or.inl ⟨by rfl, ?_⟩) ?_ ?_
     rotate_left
     · intro w'
       go_simp
       with_reducible rfl
     rotate_left
     · simp only [Act.put, List.setIfInBounds_toArray, List.set_cons_zero, List.set_cons_succ, i64_w, i32_w]
       rfl
     refine take_ (i := 4) (N := some 37) (v := ?_) (a' := ?_) bQ55_5 rfl rfl (take_ofW HT_.out HW_.out (by kernel_rfl)) (fun _ _ _ h => h) (Or.inl ⟨by rfl, ?_⟩) hHeld ?_ ?_
     rotate_left
     · rintro w' ⟨s0, s1, s2, s3, s4⟩
       go_simp
       with_reducible rfl
     rotate_left
     · simp only [Act.put, List.setIfInBounds_toArray, List.set_cons_zero, List.set_cons_succ, i64_w, i32_w]
       rfl
     refine one_ (i := 5) (N := some 38) bQ55_6 rfl rfl (one_of HT_.out (by kernel_rfl)) (by decide) (fun K hK => ?_)
     refine goes_ Try.func43 (by kernel_rfl) rfl #[.int .i64 (rd l0_0 x4_2), .int .i64 1, .int .i64 20] (by rfl) rfl rfl (by (try simp only [List.map_toArray, List.map_cons, List.map_nil]); rfl) ?_
     with_reducible refine (spec_l01In.calls (rd l0_0 x4_2) 1 20 true _ A14.out).mono ?_
     rintro e w' ⟨rfl, ⟨nd, rfl⟩⟩
     refine ⟨_, rfl, ?_⟩
     refine hK.out _ _ ⟨(blk_cell BK381.out 0).trans rfl, (blk_cell BK381.out 1).trans rfl, (blk_cell BK381.out 2).trans rfl, ((HB.out.cell (World.block_lt_of_cell? w _ hw382_0)).trans hw382_0), ((HB.out.cell (World.block_lt_of_cell? w _ hw384_0)).trans hw384_0)⟩ (fun hHeld => ?_)
     clear hK K
     refine norm_ (a' := ?_) ?_ ?_
     rotate_left
     · show Act.put _ (some 38) _ = _
       simp only [Act.put, List.setIfInBounds_toArray, List.set_cons_zero, List.set_cons_succ, i64_w, i32_w]
       rfl
     refine pure_ (i := 6) (N := some 39) (v := ?_) (a' := ?_) bQ55_7 rfl rfl (any_of HT_.out (by kernel_rfl)) (fun _ _ _ h => h) (Or.inl ⟨by rfl, ?_⟩) ?_ ?_
     rotate_left
     · intro w'
       go_simp
       with_reducible rfl
     rotate_left
     · simp only [Act.put, List.setIfInBounds_toArray, List.set_cons_zero, List.set_cons_succ, i64_w, i32_w]
       rfl
     refine pure_ (i := 7) (N := some 40) (v := ?_) (a' := ?_) bQ55_8 rfl rfl (any_of HT_.out (by kernel_rfl)) (fun _ _ _ h => h) (Or.inl ⟨by rfl, ?_⟩) ?_ ?_
     rotate_left
     · intro w'
       go_simp
       with_reducible rfl
     rotate_left
     · simp only [Act.put, List.setIfInBounds_toArray, List.set_cons_zero, List.set_cons_succ, i64_w, i32_w]
       rfl
     refine pure_ (i := 8) (N := some 41) (v := ?_) (a' := ?_) bQ55_9 rfl rfl (any_of HT_.out (by kernel_rfl)) (fun _ _ _ h => h) (Or.inl ⟨by rfl, ?_⟩) ?_ ?_
     rotate_left
     · intro w'
       go_simp
       with_reducible rfl
     rotate_left
     · simp only [Act.put, List.setIfInBounds_toArray, List.set_cons_zero, List.set_cons_succ, i64_w, i32_w]
       rfl
     refine pure_ (i := 10) (N := some 43) (v := ?_) (a' := ?_) bQ55_31 rfl rfl (any_of HT_.out (by kernel_rfl)) (fun _ _ _ h => h) (Or.inl ⟨by rfl, ?_⟩) ?_ ?_
     rotate_left
     · intro w'
       go_simp
       with_reducible rfl
     rotate_left
     · simp only [Act.put, List.setIfInBounds_toArray, List.set_cons_zero, List.set_cons_succ, i64_w, i32_w]
       rfl
     refine take_ (i := 9) (N := some 42) (v := ?_) (a' := ?_) bQ55_11 rfl rfl (take_ofW HT_.out HW_.out (by kernel_rfl)) (fun _ _ _ h => h) (Or.inl ⟨by rfl, ?_⟩) hHeld ?_ ?_
     rotate_left
     · rintro w' ⟨s0, s1, s2, s3, s4⟩
       go_simp
       with_reducible rfl
     rotate_left
     · simp only [Act.put, List.setIfInBounds_toArray, List.set_cons_zero, List.set_cons_succ, i64_w, i32_w]
       rfl
     refine pure_ (i := 11) (N := some 44) (v := ?_) (a' := ?_) bQ55_12 rfl rfl (any_of HT_.out (by kernel_rfl)) (fun _ _ _ h => h) (Or.inl ⟨by rfl, ?_⟩) ?_ ?_
     rotate_left
     · intro w'
       go_simp
       with_reducible rfl
     rotate_left
     · simp only [Act.put, List.setIfInBounds_toArray, List.set_cons_zero, List.set_cons_succ, i64_w, i32_w]
       rfl
     refine take_ (i := 12) (N := some 45) (v := ?_) (a' := ?_) bQ55_13 rfl rfl (take_ofW HT_.out HW_.out (by kernel_rfl)) (fun _ _ _ h => h) (Or.inl ⟨by rfl, ?_⟩) hHeld ?_ ?_
     rotate_left
     · rintro w' ⟨s0, s1, s2, s3, s4⟩
       go_simp
       with_reducible rfl
     rotate_left
     · simp only [Act.put, List.setIfInBounds_toArray, List.set_cons_zero, List.set_cons_succ, i64_w, i32_w]
       rfl
     refine one_ (i := 13) (N := some 46) bQ55_14 rfl rfl (one_of HT_.out (by kernel_rfl)) (by decide) (fun K hK => ?_)
     refine goes_ Try.func43 (by kernel_rfl) rfl #[.int .i64 (rd l0_1 x4_2), .int .i64 1, .int .i64 60] (by rfl) rfl rfl (by (try simp only [List.map_toArray, List.map_cons, List.map_nil]); rfl) ?_
     with_reducible refine (spec_l01In.calls (rd l0_1 x4_2) 1 60 false _ A17.out).mono ?_
     rintro e w' ⟨rfl, ⟨nd, rfl⟩⟩
     refine ⟨_, rfl, ?_⟩
     refine hK.out _ _ ⟨(blk_cell BK381.out 0).trans rfl, (blk_cell BK381.out 1).trans rfl, (blk_cell BK381.out 2).trans rfl, ((HB.out.cell (World.block_lt_of_cell? w _ hw382_0)).trans hw382_0), ((HB.out.cell (World.block_lt_of_cell? w _ hw384_0)).trans hw384_0)⟩ (fun hHeld => ?_)
     clear hK K
     refine norm_ (a' := ?_) ?_ ?_
     rotate_left
     · show Act.put _ (some 46) _ = _
       simp only [Act.put, List.setIfInBounds_toArray, List.set_cons_zero, List.set_cons_succ, i64_w, i32_w]
       rfl
     refine pure_ (i := 14) (N := some 47) (v := ?_) (a' := ?_) bQ55_15 rfl rfl (any_of HT_.out (by kernel_rfl)) (fun _ _ _ h => h) (Or.inl ⟨by rfl, ?_⟩) ?_ ?_
     rotate_left
     · intro w'
       go_simp
       with_reducible rfl
     rotate_left
     · simp only [Act.put, List.setIfInBounds_toArray, List.set_cons_zero, List.set_cons_succ, i64_w, i32_w]
       rfl
     refine pure_ (i := 15) (N := some 48) (v := ?_) (a' := ?_) bQ55_16 rfl rfl (any_of HT_.out (by kernel_rfl)) (fun _ _ _ h => h) (Or.inl ⟨by rfl, ?_⟩) ?_ ?_
     rotate_left
     · intro w'
       go_simp
       with_reducible rfl
     rotate_left
     · simp only [Act.put, List.setIfInBounds_toArray, List.set_cons_zero, List.set_cons_succ, i64_w, i32_w]
       rfl
     refine pure_ (i := 16) (N := some 49) (v := ?_) (a' := ?_) bQ55_17 rfl rfl (any_of HT_.out (by kernel_rfl)) (fun _ _ _ h => h) (Or.inl ⟨by rfl, ?_⟩) ?_ ?_
     rotate_left
     · intro w'
       go_simp
       with_reducible rfl
     rotate_left
     · simp only [Act.put, List.setIfInBounds_toArray, List.set_cons_zero, List.set_cons_succ, i64_w, i32_w]
       rfl
     refine pure_ (i := 17) (N := some 50) (v := undef) (a' := ?_) bQ55_18 rfl rfl (any_of HT_.out (by kernel_rfl)) (fun _ _ _ h => h) (Or.inr ⟨by rfl, rfl⟩) ?_ ?_
     rotate_left
     · simp only [Act.put, List.setIfInBounds_toArray, List.set_cons_zero, List.set_cons_succ, i64_w, i32_w]
       rfl
     refine pure_ (i := 18) (N := some 51) (v := undef) (a' := ?_) bQ55_19 rfl rfl (any_of HT_.out (by kernel_rfl)) (fun _ _ _ h => h) (Or.inr ⟨by rfl, rfl⟩) ?_ ?_
     rotate_left
     · simp only [Act.put, List.setIfInBounds_toArray, List.set_cons_zero, List.set_cons_succ, i64_w, i32_w]
       rfl
     refine pure_ (i := 19) (N := some 52) (v := undef) (a' := ?_) bQ55_20 rfl rfl (any_of HT_.out (by kernel_rfl)) (fun _ _ _ h => h) (Or.inr ⟨by rfl, rfl⟩) ?_ ?_
     rotate_left
     · simp only [Act.put, List.setIfInBounds_toArray, List.set_cons_zero, List.set_cons_succ, i64_w, i32_w]
       rfl
     refine pure_ (i := 20) (N := some 53) (v := undef) (a' := ?_) bQ55_21 rfl rfl (any_of HT_.out (by kernel_rfl)) (fun _ _ _ h => h) (Or.inr ⟨by rfl, rfl⟩) ?_ ?_
     rotate_left
     · simp only [Act.put, List.setIfInBounds_toArray, List.set_cons_zero, List.set_cons_succ, i64_w, i32_w]
       rfl
     refine pure_ (i := 21) (N := some 54) (v := undef) (a' := ?_) bQ55_22 rfl rfl (any_of HT_.out (by kernel_rfl)) (fun _ _ _ h => h) (Or.inr ⟨by rfl, rfl⟩) ?_ ?_
     rotate_left
     · simp only [Act.put, List.setIfInBounds_toArray, List.set_cons_zero, List.set_cons_succ, i64_w, i32_w]
       rfl
     refine pure_ (i := 22) (N := some 55) (v := undef) (a' := ?_) bQ55_23 rfl rfl (any_of HT_.out (by kernel_rfl)) (fun _ _ _ h => h) (Or.inr ⟨by rfl, rfl⟩) ?_ ?_
     rotate_left
     · simp only [Act.put, List.setIfInBounds_toArray, List.set_cons_zero, List.set_cons_succ, i64_w, i32_w]
       rfl
     refine pure_ (i := 23) (N := some 56) (v := undef) (a' := ?_) bQ55_24 rfl rfl (any_of HT_.out (by kernel_rfl)) (fun _ _ _ h => h) (Or.inr ⟨by rfl, rfl⟩) ?_ ?_
     rotate_left
     · simp only [Act.put, List.setIfInBounds_toArray, List.set_cons_zero, List.set_cons_succ, i64_w, i32_w]
       rfl
     refine pure_ (i := 24) (N := some 57) (v := undef) (a' := ?_) bQ55_25 rfl rfl (any_of HT_.out (by kernel_rfl)) (fun _ _ _ h => h) (Or.inr ⟨by rfl, rfl⟩) ?_ ?_
     rotate_left
     · simp only [Act.put, List.setIfInBounds_toArray, List.set_cons_zero, List.set_cons_succ, i64_w, i32_w]
       rfl
     refine pure_ (i := 25) (N := some 58) (v := undef) (a' := ?_) bQ55_26 rfl rfl (any_of HT_.out (by kernel_rfl)) (fun _ _ _ h => h) (Or.inr ⟨by rfl, rfl⟩) ?_ ?_
     rotate_left
     · simp only [Act.put, List.setIfInBounds_toArray, List.set_cons_zero, List.set_cons_succ, i64_w, i32_w]
       rfl
     refine pure_ (i := 26) (N := some 59) (v := undef) (a' := ?_) bQ55_27 rfl rfl (any_of HT_.out (by kernel_rfl)) (fun _ _ _ h => h) (Or.inr ⟨by rfl, rfl⟩) ?_ ?_
     rotate_left
     · simp only [Act.put, List.setIfInBounds_toArray, List.set_cons_zero, List.set_cons_succ, i64_w, i32_w]
       rfl
     refine pure_ (i := 27) (N := some 60) (v := undef) (a' := ?_) bQ55_28 rfl rfl (any_of HT_.out (by kernel_rfl)) (fun _ _ _ h => h) (Or.inr ⟨by rfl, rfl⟩) ?_ ?_
     rotate_left
     · simp only [Act.put, List.setIfInBounds_toArray, List.set_cons_zero, List.set_cons_succ, i64_w, i32_w]
       rfl
     refine pure_ (i := 28) (N := some 61) (v := undef) (a' := ?_) bQ55_29 rfl rfl (any_of HT_.out (by kernel_rfl)) (fun _ _ _ h => h) (Or.inr ⟨by rfl, rfl⟩) ?_ ?_
     rotate_left
     · simp only [Act.put, List.setIfInBounds_toArray, List.set_cons_zero, List.set_cons_succ, i64_w, i32_w]
       rfl
     refine pure_ (i := 29) (N := some 62) (v := ?_) (a' := ?_) bQ55_30 rfl rfl (any_of HT_.out (by kernel_rfl)) (fun _ _ _ h => h) (Or.inl ⟨by rfl, ?_⟩) ?_ ?_
     rotate_left
     · intro w'
       go_simp
       with_reducible rfl
     rotate_left
     · simp only [Act.put, List.setIfInBounds_toArray, List.set_cons_zero, List.set_cons_succ, i64_w, i32_w]
       rfl
     refine done_ (done_of HT_.out (by kernel_rfl)) ?_
     try go_wp2
     go_ret
     exact ⟨by rfl, by repeat (with_reducible first | exact HB.out | apply pw_below_drewN)⟩
   subst c18
   have H1 : (if x4_2 < (l0_2.length : Int) then ((spec_l01In.f (rd l0_2 x4_2) 1 (rd l0_1 x4_2)).bind fun t388 => (if t388 = true then (spec_l04Is.l0 k2 (l0_0.length : Int) (wrap64 (x4_2 + 1)) l0_0 l0_1 l0_2) else (some false))) else (none)) = some r := by rw [if_pos rfl] at H; exact H
   clear H
   have H := H1
   clear H1
   by_cases c19 : x4_2 < (l0_2.length : Int)
   rotate_left
   · rw [if_neg c19] at H
     exact absurd H (by simp)
   rw [if_pos c19] at H
   have c19b0 : decide (x4_2 < (l0_2.length : Int)) = true := decide_eq_true c19
   clear c19
   replace H := Option.bind_eq_some_iff.mp H
   obtain ⟨t388, A200, H⟩ := H
   replace H : (if t388 = true then (spec_l04Is.l0 k2 (l0_0.length : Int) (wrap64 (x4_2 + 1)) l0_0 l0_1 l0_2) else (some false)) = some r := H
   have A20 := Aside0.mk A200
   clear A200
   by_cases c21 : t388 = true
   rotate_left
   · replace c21 := Bool.eq_false_iff.mpr c21
     subst c21
     have H1 : (some false) = some r := by rw [if_neg (show ¬ (false = true) by decide)] at H; exact H
     clear H
     have H := H1
     clear H1
     obtain rfl := Option.some.inj H
     try go_wp2
     have n0_ := Aside0.mk (blk_drew BK381.out)
     have n1_ := Aside0.mk (below_drew1 HB.out)
     clear BK381
     clear HB
     have BK381 := n0_
     have HB := n1_
     clear n0_ n1_
     have p382 : 0 ≤ (x4_2 : Int) := of_decide_eq_true (by (with_reducible assumption))
     have q382 : x4_2 < (l0_0.length : Int) := of_decide_eq_true (by (with_reducible assumption))
     obtain ⟨ad382, e382, hx382_0⟩ := Kd.at_int HR0_0.out x4_2 p382 q382
     have hw382_0 := hx382_0
     cases e382
     replace hx382_0 := (HB.out.cell (World.block_lt_of_cell? w _ hx382_0)).trans hx382_0
     replace p382 := eq_true p382
     replace q382 := eq_true q382
     have p384 : 0 ≤ (x4_2 : Int) := of_decide_eq_true (by (with_reducible assumption))
     have q384 : x4_2 < (l0_1.length : Int) := of_decide_eq_true (by (with_reducible assumption))
     obtain ⟨ad384, e384, hx384_0⟩ := Kd.at_int HR0_1.out x4_2 p384 q384
     have hw384_0 := hx384_0
     cases e384
     replace hx384_0 := (HB.out.cell (World.block_lt_of_cell? w _ hx384_0)).trans hx384_0
     replace p384 := eq_true p384
     replace q384 := eq_true q384
     have p386 : 0 ≤ (x4_2 : Int) := of_decide_eq_true (by (with_reducible assumption))
     have q386 : x4_2 < (l0_2.length : Int) := of_decide_eq_true (by (with_reducible assumption))
     obtain ⟨ad386, e386, hx386_0⟩ := Kd.at_int HR0_2.out x4_2 p386 q386
     have hw386_0 := hx386_0
     cases e386
     replace hx386_0 := (HB.out.cell (World.block_lt_of_cell? w _ hx386_0)).trans hx386_0
     replace p386 := eq_true p386
     replace q386 := eq_true q386
     have p387 : 0 ≤ (x4_2 : Int) := of_decide_eq_true (by (with_reducible assumption))
     have q387 : x4_2 < (l0_1.length : Int) := of_decide_eq_true (by (with_reducible assumption))
     obtain ⟨ad387, e387, hx387_0⟩ := Kd.at_int HR0_1.out x4_2 p387 q387
     have hw387_0 := hx387_0
     obtain rfl : ad384 = ad387 := (by injection e387)
     replace hx387_0 := (HB.out.cell (World.block_lt_of_cell? w _ hx387_0)).trans hx387_0
     replace p387 := eq_true p387
     replace q387 := eq_true q387
     refine start_ (n := 30) (S := fun w' => w'.cell? ⟨gb381, 0, none⟩ = some (.slice (some ad382) l0_0.length c0_0) ∧ w'.cell? ⟨gb381, 1, none⟩ = some (.slice (some ad384) l0_1.length c0_1) ∧ w'.cell? ⟨gb381, 2, none⟩ = some (.slice (some ad386) l0_2.length c0_2) ∧ w'.cell? (ad382.add (x4_2).toNat) = some (.int .i64 (rd l0_0 x4_2)) ∧ w'.cell? (ad384.add (x4_2).toNat) = some (.int .i64 (rd l0_1 x4_2)) ∧ w'.cell? (ad386.add (x4_2).toNat) = some (.int .i64 (rd l0_2 x4_2)) ∧ w'.cell? (ad384.add (x4_2).toNat) = some (.int .i64 (rd l0_1 x4_2))) (ds := []) bQ55_0 (by kernel_rfl) rfl rfl ⟨(blk_cell BK381.out 0).trans rfl, (blk_cell BK381.out 1).trans rfl, (blk_cell BK381.out 2).trans rfl, ((HB.out.cell (World.block_lt_of_cell? w _ hw382_0)).trans hw382_0), ((HB.out.cell (World.block_lt_of_cell? w _ hw384_0)).trans hw384_0), ((HB.out.cell (World.block_lt_of_cell? w _ hw386_0)).trans hw386_0), ((HB.out.cell (World.block_lt_of_cell? w _ hw387_0)).trans hw387_0)⟩ (fun hHeld => ?_); refine with_tabW spec_l04Is.tab7 spec_l04Is.bits7 (fun HT_ HW_ => ?_)
     generalize wr.drew = w23 at BK381 HB hx382_0 hx384_0 hx386_0 hx387_0 hHeld ⊢
     refine pure_ (i := 0) (N := some 33) (v := ?_) (a' := ?_) bQ55_1 rfl rfl (any_of HT_.out (by kernel_rfl)) (fun _ _ _ h => h) (Or.inl ⟨by rfl, ?_⟩) ?_ ?_
     rotate_left
     · intro w'
       go_simp
       with_reducible rfl
     rotate_left
     · simp only [Act.put, List.setIfInBounds_toArray, List.set_cons_zero, List.set_cons_succ, i64_w, i32_w]
       rfl
     refine pure_ (i := 2) (N := some 35) (v := ?_) (a' := ?_) bQ55_2 rfl rfl (any_of HT_.out (by kernel_rfl)) (fun _ _ _ h => h) (Or.inl ⟨by rfl, ?_⟩) ?_ ?_
     rotate_left
     · intro w'
       go_simp
       with_reducible rfl
     rotate_left
     · simp only [Act.put, List.setIfInBounds_toArray, List.set_cons_zero, List.set_cons_succ, i64_w, i32_w]
       rfl
     refine take_ (i := 1) (N := some 34) (v := ?_) (a' := ?_) bQ55_3 rfl rfl (take_ofW HT_.out HW_.out (by kernel_rfl)) (fun _ _ _ h => h) (Or.inl ⟨by rfl, ?_⟩) hHeld ?_ ?_
     rotate_left
     · rintro w' ⟨s0, s1, s2, s3, s4, s5, s6⟩
       go_simp
       with_reducible rfl
     rotate_left
     · simp only [Act.put, List.setIfInBounds_toArray, List.set_cons_zero, List.set_cons_succ, i64_w, i32_w]
       rfl
     refine pure_ (i := 3) (N := some 36) (v := ?_) (a' := ?_) bQ55_4 rfl rfl (any_of HT_.out (by kernel_rfl)) (fun _ _ _ h => h) (Or.inl ⟨by rfl, ?_⟩) ?_ ?_
     rotate_left
     · intro w'
       go_simp
       with_reducible rfl
     rotate_left
     · simp only [Act.put, List.setIfInBounds_toArray, List.set_cons_zero, List.set_cons_succ, i64_w, i32_w]
       rfl
     refine take_ (i := 4) (N := some 37) (v := ?_) (a' := ?_) bQ55_5 rfl rfl (take_ofW HT_.out HW_.out (by kernel_rfl)) (fun _ _ _ h => h) (Or.inl ⟨by rfl, ?_⟩) hHeld ?_ ?_
     rotate_left
     · rintro w' ⟨s0, s1, s2, s3, s4, s5, s6⟩
       go_simp
       with_reducible rfl
     rotate_left
     · simp only [Act.put, List.setIfInBounds_toArray, List.set_cons_zero, List.set_cons_succ, i64_w, i32_w]
       rfl
     refine one_ (i := 5) (N := some 38) bQ55_6 rfl rfl (one_of HT_.out (by kernel_rfl)) (by decide) (fun K hK => ?_)
     refine goes_ Try.func43 (by kernel_rfl) rfl #[.int .i64 (rd l0_0 x4_2), .int .i64 1, .int .i64 20] (by rfl) rfl rfl (by (try simp only [List.map_toArray, List.map_cons, List.map_nil]); rfl) ?_
     with_reducible refine (spec_l01In.calls (rd l0_0 x4_2) 1 20 true _ A14.out).mono ?_
     rintro e w' ⟨rfl, ⟨nd, rfl⟩⟩
     refine ⟨_, rfl, ?_⟩
     refine hK.out _ _ ⟨(blk_cell BK381.out 0).trans rfl, (blk_cell BK381.out 1).trans rfl, (blk_cell BK381.out 2).trans rfl, ((HB.out.cell (World.block_lt_of_cell? w _ hw382_0)).trans hw382_0), ((HB.out.cell (World.block_lt_of_cell? w _ hw384_0)).trans hw384_0), ((HB.out.cell (World.block_lt_of_cell? w _ hw386_0)).trans hw386_0), ((HB.out.cell (World.block_lt_of_cell? w _ hw387_0)).trans hw387_0)⟩ (fun hHeld => ?_)
     clear hK K
     refine norm_ (a' := ?_) ?_ ?_
     rotate_left
     · show Act.put _ (some 38) _ = _
       simp only [Act.put, List.setIfInBounds_toArray, List.set_cons_zero, List.set_cons_succ, i64_w, i32_w]
       rfl
     refine pure_ (i := 6) (N := some 39) (v := ?_) (a' := ?_) bQ55_7 rfl rfl (any_of HT_.out (by kernel_rfl)) (fun _ _ _ h => h) (Or.inl ⟨by rfl, ?_⟩) ?_ ?_
     rotate_left
     · intro w'
       go_simp
       with_reducible rfl
     rotate_left
     · simp only [Act.put, List.setIfInBounds_toArray, List.set_cons_zero, List.set_cons_succ, i64_w, i32_w]
       rfl
     refine pure_ (i := 7) (N := some 40) (v := ?_) (a' := ?_) bQ55_8 rfl rfl (any_of HT_.out (by kernel_rfl)) (fun _ _ _ h => h) (Or.inl ⟨by rfl, ?_⟩) ?_ ?_
     rotate_left
     · intro w'
       go_simp
       with_reducible rfl
     rotate_left
     · simp only [Act.put, List.setIfInBounds_toArray, List.set_cons_zero, List.set_cons_succ, i64_w, i32_w]
       rfl
     refine pure_ (i := 8) (N := some 41) (v := ?_) (a' := ?_) bQ55_9 rfl rfl (any_of HT_.out (by kernel_rfl)) (fun _ _ _ h => h) (Or.inl ⟨by rfl, ?_⟩) ?_ ?_
     rotate_left
     · intro w'
       go_simp
       with_reducible rfl
     rotate_left
     · simp only [Act.put, List.setIfInBounds_toArray, List.set_cons_zero, List.set_cons_succ, i64_w, i32_w]
       rfl
     refine pure_ (i := 10) (N := some 43) (v := ?_) (a' := ?_) bQ55_31 rfl rfl (any_of HT_.out (by kernel_rfl)) (fun _ _ _ h => h) (Or.inl ⟨by rfl, ?_⟩) ?_ ?_
     rotate_left
     · intro w'
       go_simp
       with_reducible rfl
     rotate_left
     · simp only [Act.put, List.setIfInBounds_toArray, List.set_cons_zero, List.set_cons_succ, i64_w, i32_w]
       rfl
     refine take_ (i := 9) (N := some 42) (v := ?_) (a' := ?_) bQ55_11 rfl rfl (take_ofW HT_.out HW_.out (by kernel_rfl)) (fun _ _ _ h => h) (Or.inl ⟨by rfl, ?_⟩) hHeld ?_ ?_
     rotate_left
     · rintro w' ⟨s0, s1, s2, s3, s4, s5, s6⟩
       go_simp
       with_reducible rfl
     rotate_left
     · simp only [Act.put, List.setIfInBounds_toArray, List.set_cons_zero, List.set_cons_succ, i64_w, i32_w]
       rfl
     refine pure_ (i := 11) (N := some 44) (v := ?_) (a' := ?_) bQ55_12 rfl rfl (any_of HT_.out (by kernel_rfl)) (fun _ _ _ h => h) (Or.inl ⟨by rfl, ?_⟩) ?_ ?_
     rotate_left
     · intro w'
       go_simp
       with_reducible rfl
     rotate_left
     · simp only [Act.put, List.setIfInBounds_toArray, List.set_cons_zero, List.set_cons_succ, i64_w, i32_w]
       rfl
     refine take_ (i := 12) (N := some 45) (v := ?_) (a' := ?_) bQ55_13 rfl rfl (take_ofW HT_.out HW_.out (by kernel_rfl)) (fun _ _ _ h => h) (Or.inl ⟨by rfl, ?_⟩) hHeld ?_ ?_
     rotate_left
     · rintro w' ⟨s0, s1, s2, s3, s4, s5, s6⟩
       go_simp
       with_reducible rfl
     rotate_left
     · simp only [Act.put, List.setIfInBounds_toArray, List.set_cons_zero, List.set_cons_succ, i64_w, i32_w]
       rfl
     refine one_ (i := 13) (N := some 46) bQ55_14 rfl rfl (one_of HT_.out (by kernel_rfl)) (by decide) (fun K hK => ?_)
     refine goes_ Try.func43 (by kernel_rfl) rfl #[.int .i64 (rd l0_1 x4_2), .int .i64 1, .int .i64 60] (by rfl) rfl rfl (by (try simp only [List.map_toArray, List.map_cons, List.map_nil]); rfl) ?_
     with_reducible refine (spec_l01In.calls (rd l0_1 x4_2) 1 60 true _ A17.out).mono ?_
     rintro e w' ⟨rfl, ⟨nd, rfl⟩⟩
     refine ⟨_, rfl, ?_⟩
     refine hK.out _ _ ⟨(blk_cell BK381.out 0).trans rfl, (blk_cell BK381.out 1).trans rfl, (blk_cell BK381.out 2).trans rfl, ((HB.out.cell (World.block_lt_of_cell? w _ hw382_0)).trans hw382_0), ((HB.out.cell (World.block_lt_of_cell? w _ hw384_0)).trans hw384_0), ((HB.out.cell (World.block_lt_of_cell? w _ hw386_0)).trans hw386_0), ((HB.out.cell (World.block_lt_of_cell? w _ hw387_0)).trans hw387_0)⟩ (fun hHeld => ?_)
     clear hK K
     refine norm_ (a' := ?_) ?_ ?_
     rotate_left
     · show Act.put _ (some 46) _ = _
       simp only [Act.put, List.setIfInBounds_toArray, List.set_cons_zero, List.set_cons_succ, i64_w, i32_w]
       rfl
     refine pure_ (i := 14) (N := some 47) (v := ?_) (a' := ?_) bQ55_15 rfl rfl (any_of HT_.out (by kernel_rfl)) (fun _ _ _ h => h) (Or.inl ⟨by rfl, ?_⟩) ?_ ?_
     rotate_left
     · intro w'
       go_simp
       with_reducible rfl
     rotate_left
     · simp only [Act.put, List.setIfInBounds_toArray, List.set_cons_zero, List.set_cons_succ, i64_w, i32_w]
       rfl
     refine pure_ (i := 15) (N := some 48) (v := ?_) (a' := ?_) bQ55_16 rfl rfl (any_of HT_.out (by kernel_rfl)) (fun _ _ _ h => h) (Or.inl ⟨by rfl, ?_⟩) ?_ ?_
     rotate_left
     · intro w'
       go_simp
       with_reducible rfl
     rotate_left
     · simp only [Act.put, List.setIfInBounds_toArray, List.set_cons_zero, List.set_cons_succ, i64_w, i32_w]
       rfl
     refine pure_ (i := 16) (N := some 49) (v := ?_) (a' := ?_) bQ55_17 rfl rfl (any_of HT_.out (by kernel_rfl)) (fun _ _ _ h => h) (Or.inl ⟨by rfl, ?_⟩) ?_ ?_
     rotate_left
     · intro w'
       go_simp
       with_reducible rfl
     rotate_left
     · simp only [Act.put, List.setIfInBounds_toArray, List.set_cons_zero, List.set_cons_succ, i64_w, i32_w]
       rfl
     refine pure_ (i := 17) (N := some 50) (v := ?_) (a' := ?_) bQ55_18 rfl rfl (any_of HT_.out (by kernel_rfl)) (fun _ _ _ h => h) (Or.inl ⟨by rfl, ?_⟩) ?_ ?_
     rotate_left
     · intro w'
       go_simp
       with_reducible rfl
     rotate_left
     · simp only [Act.put, List.setIfInBounds_toArray, List.set_cons_zero, List.set_cons_succ, i64_w, i32_w]
       rfl
     refine pure_ (i := 19) (N := some 52) (v := ?_) (a' := ?_) bQ55_32 rfl rfl (any_of HT_.out (by kernel_rfl)) (fun _ _ _ h => h) (Or.inl ⟨by rfl, ?_⟩) ?_ ?_
     rotate_left
     · intro w'
       go_simp
       with_reducible rfl
     rotate_left
     · simp only [Act.put, List.setIfInBounds_toArray, List.set_cons_zero, List.set_cons_succ, i64_w, i32_w]
       rfl
     refine pure_ (i := 22) (N := some 55) (v := ?_) (a' := ?_) bQ55_33 rfl rfl (any_of HT_.out (by kernel_rfl)) (fun _ _ _ h => h) (Or.inl ⟨by rfl, ?_⟩) ?_ ?_
     rotate_left
     · intro w'
       go_simp
       with_reducible rfl
     rotate_left
     · simp only [Act.put, List.setIfInBounds_toArray, List.set_cons_zero, List.set_cons_succ, i64_w, i32_w]
       rfl
     refine pure_ (i := 24) (N := some 57) (v := ?_) (a' := ?_) bQ55_34 rfl rfl (any_of HT_.out (by kernel_rfl)) (fun _ _ _ h => h) (Or.inl ⟨by rfl, ?_⟩) ?_ ?_
     rotate_left
     · intro w'
       go_simp
       with_reducible rfl
     rotate_left
     · simp only [Act.put, List.setIfInBounds_toArray, List.set_cons_zero, List.set_cons_succ, i64_w, i32_w]
       rfl
     refine take_ (i := 18) (N := some 51) (v := ?_) (a' := ?_) bQ55_35 rfl rfl (take_ofW HT_.out HW_.out (by kernel_rfl)) (fun _ _ _ h => h) (Or.inl ⟨by rfl, ?_⟩) hHeld ?_ ?_
     rotate_left
     · rintro w' ⟨s0, s1, s2, s3, s4, s5, s6⟩
       go_simp
       with_reducible rfl
     rotate_left
     · simp only [Act.put, List.setIfInBounds_toArray, List.set_cons_zero, List.set_cons_succ, i64_w, i32_w]
       rfl
     refine pure_ (i := 20) (N := some 53) (v := ?_) (a' := ?_) bQ55_36 rfl rfl (any_of HT_.out (by kernel_rfl)) (fun _ _ _ h => h) (Or.inl ⟨by rfl, ?_⟩) ?_ ?_
     rotate_left
     · intro w'
       go_simp
       with_reducible rfl
     rotate_left
     · simp only [Act.put, List.setIfInBounds_toArray, List.set_cons_zero, List.set_cons_succ, i64_w, i32_w]
       rfl
     refine take_ (i := 21) (N := some 54) (v := ?_) (a' := ?_) bQ55_37 rfl rfl (take_ofW HT_.out HW_.out (by kernel_rfl)) (fun _ _ _ h => h) (Or.inl ⟨by rfl, ?_⟩) hHeld ?_ ?_
     rotate_left
     · rintro w' ⟨s0, s1, s2, s3, s4, s5, s6⟩
       go_simp
       with_reducible rfl
     rotate_left
     · simp only [Act.put, List.setIfInBounds_toArray, List.set_cons_zero, List.set_cons_succ, i64_w, i32_w]
       rfl
     refine take_ (i := 23) (N := some 56) (v := ?_) (a' := ?_) bQ55_25 rfl rfl (take_ofW HT_.out HW_.out (by kernel_rfl)) (fun _ _ _ h => h) (Or.inl ⟨by rfl, ?_⟩) hHeld ?_ ?_
     rotate_left
     · rintro w' ⟨s0, s1, s2, s3, s4, s5, s6⟩
       go_simp
       with_reducible rfl
     rotate_left
     · simp only [Act.put, List.setIfInBounds_toArray, List.set_cons_zero, List.set_cons_succ, i64_w, i32_w]
       rfl
     refine pure_ (i := 25) (N := some 58) (v := ?_) (a' := ?_) bQ55_26 rfl rfl (any_of HT_.out (by kernel_rfl)) (fun _ _ _ h => h) (Or.inl ⟨by rfl, ?_⟩) ?_ ?_
     rotate_left
     · intro w'
       go_simp
       with_reducible rfl
     rotate_left
     · simp only [Act.put, List.setIfInBounds_toArray, List.set_cons_zero, List.set_cons_succ, i64_w, i32_w]
       rfl
     refine take_ (i := 26) (N := some 59) (v := ?_) (a' := ?_) bQ55_27 rfl rfl (take_ofW HT_.out HW_.out (by kernel_rfl)) (fun _ _ _ h => h) (Or.inl ⟨by rfl, ?_⟩) hHeld ?_ ?_
     rotate_left
     · rintro w' ⟨s0, s1, s2, s3, s4, s5, s6⟩
       go_simp
       with_reducible rfl
     rotate_left
     · simp only [Act.put, List.setIfInBounds_toArray, List.set_cons_zero, List.set_cons_succ, i64_w, i32_w]
       rfl
     refine one_ (i := 27) (N := some 60) bQ55_28 rfl rfl (one_of HT_.out (by kernel_rfl)) (by decide) (fun K hK => ?_)
     refine goes_ Try.func43 (by kernel_rfl) rfl #[.int .i64 (rd l0_2 x4_2), .int .i64 1, .int .i64 (rd l0_1 x4_2)] (by rfl) rfl rfl (by (try simp only [List.map_toArray, List.map_cons, List.map_nil]); rfl) ?_
     with_reducible refine (spec_l01In.calls (rd l0_2 x4_2) 1 (rd l0_1 x4_2) false _ A20.out).mono ?_
     rintro e w' ⟨rfl, ⟨nd, rfl⟩⟩
     refine ⟨_, rfl, ?_⟩
     refine hK.out _ _ ⟨(blk_cell BK381.out 0).trans rfl, (blk_cell BK381.out 1).trans rfl, (blk_cell BK381.out 2).trans rfl, ((HB.out.cell (World.block_lt_of_cell? w _ hw382_0)).trans hw382_0), ((HB.out.cell (World.block_lt_of_cell? w _ hw384_0)).trans hw384_0), ((HB.out.cell (World.block_lt_of_cell? w _ hw386_0)).trans hw386_0), ((HB.out.cell (World.block_lt_of_cell? w _ hw387_0)).trans hw387_0)⟩ (fun hHeld => ?_)
     clear hK K
     refine norm_ (a' := ?_) ?_ ?_
     rotate_left
     · show Act.put _ (some 60) _ = _
       simp only [Act.put, List.setIfInBounds_toArray, List.set_cons_zero, List.set_cons_succ, i64_w, i32_w]
       rfl
     refine pure_ (i := 28) (N := some 61) (v := ?_) (a' := ?_) bQ55_29 rfl rfl (any_of HT_.out (by kernel_rfl)) (fun _ _ _ h => h) (Or.inl ⟨by rfl, ?_⟩) ?_ ?_
     rotate_left
     · intro w'
       go_simp
       with_reducible rfl
     rotate_left
     · simp only [Act.put, List.setIfInBounds_toArray, List.set_cons_zero, List.set_cons_succ, i64_w, i32_w]
       rfl
     refine pure_ (i := 29) (N := some 62) (v := ?_) (a' := ?_) bQ55_30 rfl rfl (any_of HT_.out (by kernel_rfl)) (fun _ _ _ h => h) (Or.inl ⟨by rfl, ?_⟩) ?_ ?_
     rotate_left
     · intro w'
       go_simp
       with_reducible rfl
     rotate_left
     · simp only [Act.put, List.setIfInBounds_toArray, List.set_cons_zero, List.set_cons_succ, i64_w, i32_w]
       rfl
     refine done_ (done_of HT_.out (by kernel_rfl)) ?_
     try go_wp2
     go_ret
     exact ⟨by rfl, by repeat (with_reducible first | exact HB.out | apply pw_below_drewN)⟩
   subst c21
   have H1 : (spec_l04Is.l0 k2 (l0_0.length : Int) (wrap64 (x4_2 + 1)) l0_0 l0_1 l0_2) = some r := by rw [if_pos rfl] at H; exact H
   clear H
   have H := H1
   clear H1
   have H' := Aside0.mk H
   clear H
   try go_wp2
   have n0_ := Aside0.mk (blk_drew BK381.out)
   have n1_ := Aside0.mk (below_drew1 HB.out)
   clear BK381
   clear HB
   have BK381 := n0_
   have HB := n1_
   clear n0_ n1_
   have p382 : 0 ≤ (x4_2 : Int) := of_decide_eq_true (by (with_reducible assumption))
   have q382 : x4_2 < (l0_0.length : Int) := of_decide_eq_true (by (with_reducible assumption))
   obtain ⟨ad382, e382, hx382_0⟩ := Kd.at_int HR0_0.out x4_2 p382 q382
   have hw382_0 := hx382_0
   cases e382
   replace hx382_0 := (HB.out.cell (World.block_lt_of_cell? w _ hx382_0)).trans hx382_0
   replace p382 := eq_true p382
   replace q382 := eq_true q382
   have p384 : 0 ≤ (x4_2 : Int) := of_decide_eq_true (by (with_reducible assumption))
   have q384 : x4_2 < (l0_1.length : Int) := of_decide_eq_true (by (with_reducible assumption))
   obtain ⟨ad384, e384, hx384_0⟩ := Kd.at_int HR0_1.out x4_2 p384 q384
   have hw384_0 := hx384_0
   cases e384
   replace hx384_0 := (HB.out.cell (World.block_lt_of_cell? w _ hx384_0)).trans hx384_0
   replace p384 := eq_true p384
   replace q384 := eq_true q384
   have p386 : 0 ≤ (x4_2 : Int) := of_decide_eq_true (by (with_reducible assumption))
   have q386 : x4_2 < (l0_2.length : Int) := of_decide_eq_true (by (with_reducible assumption))
   obtain ⟨ad386, e386, hx386_0⟩ := Kd.at_int HR0_2.out x4_2 p386 q386
   have hw386_0 := hx386_0
   cases e386
   replace hx386_0 := (HB.out.cell (World.block_lt_of_cell? w _ hx386_0)).trans hx386_0
   replace p386 := eq_true p386
   replace q386 := eq_true q386
   have p387 : 0 ≤ (x4_2 : Int) := of_decide_eq_true (by (with_reducible assumption))
   have q387 : x4_2 < (l0_1.length : Int) := of_decide_eq_true (by (with_reducible assumption))
   obtain ⟨ad387, e387, hx387_0⟩ := Kd.at_int HR0_1.out x4_2 p387 q387
   have hw387_0 := hx387_0
   obtain rfl : ad384 = ad387 := (by injection e387)
   replace hx387_0 := (HB.out.cell (World.block_lt_of_cell? w _ hx387_0)).trans hx387_0
   replace p387 := eq_true p387
   replace q387 := eq_true q387
   refine start_ (n := 30) (S := fun w' => w'.cell? ⟨gb381, 0, none⟩ = some (.slice (some ad382) l0_0.length c0_0) ∧ w'.cell? ⟨gb381, 1, none⟩ = some (.slice (some ad384) l0_1.length c0_1) ∧ w'.cell? ⟨gb381, 2, none⟩ = some (.slice (some ad386) l0_2.length c0_2) ∧ w'.cell? (ad382.add (x4_2).toNat) = some (.int .i64 (rd l0_0 x4_2)) ∧ w'.cell? (ad384.add (x4_2).toNat) = some (.int .i64 (rd l0_1 x4_2)) ∧ w'.cell? (ad386.add (x4_2).toNat) = some (.int .i64 (rd l0_2 x4_2)) ∧ w'.cell? (ad384.add (x4_2).toNat) = some (.int .i64 (rd l0_1 x4_2))) (ds := []) bQ55_0 (by kernel_rfl) rfl rfl ⟨(blk_cell BK381.out 0).trans rfl, (blk_cell BK381.out 1).trans rfl, (blk_cell BK381.out 2).trans rfl, ((HB.out.cell (World.block_lt_of_cell? w _ hw382_0)).trans hw382_0), ((HB.out.cell (World.block_lt_of_cell? w _ hw384_0)).trans hw384_0), ((HB.out.cell (World.block_lt_of_cell? w _ hw386_0)).trans hw386_0), ((HB.out.cell (World.block_lt_of_cell? w _ hw387_0)).trans hw387_0)⟩ (fun hHeld => ?_); refine with_tabW spec_l04Is.tab7 spec_l04Is.bits7 (fun HT_ HW_ => ?_)
   generalize wr.drew = w22 at BK381 HB hx382_0 hx384_0 hx386_0 hx387_0 hHeld ⊢
   refine pure_ (i := 0) (N := some 33) (v := ?_) (a' := ?_) bQ55_1 rfl rfl (any_of HT_.out (by kernel_rfl)) (fun _ _ _ h => h) (Or.inl ⟨by rfl, ?_⟩) ?_ ?_
   rotate_left
   · intro w'
     go_simp
     with_reducible rfl
   rotate_left
   · simp only [Act.put, List.setIfInBounds_toArray, List.set_cons_zero, List.set_cons_succ, i64_w, i32_w]
     rfl
   refine pure_ (i := 2) (N := some 35) (v := ?_) (a' := ?_) bQ55_2 rfl rfl (any_of HT_.out (by kernel_rfl)) (fun _ _ _ h => h) (Or.inl ⟨by rfl, ?_⟩) ?_ ?_
   rotate_left
   · intro w'
     go_simp
     with_reducible rfl
   rotate_left
   · simp only [Act.put, List.setIfInBounds_toArray, List.set_cons_zero, List.set_cons_succ, i64_w, i32_w]
     rfl
   refine take_ (i := 1) (N := some 34) (v := ?_) (a' := ?_) bQ55_3 rfl rfl (take_ofW HT_.out HW_.out (by kernel_rfl)) (fun _ _ _ h => h) (Or.inl ⟨by rfl, ?_⟩) hHeld ?_ ?_
   rotate_left
   · rintro w' ⟨s0, s1, s2, s3, s4, s5, s6⟩
     go_simp
     with_reducible rfl
   rotate_left
   · simp only [Act.put, List.setIfInBounds_toArray, List.set_cons_zero, List.set_cons_succ, i64_w, i32_w]
     rfl
   refine pure_ (i := 3) (N := some 36) (v := ?_) (a' := ?_) bQ55_4 rfl rfl (any_of HT_.out (by kernel_rfl)) (fun _ _ _ h => h) (Or.inl ⟨by rfl, ?_⟩) ?_ ?_
   rotate_left
   · intro w'
     go_simp
     with_reducible rfl
   rotate_left
   · simp only [Act.put, List.setIfInBounds_toArray, List.set_cons_zero, List.set_cons_succ, i64_w, i32_w]
     rfl
   refine take_ (i := 4) (N := some 37) (v := ?_) (a' := ?_) bQ55_5 rfl rfl (take_ofW HT_.out HW_.out (by kernel_rfl)) (fun _ _ _ h => h) (Or.inl ⟨by rfl, ?_⟩) hHeld ?_ ?_
   rotate_left
   · rintro w' ⟨s0, s1, s2, s3, s4, s5, s6⟩
     go_simp
     with_reducible rfl
   rotate_left
   · simp only [Act.put, List.setIfInBounds_toArray, List.set_cons_zero, List.set_cons_succ, i64_w, i32_w]
     rfl
   refine one_ (i := 5) (N := some 38) bQ55_6 rfl rfl (one_of HT_.out (by kernel_rfl)) (by decide) (fun K hK => ?_)
   refine goes_ Try.func43 (by kernel_rfl) rfl #[.int .i64 (rd l0_0 x4_2), .int .i64 1, .int .i64 20] (by rfl) rfl rfl (by (try simp only [List.map_toArray, List.map_cons, List.map_nil]); rfl) ?_
   with_reducible refine (spec_l01In.calls (rd l0_0 x4_2) 1 20 true _ A14.out).mono ?_
   rintro e w' ⟨rfl, ⟨nd, rfl⟩⟩
   refine ⟨_, rfl, ?_⟩
   refine hK.out _ _ ⟨(blk_cell BK381.out 0).trans rfl, (blk_cell BK381.out 1).trans rfl, (blk_cell BK381.out 2).trans rfl, ((HB.out.cell (World.block_lt_of_cell? w _ hw382_0)).trans hw382_0), ((HB.out.cell (World.block_lt_of_cell? w _ hw384_0)).trans hw384_0), ((HB.out.cell (World.block_lt_of_cell? w _ hw386_0)).trans hw386_0), ((HB.out.cell (World.block_lt_of_cell? w _ hw387_0)).trans hw387_0)⟩ (fun hHeld => ?_)
   clear hK K
   refine norm_ (a' := ?_) ?_ ?_
   rotate_left
   · show Act.put _ (some 38) _ = _
     simp only [Act.put, List.setIfInBounds_toArray, List.set_cons_zero, List.set_cons_succ, i64_w, i32_w]
     rfl
   refine pure_ (i := 6) (N := some 39) (v := ?_) (a' := ?_) bQ55_7 rfl rfl (any_of HT_.out (by kernel_rfl)) (fun _ _ _ h => h) (Or.inl ⟨by rfl, ?_⟩) ?_ ?_
   rotate_left
   · intro w'
     go_simp
     with_reducible rfl
   rotate_left
   · simp only [Act.put, List.setIfInBounds_toArray, List.set_cons_zero, List.set_cons_succ, i64_w, i32_w]
     rfl
   refine pure_ (i := 7) (N := some 40) (v := ?_) (a' := ?_) bQ55_8 rfl rfl (any_of HT_.out (by kernel_rfl)) (fun _ _ _ h => h) (Or.inl ⟨by rfl, ?_⟩) ?_ ?_
   rotate_left
   · intro w'
     go_simp
     with_reducible rfl
   rotate_left
   · simp only [Act.put, List.setIfInBounds_toArray, List.set_cons_zero, List.set_cons_succ, i64_w, i32_w]
     rfl
   refine pure_ (i := 8) (N := some 41) (v := ?_) (a' := ?_) bQ55_9 rfl rfl (any_of HT_.out (by kernel_rfl)) (fun _ _ _ h => h) (Or.inl ⟨by rfl, ?_⟩) ?_ ?_
   rotate_left
   · intro w'
     go_simp
     with_reducible rfl
   rotate_left
   · simp only [Act.put, List.setIfInBounds_toArray, List.set_cons_zero, List.set_cons_succ, i64_w, i32_w]
     rfl
   refine pure_ (i := 10) (N := some 43) (v := ?_) (a' := ?_) bQ55_31 rfl rfl (any_of HT_.out (by kernel_rfl)) (fun _ _ _ h => h) (Or.inl ⟨by rfl, ?_⟩) ?_ ?_
   rotate_left
   · intro w'
     go_simp
     with_reducible rfl
   rotate_left
   · simp only [Act.put, List.setIfInBounds_toArray, List.set_cons_zero, List.set_cons_succ, i64_w, i32_w]
     rfl
   refine take_ (i := 9) (N := some 42) (v := ?_) (a' := ?_) bQ55_11 rfl rfl (take_ofW HT_.out HW_.out (by kernel_rfl)) (fun _ _ _ h => h) (Or.inl ⟨by rfl, ?_⟩) hHeld ?_ ?_
   rotate_left
   · rintro w' ⟨s0, s1, s2, s3, s4, s5, s6⟩
     go_simp
     with_reducible rfl
   rotate_left
   · simp only [Act.put, List.setIfInBounds_toArray, List.set_cons_zero, List.set_cons_succ, i64_w, i32_w]
     rfl
   refine pure_ (i := 11) (N := some 44) (v := ?_) (a' := ?_) bQ55_12 rfl rfl (any_of HT_.out (by kernel_rfl)) (fun _ _ _ h => h) (Or.inl ⟨by rfl, ?_⟩) ?_ ?_
   rotate_left
   · intro w'
     go_simp
     with_reducible rfl
   rotate_left
   · simp only [Act.put, List.setIfInBounds_toArray, List.set_cons_zero, List.set_cons_succ, i64_w, i32_w]
     rfl
   refine take_ (i := 12) (N := some 45) (v := ?_) (a' := ?_) bQ55_13 rfl rfl (take_ofW HT_.out HW_.out (by kernel_rfl)) (fun _ _ _ h => h) (Or.inl ⟨by rfl, ?_⟩) hHeld ?_ ?_
   rotate_left
   · rintro w' ⟨s0, s1, s2, s3, s4, s5, s6⟩
     go_simp
     with_reducible rfl
   rotate_left
   · simp only [Act.put, List.setIfInBounds_toArray, List.set_cons_zero, List.set_cons_succ, i64_w, i32_w]
     rfl
   refine one_ (i := 13) (N := some 46) bQ55_14 rfl rfl (one_of HT_.out (by kernel_rfl)) (by decide) (fun K hK => ?_)
   refine goes_ Try.func43 (by kernel_rfl) rfl #[.int .i64 (rd l0_1 x4_2), .int .i64 1, .int .i64 60] (by rfl) rfl rfl (by (try simp only [List.map_toArray, List.map_cons, List.map_nil]); rfl) ?_
   with_reducible refine (spec_l01In.calls (rd l0_1 x4_2) 1 60 true _ A17.out).mono ?_
   rintro e w' ⟨rfl, ⟨nd, rfl⟩⟩
   refine ⟨_, rfl, ?_⟩
   refine hK.out _ _ ⟨(blk_cell BK381.out 0).trans rfl, (blk_cell BK381.out 1).trans rfl, (blk_cell BK381.out 2).trans rfl, ((HB.out.cell (World.block_lt_of_cell? w _ hw382_0)).trans hw382_0), ((HB.out.cell (World.block_lt_of_cell? w _ hw384_0)).trans hw384_0), ((HB.out.cell (World.block_lt_of_cell? w _ hw386_0)).trans hw386_0), ((HB.out.cell (World.block_lt_of_cell? w _ hw387_0)).trans hw387_0)⟩ (fun hHeld => ?_)
   clear hK K
   refine norm_ (a' := ?_) ?_ ?_
   rotate_left
   · show Act.put _ (some 46) _ = _
     simp only [Act.put, List.setIfInBounds_toArray, List.set_cons_zero, List.set_cons_succ, i64_w, i32_w]
     rfl
   refine pure_ (i := 14) (N := some 47) (v := ?_) (a' := ?_) bQ55_15 rfl rfl (any_of HT_.out (by kernel_rfl)) (fun _ _ _ h => h) (Or.inl ⟨by rfl, ?_⟩) ?_ ?_
   rotate_left
   · intro w'
     go_simp
     with_reducible rfl
   rotate_left
   · simp only [Act.put, List.setIfInBounds_toArray, List.set_cons_zero, List.set_cons_succ, i64_w, i32_w]
     rfl
   refine pure_ (i := 15) (N := some 48) (v := ?_) (a' := ?_) bQ55_16 rfl rfl (any_of HT_.out (by kernel_rfl)) (fun _ _ _ h => h) (Or.inl ⟨by rfl, ?_⟩) ?_ ?_
   rotate_left
   · intro w'
     go_simp
     with_reducible rfl
   rotate_left
   · simp only [Act.put, List.setIfInBounds_toArray, List.set_cons_zero, List.set_cons_succ, i64_w, i32_w]
     rfl
   refine pure_ (i := 16) (N := some 49) (v := ?_) (a' := ?_) bQ55_17 rfl rfl (any_of HT_.out (by kernel_rfl)) (fun _ _ _ h => h) (Or.inl ⟨by rfl, ?_⟩) ?_ ?_
   rotate_left
   · intro w'
     go_simp
     with_reducible rfl
   rotate_left
   · simp only [Act.put, List.setIfInBounds_toArray, List.set_cons_zero, List.set_cons_succ, i64_w, i32_w]
     rfl
   refine pure_ (i := 17) (N := some 50) (v := ?_) (a' := ?_) bQ55_18 rfl rfl (any_of HT_.out (by kernel_rfl)) (fun _ _ _ h => h) (Or.inl ⟨by rfl, ?_⟩) ?_ ?_
   rotate_left
   · intro w'
     go_simp
     with_reducible rfl
   rotate_left
   · simp only [Act.put, List.setIfInBounds_toArray, List.set_cons_zero, List.set_cons_succ, i64_w, i32_w]
     rfl
   refine pure_ (i := 19) (N := some 52) (v := ?_) (a' := ?_) bQ55_32 rfl rfl (any_of HT_.out (by kernel_rfl)) (fun _ _ _ h => h) (Or.inl ⟨by rfl, ?_⟩) ?_ ?_
   rotate_left
   · intro w'
     go_simp
     with_reducible rfl
   rotate_left
   · simp only [Act.put, List.setIfInBounds_toArray, List.set_cons_zero, List.set_cons_succ, i64_w, i32_w]
     rfl
   refine pure_ (i := 22) (N := some 55) (v := ?_) (a' := ?_) bQ55_33 rfl rfl (any_of HT_.out (by kernel_rfl)) (fun _ _ _ h => h) (Or.inl ⟨by rfl, ?_⟩) ?_ ?_
   rotate_left
   · intro w'
     go_simp
     with_reducible rfl
   rotate_left
   · simp only [Act.put, List.setIfInBounds_toArray, List.set_cons_zero, List.set_cons_succ, i64_w, i32_w]
     rfl
   refine pure_ (i := 24) (N := some 57) (v := ?_) (a' := ?_) bQ55_34 rfl rfl (any_of HT_.out (by kernel_rfl)) (fun _ _ _ h => h) (Or.inl ⟨by rfl, ?_⟩) ?_ ?_
   rotate_left
   · intro w'
     go_simp
     with_reducible rfl
   rotate_left
   · simp only [Act.put, List.setIfInBounds_toArray, List.set_cons_zero, List.set_cons_succ, i64_w, i32_w]
     rfl
   refine take_ (i := 18) (N := some 51) (v := ?_) (a' := ?_) bQ55_35 rfl rfl (take_ofW HT_.out HW_.out (by kernel_rfl)) (fun _ _ _ h => h) (Or.inl ⟨by rfl, ?_⟩) hHeld ?_ ?_
   rotate_left
   · rintro w' ⟨s0, s1, s2, s3, s4, s5, s6⟩
     go_simp
     with_reducible rfl
   rotate_left
   · simp only [Act.put, List.setIfInBounds_toArray, List.set_cons_zero, List.set_cons_succ, i64_w, i32_w]
     rfl
   refine pure_ (i := 20) (N := some 53) (v := ?_) (a' := ?_) bQ55_36 rfl rfl (any_of HT_.out (by kernel_rfl)) (fun _ _ _ h => h) (Or.inl ⟨by rfl, ?_⟩) ?_ ?_
   rotate_left
   · intro w'
     go_simp
     with_reducible rfl
   rotate_left
   · simp only [Act.put, List.setIfInBounds_toArray, List.set_cons_zero, List.set_cons_succ, i64_w, i32_w]
     rfl
   refine take_ (i := 21) (N := some 54) (v := ?_) (a' := ?_) bQ55_37 rfl rfl (take_ofW HT_.out HW_.out (by kernel_rfl)) (fun _ _ _ h => h) (Or.inl ⟨by rfl, ?_⟩) hHeld ?_ ?_
   rotate_left
   · rintro w' ⟨s0, s1, s2, s3, s4, s5, s6⟩
     go_simp
     with_reducible rfl
   rotate_left
   · simp only [Act.put, List.setIfInBounds_toArray, List.set_cons_zero, List.set_cons_succ, i64_w, i32_w]
     rfl
   refine take_ (i := 23) (N := some 56) (v := ?_) (a' := ?_) bQ55_25 rfl rfl (take_ofW HT_.out HW_.out (by kernel_rfl)) (fun _ _ _ h => h) (Or.inl ⟨by rfl, ?_⟩) hHeld ?_ ?_
   rotate_left
   · rintro w' ⟨s0, s1, s2, s3, s4, s5, s6⟩
     go_simp
     with_reducible rfl
   rotate_left
   · simp only [Act.put, List.setIfInBounds_toArray, List.set_cons_zero, List.set_cons_succ, i64_w, i32_w]
     rfl
   refine pure_ (i := 25) (N := some 58) (v := ?_) (a' := ?_) bQ55_26 rfl rfl (any_of HT_.out (by kernel_rfl)) (fun _ _ _ h => h) (Or.inl ⟨by rfl, ?_⟩) ?_ ?_
   rotate_left
   · intro w'
     go_simp
     with_reducible rfl
   rotate_left
   · simp only [Act.put, List.setIfInBounds_toArray, List.set_cons_zero, List.set_cons_succ, i64_w, i32_w]
     rfl
   refine take_ (i := 26) (N := some 59) (v := ?_) (a' := ?_) bQ55_27 rfl rfl (take_ofW HT_.out HW_.out (by kernel_rfl)) (fun _ _ _ h => h) (Or.inl ⟨by rfl, ?_⟩) hHeld ?_ ?_
   rotate_left
   · rintro w' ⟨s0, s1, s2, s3, s4, s5, s6⟩
     go_simp
     with_reducible rfl
   rotate_left
   · simp only [Act.put, List.setIfInBounds_toArray, List.set_cons_zero, List.set_cons_succ, i64_w, i32_w]
     rfl
   refine one_ (i := 27) (N := some 60) bQ55_28 rfl rfl (one_of HT_.out (by kernel_rfl)) (by decide) (fun K hK => ?_)
   refine goes_ Try.func43 (by kernel_rfl) rfl #[.int .i64 (rd l0_2 x4_2), .int .i64 1, .int .i64 (rd l0_1 x4_2)] (by rfl) rfl rfl (by (try simp only [List.map_toArray, List.map_cons, List.map_nil]); rfl) ?_
   with_reducible refine (spec_l01In.calls (rd l0_2 x4_2) 1 (rd l0_1 x4_2) true _ A20.out).mono ?_
   rintro e w' ⟨rfl, ⟨nd, rfl⟩⟩
   refine ⟨_, rfl, ?_⟩
   refine hK.out _ _ ⟨(blk_cell BK381.out 0).trans rfl, (blk_cell BK381.out 1).trans rfl, (blk_cell BK381.out 2).trans rfl, ((HB.out.cell (World.block_lt_of_cell? w _ hw382_0)).trans hw382_0), ((HB.out.cell (World.block_lt_of_cell? w _ hw384_0)).trans hw384_0), ((HB.out.cell (World.block_lt_of_cell? w _ hw386_0)).trans hw386_0), ((HB.out.cell (World.block_lt_of_cell? w _ hw387_0)).trans hw387_0)⟩ (fun hHeld => ?_)
   clear hK K
   refine norm_ (a' := ?_) ?_ ?_
   rotate_left
   · show Act.put _ (some 60) _ = _
     simp only [Act.put, List.setIfInBounds_toArray, List.set_cons_zero, List.set_cons_succ, i64_w, i32_w]
     rfl
   refine pure_ (i := 28) (N := some 61) (v := ?_) (a' := ?_) bQ55_29 rfl rfl (any_of HT_.out (by kernel_rfl)) (fun _ _ _ h => h) (Or.inl ⟨by rfl, ?_⟩) ?_ ?_
   rotate_left
   · intro w'
     go_simp
     with_reducible rfl
   rotate_left
   · simp only [Act.put, List.setIfInBounds_toArray, List.set_cons_zero, List.set_cons_succ, i64_w, i32_w]
     rfl
   refine pure_ (i := 29) (N := some 62) (v := ?_) (a' := ?_) bQ55_30 rfl rfl (any_of HT_.out (by kernel_rfl)) (fun _ _ _ h => h) (Or.inl ⟨by rfl, ?_⟩) ?_ ?_
   rotate_left
   · intro w'
     go_simp
     with_reducible rfl
   rotate_left
   · simp only [Act.put, List.setIfInBounds_toArray, List.set_cons_zero, List.set_cons_succ, i64_w, i32_w]
     rfl
   refine done_ (done_of HT_.out (by kernel_rfl)) ?_
   try go_wp2
   go_roundg k2
   case measure => have := HJ1.out; have := HK2.out; omega
   case rel => exact ⟨(wrap64 (x4_2 + 1)), (by rfl), H', ⟨by have := HJ1.out; have := HK2.out; omega⟩, ⟨by (with_reducible repeat (refine blk_drewN ?_ _)); exact BK381.out⟩, ⟨by repeat (with_reducible first | exact HB.out | apply pw_below_drewN)⟩⟩
end Go.Proofs.Ytoakdilhljnjfaa.Q
namespace Go.Proofs.Ytoakdilhljnjfaa.Q
open Go.RowKit Go.Proofs.YtoakdilhljnjfaaW.PrintWords Go.Proofs.YtoakdilhljnjfaaW.PrintLast Go.Proofs.YtoakdilhljnjfaaW.PrintMore
attribute [local go_sem] max2_int min2_int max_two min_two max_three min_three max_four min_four   -- for this text's walks alone
set_option linter.unusedVariables false
set_option linter.unusedSimpArgs false
def impl_Jobs_many.f (l0_0 : List Int) (l0_1 : List Int) (l0_2 : List Int) : Option (Int) := (impl_length_int64.f l0_0).bind fun t326 => (some t326)
set_option maxHeartbeats 8000000 in
set_option maxRecDepth 100000 in
theorem impl_Jobs_many.calls (A0_0 : Option Addr) (c0_0 : Nat) (l0_0 : List Int) (A0_1 : Option Addr) (c0_1 : Nat) (l0_1 : List Int) (A0_2 : Option Addr) (c0_2 : Nat) (l0_2 : List Int) (r : Int) (w : World) (hr0_0 : Kd.C (Kd.int .i64) w A0_0 l0_0.length l0_0) (hc0_0 : l0_0.length ≤ c0_0) (hr0_1 : Kd.C (Kd.int .i64) w A0_1 l0_1.length l0_1) (hc0_1 : l0_1.length ≤ c0_1) (hr0_2 : Kd.C (Kd.int .i64) w A0_2 l0_2.length l0_2) (hc0_2 : l0_2.length ≤ c0_2) (h : impl_Jobs_many.f l0_0 l0_1 l0_2 = some r) :
 Calls Try.prog 76 #[.agg #[.slice A0_0 l0_0.length c0_0, .slice A0_1 l0_1.length c0_1, .slice A0_2 l0_2.length c0_2]] w fun e w' => e = .returned (.int .i64 r) ∧ Below w.heap.size w w' := by
 have hu33 := Try.underlying33
 have HR0_0 := Aside0.mk hr0_0
 have HC0_0 := Aside0.mk hc0_0
 clear hr0_0 hc0_0
 have HR0_1 := Aside0.mk hr0_1
 have HC0_1 := Aside0.mk hc0_1
 clear hr0_1 hc0_1
 have HR0_2 := Aside0.mk hr0_2
 have HC0_2 := Aside0.mk hc0_2
 clear hr0_2 hc0_2
 have HB := Aside0.mk (Below.refl w.heap.size w)
 have H : ((impl_length_int64.f l0_0).bind fun t326 => (some t326)) = some r := h
 clear h
 replace H := Option.bind_eq_some_iff.mp H
 obtain ⟨t326, A20, H⟩ := H
 replace H : (some t326) = some r := H
 have A2 := Aside0.mk A20
 clear A20
 obtain rfl := Option.some.inj H
 go_enter Try.func76, Try.ntmps76
 go_wp2_with (first | ((with_reducible refine gate_dst (N := 1) rfl ?_); refine box_event ?hg (N := 1) ?hd (cs := #[.slice A0_0 l0_0.length c0_0, .slice A0_1 l0_1.length c0_1, .slice A0_2 l0_2.length c0_2]) (t := 33) ?hr ?_; (case hd => rfl); (case hg => rfl); (case hr => (go_simp; done)); intro gb325 hg w3 hbox hb; have n0_ := Aside0.mk (below_step HB.out hb); have n1_ := Aside0.mk (hbox); have n2_ := Aside0.mk ((by rw [hg]; exact (below_size HB.out) : w.heap.size ≤ gb325)); have n3_ := Aside0.mk ((by rw [hg]; exact (below_size HB.out) : w.heap.size ≤ gb325)); clear HB; have HB := n0_; have BK325 := n1_; have GW325 := n2_; have GE325 := n3_; clear n0_ n1_ n2_ n3_; clear hb hbox hg; have hcz4_0 : w3.cell? ⟨gb325, 0, none⟩ = some (.slice A0_0 l0_0.length c0_0) := (blk_cell BK325.out 0).trans rfl; have hcz4_1 : w3.cell? ⟨gb325, 1, none⟩ = some (.slice A0_1 l0_1.length c0_1) := (blk_cell BK325.out 1).trans rfl; have hcz4_2 : w3.cell? ⟨gb325, 2, none⟩ = some (.slice A0_2 l0_2.length c0_2) := (blk_cell BK325.out 2).trans rfl; have hfz4_0 := blk_frozen BK325.out 0; have hfz4_1 := blk_frozen BK325.out 1; have hfz4_2 := blk_frozen BK325.out 2) | ((with_reducible refine gate_callee (f := 45) rfl ?_); refine goesL_ (some 5) rfl rfl Try.func45 (by kernel_rfl) rfl #[.slice A0_0 l0_0.length c0_0] rfl (by (try simp only [List.map_toArray, List.map_cons, List.map_nil]); rfl) ?_; (with_reducible refine (impl_length_int64.calls _ _ l0_0 t326 _ ?side1 ?side2 A2.out).mono ?_); (case side1 => exact (Kd.C_below HR0_0.out HB.out)); (case side2 => exact HC0_0.out); rintro e w' ⟨rfl, ⟨nd, rfl⟩⟩; refine ⟨_, rfl, ?_⟩))
 go_ret
 exact ⟨by rfl, by repeat (with_reducible first | exact HB.out | apply pw_below_drewN)⟩
end Go.Proofs.Ytoakdilhljnjfaa.Q
namespace Go.Proofs.Ytoakdilhljnjfaa.Q
open Go.RowKit Go.Proofs.YtoakdilhljnjfaaW.PrintWords Go.Proofs.YtoakdilhljnjfaaW.PrintLast Go.Proofs.YtoakdilhljnjfaaW.PrintMore
attribute [local go_sem] max2_int min2_int max_two min_two max_three min_three max_four min_four   -- for this text's walks alone
set_option linter.unusedVariables false
set_option linter.unusedSimpArgs false
mutual
def impl_AreJobs.j0 : Nat → Bool → List Int → List Int → List Int → Option (Bool)
 | 0, _, _, _, _ => none
 | k + 1, x26, x328000, x328001, x328002 => if x26 = true then (some false) else (impl_AreJobs.l0 k x328001 (x328001.length : Int) 0 x328000 x328001 x328002)
def impl_AreJobs.l0 : Nat → List Int → Int → Int → List Int → List Int → List Int → Option (Bool)
 | 0, _, _, _, _, _, _ => none
 | k + 1, x28, x29, x30, x328000, x328001, x328002 => if x30 < x29 then (if 0 ≤ x30 then (if x30 < (x28.length : Int) then ((impl_within.f (rd x28 x30) 1 60).bind fun t331 => (if t331 = true then (if x30 < (x328000.length : Int) then ((impl_within.f (rd x328000 x30) 1 20).bind fun t333 => (if t333 = true then (if x30 < (x328002.length : Int) then ((impl_within.f (rd x328002 x30) 1 (rd x28 x30)).bind fun t335 => (if t335 = true then (impl_AreJobs.l0 k x28 x29 (wrap64 (x30 + 1)) x328000 x328001 x328002) else (some false))) else (none)) else (some false))) else (none)) else (some false))) else (none)) else (none)) else (some true)
end
def impl_AreJobs.f (k : Nat) (l0_0 : List Int) (l0_1 : List Int) (l0_2 : List Int) : Option (Bool) := (impl_Jobs_many.f l0_0 l0_1 l0_2).bind fun t328 => ((impl_within.f t328 1 8).bind fun t329 => (if t329 = true then (if (l0_1.length : Int) = (l0_0.length : Int) then (impl_AreJobs.j0 k ((l0_2.length : Int) != (l0_0.length : Int)) l0_0 l0_1 l0_2) else (impl_AreJobs.j0 k true l0_0 l0_1 l0_2)) else (impl_AreJobs.j0 k true l0_0 l0_1 l0_2)))
set_option maxHeartbeats 8000000 in
set_option maxRecDepth 100000 in
theorem impl_AreJobs.calls (k : Nat) (A0_0 : Option Addr) (c0_0 : Nat) (l0_0 : List Int) (A0_1 : Option Addr) (c0_1 : Nat) (l0_1 : List Int) (A0_2 : Option Addr) (c0_2 : Nat) (l0_2 : List Int) (r : Bool) (w : World) (hr0_0 : Kd.C (Kd.int .i64) w A0_0 l0_0.length l0_0) (hc0_0 : l0_0.length ≤ c0_0) (hr0_1 : Kd.C (Kd.int .i64) w A0_1 l0_1.length l0_1) (hc0_1 : l0_1.length ≤ c0_1) (hr0_2 : Kd.C (Kd.int .i64) w A0_2 l0_2.length l0_2) (hc0_2 : l0_2.length ≤ c0_2) (h : impl_AreJobs.f k l0_0 l0_1 l0_2 = some r) :
 Calls Try.prog 37 #[.agg #[.slice A0_0 l0_0.length c0_0, .slice A0_1 l0_1.length c0_1, .slice A0_2 l0_2.length c0_2]] w fun e w' => e = .returned (.bool r) ∧ Below w.heap.size w w' := by
 have hu33 := Try.underlying33
 have HR0_0 := Aside0.mk hr0_0
 have HC0_0 := Aside0.mk hc0_0
 clear hr0_0 hc0_0
 have HR0_1 := Aside0.mk hr0_1
 have HC0_1 := Aside0.mk hc0_1
 clear hr0_1 hc0_1
 have HR0_2 := Aside0.mk hr0_2
 have HC0_2 := Aside0.mk hc0_2
 clear hr0_2 hc0_2
 have HB := Aside0.mk (Below.refl w.heap.size w)
 have H : ((impl_Jobs_many.f l0_0 l0_1 l0_2).bind fun t328 => ((impl_within.f t328 1 8).bind fun t329 => (if t329 = true then (if (l0_1.length : Int) = (l0_0.length : Int) then (impl_AreJobs.j0 k ((l0_2.length : Int) != (l0_0.length : Int)) l0_0 l0_1 l0_2) else (impl_AreJobs.j0 k true l0_0 l0_1 l0_2)) else (impl_AreJobs.j0 k true l0_0 l0_1 l0_2)))) = some r := h
 clear h
 have HC2 := Aside0.mk H
 clear H
 go_enter Try.func37, Try.ntmps37
 go_upto_region 1 with (((with_reducible refine gate_dst (N := 1) rfl ?_); (try (refine gate_guard (by rfl) ?_; dsimp only)); refine box_event ?hg (N := 1) ?hd (cs := #[.slice A0_0 l0_0.length c0_0, .slice A0_1 l0_1.length c0_1, .slice A0_2 l0_2.length c0_2]) (t := 33) ?hr ?_; (case hd => rfl); (case hg => rfl); (case hr => (go_simp; done)); intro gb327 hg w3 hbox hb; have n0_ := Aside0.mk (below_step HB.out hb); have n1_ := Aside0.mk (hbox); have n2_ := Aside0.mk ((by rw [hg]; exact (below_size HB.out) : w.heap.size ≤ gb327)); have n3_ := Aside0.mk ((by rw [hg]; exact (below_size HB.out) : w.heap.size ≤ gb327)); clear HB; have HB := n0_; have BK327 := n1_; have GW327 := n2_; have GE327 := n3_; clear n0_ n1_ n2_ n3_; clear hb hbox hg))
 (try simp only [Act.put, List.setIfInBounds_toArray, List.set_cons_zero, List.set_cons_succ])
 go_cut [26] (fun v26 wc => ∃ (kq : Nat) (x26_1 : Bool), v26 = .bool x26_1 ∧ Aside0 (impl_AreJobs.j0 kq x26_1 l0_0 l0_1 l0_2 = some r) ∧ Aside0 (kq ≤ k) ∧ Aside0 (wc.heap[gb327]? = some (.cells #[(.slice A0_0 l0_0.length c0_0), (.slice A0_1 l0_1.length c0_1), (.slice A0_2 l0_2.length c0_2)] 33 (0, 0))) ∧ Aside0 (Below w.heap.size w wc))
 case first =>
  have H := HC2.out
  clear HC2
  replace H := Option.bind_eq_some_iff.mp H
  obtain ⟨t328, A40, H⟩ := H
  replace H : ((impl_within.f t328 1 8).bind fun t329 => (if t329 = true then (if (l0_1.length : Int) = (l0_0.length : Int) then (impl_AreJobs.j0 k ((l0_2.length : Int) != (l0_0.length : Int)) l0_0 l0_1 l0_2) else (impl_AreJobs.j0 k true l0_0 l0_1 l0_2)) else (impl_AreJobs.j0 k true l0_0 l0_1 l0_2))) = some r := H
  have A4 := Aside0.mk A40
  clear A40
  replace H := Option.bind_eq_some_iff.mp H
  obtain ⟨t329, A50, H⟩ := H
  replace H : (if t329 = true then (if (l0_1.length : Int) = (l0_0.length : Int) then (impl_AreJobs.j0 k ((l0_2.length : Int) != (l0_0.length : Int)) l0_0 l0_1 l0_2) else (impl_AreJobs.j0 k true l0_0 l0_1 l0_2)) else (impl_AreJobs.j0 k true l0_0 l0_1 l0_2)) = some r := H
  have A5 := Aside0.mk A50
  clear A50
  by_cases c6 : t329 = true
  rotate_left
  · replace c6 := Bool.eq_false_iff.mpr c6
    subst c6
    have H1 : (impl_AreJobs.j0 k true l0_0 l0_1 l0_2) = some r := by rw [if_neg (show ¬ (false = true) by decide)] at H; exact H
    clear H
    have H := H1
    clear H1
    have H' := Aside0.mk H
    clear H
    have hcz14_0 : w3.cell? ⟨gb327, 0, none⟩ = some (.slice A0_0 l0_0.length c0_0) := (blk_cell BK327.out 0).trans rfl
    have hcz14_1 : w3.cell? ⟨gb327, 1, none⟩ = some (.slice A0_1 l0_1.length c0_1) := (blk_cell BK327.out 1).trans rfl
    have hcz14_2 : w3.cell? ⟨gb327, 2, none⟩ = some (.slice A0_2 l0_2.length c0_2) := (blk_cell BK327.out 2).trans rfl
    have hfz14_0 := blk_frozen BK327.out 0
    have hfz14_1 := blk_frozen BK327.out 1
    have hfz14_2 := blk_frozen BK327.out 2
    go_wp2_with (first | ((with_reducible refine gate_callee (f := 76) rfl ?_); refine goesL_ (some 6) rfl rfl Try.func76 (by kernel_rfl) rfl #[.agg #[.slice A0_0 l0_0.length c0_0, .slice A0_1 l0_1.length c0_1, .slice A0_2 l0_2.length c0_2]] rfl (by (try simp only [List.map_toArray, List.map_cons, List.map_nil]); rfl) ?_; (with_reducible refine (impl_Jobs_many.calls _ _ l0_0 _ _ l0_1 _ _ l0_2 t328 _ ?side1 ?side2 ?side3 ?side4 ?side5 ?side6 A4.out).mono ?_); (case side1 => exact (Kd.C_below HR0_0.out HB.out)); (case side2 => exact HC0_0.out); (case side3 => exact (Kd.C_below HR0_1.out HB.out)); (case side4 => exact HC0_1.out); (case side5 => exact (Kd.C_below HR0_2.out HB.out)); (case side6 => exact HC0_2.out); rintro e w15 ⟨rfl, hb⟩; refine ⟨_, rfl, ?_⟩; have n0_ := Aside0.mk (blk_below (g := gb327) (o := .cells #[.slice A0_0 l0_0.length c0_0, .slice A0_1 l0_1.length c0_1, .slice A0_2 l0_2.length c0_2] 33 (0, 0)) BK327.out hb); have n1_ := Aside0.mk (below_step HB.out hb); clear BK327; clear HB; have BK327 := n0_; have HB := n1_; clear n0_ n1_; (try clear hb); (try clear hb2); (try clear hk); (try clear hi)) | ((with_reducible refine gate_callee (f := 48) rfl ?_); refine goesL_ (some 7) rfl rfl Try.func48 (by kernel_rfl) rfl #[.int .i64 t328, .int .i64 1, .int .i64 8] rfl (by (try simp only [List.map_toArray, List.map_cons, List.map_nil]); rfl) ?_; (with_reducible refine (impl_within.calls t328 1 8 false _ A5.out).mono ?_); rintro e w' ⟨rfl, ⟨nd, rfl⟩⟩; refine ⟨_, rfl, ?_⟩))
    go_meet
    case rel => exact ⟨_, (true), (by rfl), H', ⟨by omega⟩, ⟨by (with_reducible repeat (refine blk_drewN ?_ _)); exact BK327.out⟩, ⟨by repeat (with_reducible first | exact HB.out | apply pw_below_drewN)⟩⟩
  subst c6
  have H1 : (if (l0_1.length : Int) = (l0_0.length : Int) then (impl_AreJobs.j0 k ((l0_2.length : Int) != (l0_0.length : Int)) l0_0 l0_1 l0_2) else (impl_AreJobs.j0 k true l0_0 l0_1 l0_2)) = some r := by rw [if_pos rfl] at H; exact H
  clear H
  have H := H1
  clear H1
  by_cases c7 : (l0_1.length : Int) = (l0_0.length : Int)
  rotate_left
  · rw [if_neg c7] at H
    have c7b0 : ((l0_1.length : Int) == (l0_0.length : Int)) = false := beq_eq_false_iff_ne.mpr c7
    have c7b1 : ((l0_1.length : Int) != (l0_0.length : Int)) = true := bne_iff_ne.mpr c7
    have c7b2 : (l0_1.length == l0_0.length) = false := by (simp at c7 ⊢; omega)
    (skip)
    have H' := Aside0.mk H
    clear H
    have hcz11_0 : w3.cell? ⟨gb327, 0, none⟩ = some (.slice A0_0 l0_0.length c0_0) := (blk_cell BK327.out 0).trans rfl
    have hcz11_1 : w3.cell? ⟨gb327, 1, none⟩ = some (.slice A0_1 l0_1.length c0_1) := (blk_cell BK327.out 1).trans rfl
    have hcz11_2 : w3.cell? ⟨gb327, 2, none⟩ = some (.slice A0_2 l0_2.length c0_2) := (blk_cell BK327.out 2).trans rfl
    have hfz11_0 := blk_frozen BK327.out 0
    have hfz11_1 := blk_frozen BK327.out 1
    have hfz11_2 := blk_frozen BK327.out 2
    go_wp2_with (first | ((with_reducible refine gate_callee (f := 76) rfl ?_); refine goesL_ (some 6) rfl rfl Try.func76 (by kernel_rfl) rfl #[.agg #[.slice A0_0 l0_0.length c0_0, .slice A0_1 l0_1.length c0_1, .slice A0_2 l0_2.length c0_2]] rfl (by (try simp only [List.map_toArray, List.map_cons, List.map_nil]); rfl) ?_; (with_reducible refine (impl_Jobs_many.calls _ _ l0_0 _ _ l0_1 _ _ l0_2 t328 _ ?side1 ?side2 ?side3 ?side4 ?side5 ?side6 A4.out).mono ?_); (case side1 => exact (Kd.C_below HR0_0.out HB.out)); (case side2 => exact HC0_0.out); (case side3 => exact (Kd.C_below HR0_1.out HB.out)); (case side4 => exact HC0_1.out); (case side5 => exact (Kd.C_below HR0_2.out HB.out)); (case side6 => exact HC0_2.out); rintro e w12 ⟨rfl, hb⟩; refine ⟨_, rfl, ?_⟩; have n0_ := Aside0.mk (blk_below (g := gb327) (o := .cells #[.slice A0_0 l0_0.length c0_0, .slice A0_1 l0_1.length c0_1, .slice A0_2 l0_2.length c0_2] 33 (0, 0)) BK327.out hb); have n1_ := Aside0.mk (below_step HB.out hb); clear BK327; clear HB; have BK327 := n0_; have HB := n1_; clear n0_ n1_; (try clear hb); (try clear hb2); (try clear hk); (try clear hi)) | ((with_reducible refine gate_callee (f := 48) rfl ?_); refine goesL_ (some 7) rfl rfl Try.func48 (by kernel_rfl) rfl #[.int .i64 t328, .int .i64 1, .int .i64 8] rfl (by (try simp only [List.map_toArray, List.map_cons, List.map_nil]); rfl) ?_; (with_reducible refine (impl_within.calls t328 1 8 true _ A5.out).mono ?_); rintro e w' ⟨rfl, ⟨nd, rfl⟩⟩; refine ⟨_, rfl, ?_⟩; have hcz13_0 : w12.cell? ⟨gb327, 0, none⟩ = some (.slice A0_0 l0_0.length c0_0) := (blk_cell BK327.out 0).trans rfl; have hcz13_1 : w12.cell? ⟨gb327, 1, none⟩ = some (.slice A0_1 l0_1.length c0_1) := (blk_cell BK327.out 1).trans rfl; have hcz13_2 : w12.cell? ⟨gb327, 2, none⟩ = some (.slice A0_2 l0_2.length c0_2) := (blk_cell BK327.out 2).trans rfl; have hfz13_0 := blk_frozen BK327.out 0; have hfz13_1 := blk_frozen BK327.out 1; have hfz13_2 := blk_frozen BK327.out 2))
    go_meet
    case rel => exact ⟨_, (true), (by rfl), H', ⟨by omega⟩, ⟨by (with_reducible repeat (refine blk_drewN ?_ _)); exact BK327.out⟩, ⟨by repeat (with_reducible first | exact HB.out | apply pw_below_drewN)⟩⟩
  rw [if_pos c7] at H
  have c7b0 : ((l0_1.length : Int) == (l0_0.length : Int)) = true := beq_iff_eq.mpr c7
  have c7b1 : ((l0_1.length : Int) != (l0_0.length : Int)) = false := bne_eq_false_iff_eq.mpr c7
  have c7b2 : (l0_1.length == l0_0.length) = true := by (simp at c7 ⊢; omega)
  clear c7
  (skip)
  have H' := Aside0.mk H
  clear H
  have hcz8_0 : w3.cell? ⟨gb327, 0, none⟩ = some (.slice A0_0 l0_0.length c0_0) := (blk_cell BK327.out 0).trans rfl
  have hcz8_1 : w3.cell? ⟨gb327, 1, none⟩ = some (.slice A0_1 l0_1.length c0_1) := (blk_cell BK327.out 1).trans rfl
  have hcz8_2 : w3.cell? ⟨gb327, 2, none⟩ = some (.slice A0_2 l0_2.length c0_2) := (blk_cell BK327.out 2).trans rfl
  have hfz8_0 := blk_frozen BK327.out 0
  have hfz8_1 := blk_frozen BK327.out 1
  have hfz8_2 := blk_frozen BK327.out 2
  go_wp2_with (first | ((with_reducible refine gate_callee (f := 76) rfl ?_); refine goesL_ (some 6) rfl rfl Try.func76 (by kernel_rfl) rfl #[.agg #[.slice A0_0 l0_0.length c0_0, .slice A0_1 l0_1.length c0_1, .slice A0_2 l0_2.length c0_2]] rfl (by (try simp only [List.map_toArray, List.map_cons, List.map_nil]); rfl) ?_; (with_reducible refine (impl_Jobs_many.calls _ _ l0_0 _ _ l0_1 _ _ l0_2 t328 _ ?side1 ?side2 ?side3 ?side4 ?side5 ?side6 A4.out).mono ?_); (case side1 => exact (Kd.C_below HR0_0.out HB.out)); (case side2 => exact HC0_0.out); (case side3 => exact (Kd.C_below HR0_1.out HB.out)); (case side4 => exact HC0_1.out); (case side5 => exact (Kd.C_below HR0_2.out HB.out)); (case side6 => exact HC0_2.out); rintro e w9 ⟨rfl, hb⟩; refine ⟨_, rfl, ?_⟩; have n0_ := Aside0.mk (blk_below (g := gb327) (o := .cells #[.slice A0_0 l0_0.length c0_0, .slice A0_1 l0_1.length c0_1, .slice A0_2 l0_2.length c0_2] 33 (0, 0)) BK327.out hb); have n1_ := Aside0.mk (below_step HB.out hb); clear BK327; clear HB; have BK327 := n0_; have HB := n1_; clear n0_ n1_; (try clear hb); (try clear hb2); (try clear hk); (try clear hi)) | ((with_reducible refine gate_callee (f := 48) rfl ?_); refine goesL_ (some 7) rfl rfl Try.func48 (by kernel_rfl) rfl #[.int .i64 t328, .int .i64 1, .int .i64 8] rfl (by (try simp only [List.map_toArray, List.map_cons, List.map_nil]); rfl) ?_; (with_reducible refine (impl_within.calls t328 1 8 true _ A5.out).mono ?_); rintro e w' ⟨rfl, ⟨nd, rfl⟩⟩; refine ⟨_, rfl, ?_⟩; have hcz10_0 : w9.cell? ⟨gb327, 0, none⟩ = some (.slice A0_0 l0_0.length c0_0) := (blk_cell BK327.out 0).trans rfl; have hcz10_1 : w9.cell? ⟨gb327, 1, none⟩ = some (.slice A0_1 l0_1.length c0_1) := (blk_cell BK327.out 1).trans rfl; have hcz10_2 : w9.cell? ⟨gb327, 2, none⟩ = some (.slice A0_2 l0_2.length c0_2) := (blk_cell BK327.out 2).trans rfl; have hfz10_0 := blk_frozen BK327.out 0; have hfz10_1 := blk_frozen BK327.out 1; have hfz10_2 := blk_frozen BK327.out 2))
  go_meet
  case rel => exact ⟨_, (((l0_2.length : Int) != (l0_0.length : Int))), (by rfl), H', ⟨by omega⟩, ⟨by (with_reducible repeat (refine blk_drewN ?_ _)); exact BK327.out⟩, ⟨by repeat (with_reducible first | exact HB.out | apply pw_below_drewN)⟩⟩
 clear HC2
 obtain ⟨kq, x26_1, rfl, HA, HJ1, BK327, HB⟩ := hcut
 cases kq with
 | zero => exact absurd HA.out (by simp [impl_AreJobs.j0])
 | succ kj1 =>
  have H := HA.out
  clear HA
  simp only [impl_AreJobs.j0] at H
  by_cases c16 : x26_1 = true
  · subst c16
    have H1 : (some false) = some r := by rw [if_pos rfl] at H; exact H
    clear H
    have H := H1
    clear H1
    obtain rfl := Option.some.inj H
    go_wp2
    go_ret
    exact ⟨by rfl, by exact HB.out⟩
  replace c16 := Bool.eq_false_iff.mpr c16
  subst c16
  have H1 : (impl_AreJobs.l0 kj1 l0_1 (l0_1.length : Int) 0 l0_0 l0_1 l0_2) = some r := by rw [if_neg (show ¬ (false = true) by decide)] at H; exact H
  clear H
  have H := H1
  clear H1
  have H' := Aside0.mk H
  clear H
  have hcz17_0 : wc.cell? ⟨gb327, 0, none⟩ = some (.slice A0_0 l0_0.length c0_0) := (blk_cell BK327.out 0).trans rfl
  have hcz17_1 : wc.cell? ⟨gb327, 1, none⟩ = some (.slice A0_1 l0_1.length c0_1) := (blk_cell BK327.out 1).trans rfl
  have hcz17_2 : wc.cell? ⟨gb327, 2, none⟩ = some (.slice A0_2 l0_2.length c0_2) := (blk_cell BK327.out 2).trans rfl
  have hfz17_0 := blk_frozen BK327.out 0
  have hfz17_1 := blk_frozen BK327.out 1
  have hfz17_2 := blk_frozen BK327.out 2
  go_wp2
  go_loopg [30] kj1 (fun kq v30 w' => ∃ (x30_2 : Int), v30 = .int .i64 x30_2 ∧ Aside0 (impl_AreJobs.l0 kq l0_1 (l0_1.length : Int) x30_2 l0_0 l0_1 l0_2 = some r) ∧ Aside0 (kq ≤ kj1) ∧ Aside0 (w'.heap[gb327]? = some (.cells #[(.slice A0_0 l0_0.length c0_0), (.slice A0_1 l0_1.length c0_1), (.slice A0_2 l0_2.length c0_2)] 33 (0, 0))) ∧ Aside0 (Below w.heap.size w w'))
  case atStart => exact ⟨(0), (by rfl), H', ⟨Nat.le_refl _⟩, ⟨by exact BK327.out⟩, ⟨by exact HB.out⟩⟩
  clear H'
  clear hcz17_0 hcz17_1 hcz17_2 hfz17_0 hfz17_1 hfz17_2
  obtain ⟨x30_2, rfl, HA, HK2, BK327, HB⟩ := hrel
  cases gk with
  | zero => exact absurd HA.out (by simp [impl_AreJobs.l0])
  | succ k2 =>
   have H := HA.out
   clear HA
   simp only [impl_AreJobs.l0] at H
   by_cases c18 : x30_2 < (l0_1.length : Int)
   rotate_left
   · rw [if_neg c18] at H
     have c18b0 : decide (x30_2 < (l0_1.length : Int)) = false := decide_eq_false c18
     clear c18
     obtain rfl := Option.some.inj H
     go_wp2
     go_ret
     exact ⟨by rfl, by exact HB.out⟩
   rw [if_pos c18] at H
   have c18b0 : decide (x30_2 < (l0_1.length : Int)) = true := decide_eq_true c18
   clear c18
   by_cases c19 : 0 ≤ x30_2
   rotate_left
   · rw [if_neg c19] at H
     exact absurd H (by simp)
   rw [if_pos c19] at H
   have c19b0 : decide (0 ≤ x30_2) = true := decide_eq_true c19
   clear c19
   by_cases c20 : x30_2 < (l0_1.length : Int)
   rotate_left
   · rw [if_neg c20] at H
     exact absurd H (by simp)
   rw [if_pos c20] at H
   have c20b0 : decide (x30_2 < (l0_1.length : Int)) = true := decide_eq_true c20
   clear c20
   replace H := Option.bind_eq_some_iff.mp H
   obtain ⟨t331, A210, H⟩ := H
   replace H : (if t331 = true then (if x30_2 < (l0_0.length : Int) then ((impl_within.f (rd l0_0 x30_2) 1 20).bind fun t333 => (if t333 = true then (if x30_2 < (l0_2.length : Int) then ((impl_within.f (rd l0_2 x30_2) 1 (rd l0_1 x30_2)).bind fun t335 => (if t335 = true then (impl_AreJobs.l0 k2 l0_1 (l0_1.length : Int) (wrap64 (x30_2 + 1)) l0_0 l0_1 l0_2) else (some false))) else (none)) else (some false))) else (none)) else (some false)) = some r := H
   have A21 := Aside0.mk A210
   clear A210
   by_cases c22 : t331 = true
   rotate_left
   · replace c22 := Bool.eq_false_iff.mpr c22
     subst c22
     have H1 : (some false) = some r := by rw [if_neg (show ¬ (false = true) by decide)] at H; exact H
     clear H
     have H := H1
     clear H1
     obtain rfl := Option.some.inj H
     have p330 : 0 ≤ (x30_2 : Int) := of_decide_eq_true (by (with_reducible assumption))
     have q330 : x30_2 < (l0_1.length : Int) := of_decide_eq_true (by (with_reducible assumption))
     obtain ⟨ad330, e330, hx330_0⟩ := Kd.at_int HR0_1.out x30_2 p330 q330
     cases e330
     replace hx330_0 := (HB.out.cell (World.block_lt_of_cell? w _ hx330_0)).trans hx330_0
     replace p330 := eq_true p330
     replace q330 := eq_true q330
     go_wp2_with (((with_reducible refine gate_callee (f := 48) rfl ?_); refine goesL_ (some 36) rfl rfl Try.func48 (by kernel_rfl) rfl #[.int .i64 (rd l0_1 x30_2), .int .i64 1, .int .i64 60] rfl (by (try simp only [List.map_toArray, List.map_cons, List.map_nil]); rfl) ?_; (with_reducible refine (impl_within.calls (rd l0_1 x30_2) 1 60 false _ A21.out).mono ?_); rintro e w' ⟨rfl, ⟨nd, rfl⟩⟩; refine ⟨_, rfl, ?_⟩))
     go_ret
     exact ⟨by rfl, by repeat (with_reducible first | exact HB.out | apply pw_below_drewN)⟩
   subst c22
   have H1 : (if x30_2 < (l0_0.length : Int) then ((impl_within.f (rd l0_0 x30_2) 1 20).bind fun t333 => (if t333 = true then (if x30_2 < (l0_2.length : Int) then ((impl_within.f (rd l0_2 x30_2) 1 (rd l0_1 x30_2)).bind fun t335 => (if t335 = true then (impl_AreJobs.l0 k2 l0_1 (l0_1.length : Int) (wrap64 (x30_2 + 1)) l0_0 l0_1 l0_2) else (some false))) else (none)) else (some false))) else (none)) = some r := by rw [if_pos rfl] at H; exact H
   clear H
   have H := H1
   clear H1
   by_cases c23 : x30_2 < (l0_0.length : Int)
   rotate_left
   · rw [if_neg c23] at H
     exact absurd H (by simp)
   rw [if_pos c23] at H
   have c23b0 : decide (x30_2 < (l0_0.length : Int)) = true := decide_eq_true c23
   clear c23
   replace H := Option.bind_eq_some_iff.mp H
   obtain ⟨t333, A240, H⟩ := H
   replace H : (if t333 = true then (if x30_2 < (l0_2.length : Int) then ((impl_within.f (rd l0_2 x30_2) 1 (rd l0_1 x30_2)).bind fun t335 => (if t335 = true then (impl_AreJobs.l0 k2 l0_1 (l0_1.length : Int) (wrap64 (x30_2 + 1)) l0_0 l0_1 l0_2) else (some false))) else (none)) else (some false)) = some r := H
   have A24 := Aside0.mk A240
   clear A240
   by_cases c25 : t333 = true
   rotate_left
   · replace c25 := Bool.eq_false_iff.mpr c25
     subst c25
     have H1 : (some false) = some r := by rw [if_neg (show ¬ (false = true) by decide)] at H; exact H
     clear H
     have H := H1
     clear H1
     obtain rfl := Option.some.inj H
     have p330 : 0 ≤ (x30_2 : Int) := of_decide_eq_true (by (with_reducible assumption))
     have q330 : x30_2 < (l0_1.length : Int) := of_decide_eq_true (by (with_reducible assumption))
     obtain ⟨ad330, e330, hx330_0⟩ := Kd.at_int HR0_1.out x30_2 p330 q330
     cases e330
     replace hx330_0 := (HB.out.cell (World.block_lt_of_cell? w _ hx330_0)).trans hx330_0
     replace p330 := eq_true p330
     replace q330 := eq_true q330
     go_wp2_with (first | ((with_reducible refine gate_callee (f := 48) rfl ?_); refine goesL_ (some 36) rfl rfl Try.func48 (by kernel_rfl) rfl #[.int .i64 (rd l0_1 x30_2), .int .i64 1, .int .i64 60] rfl (by (try simp only [List.map_toArray, List.map_cons, List.map_nil]); rfl) ?_; (with_reducible refine (impl_within.calls (rd l0_1 x30_2) 1 60 true _ A21.out).mono ?_); rintro e w' ⟨rfl, ⟨nd, rfl⟩⟩; refine ⟨_, rfl, ?_⟩; have hcz31_0 : wr.cell? ⟨gb327, 0, none⟩ = some (.slice A0_0 l0_0.length c0_0) := (blk_cell BK327.out 0).trans rfl; have hcz31_1 : wr.cell? ⟨gb327, 1, none⟩ = some (.slice (some ad330) l0_1.length c0_1) := (blk_cell BK327.out 1).trans rfl; have hcz31_2 : wr.cell? ⟨gb327, 2, none⟩ = some (.slice A0_2 l0_2.length c0_2) := (blk_cell BK327.out 2).trans rfl; have hfz31_0 := blk_frozen BK327.out 0; have hfz31_1 := blk_frozen BK327.out 1; have hfz31_2 := blk_frozen BK327.out 2; have p332 : 0 ≤ (x30_2 : Int) := of_decide_eq_true (by (with_reducible assumption)); have q332 : x30_2 < (l0_0.length : Int) := of_decide_eq_true (by (with_reducible assumption)); obtain ⟨ad332, e332, hx332_0⟩ := Kd.at_int HR0_0.out x30_2 p332 q332; cases e332; replace hx332_0 := (HB.out.cell (World.block_lt_of_cell? w _ hx332_0)).trans hx332_0; replace p332 := eq_true p332; replace q332 := eq_true q332) | (go_at_call 48; (with_reducible refine (impl_within.calls (rd l0_0 x30_2) 1 20 false _ A24.out).mono ?_); rintro e w' ⟨rfl, ⟨nd, rfl⟩⟩))
     go_ret
     exact ⟨by rfl, by repeat (with_reducible first | exact HB.out | apply pw_below_drewN)⟩
   subst c25
   have H1 : (if x30_2 < (l0_2.length : Int) then ((impl_within.f (rd l0_2 x30_2) 1 (rd l0_1 x30_2)).bind fun t335 => (if t335 = true then (impl_AreJobs.l0 k2 l0_1 (l0_1.length : Int) (wrap64 (x30_2 + 1)) l0_0 l0_1 l0_2) else (some false))) else (none)) = some r := by rw [if_pos rfl] at H; exact H
   clear H
   have H := H1
   clear H1
   by_cases c26 : x30_2 < (l0_2.length : Int)
   rotate_left
   · rw [if_neg c26] at H
     exact absurd H (by simp)
   rw [if_pos c26] at H
   have c26b0 : decide (x30_2 < (l0_2.length : Int)) = true := decide_eq_true c26
   clear c26
   replace H := Option.bind_eq_some_iff.mp H
   obtain ⟨t335, A270, H⟩ := H
   replace H : (if t335 = true then (impl_AreJobs.l0 k2 l0_1 (l0_1.length : Int) (wrap64 (x30_2 + 1)) l0_0 l0_1 l0_2) else (some false)) = some r := H
   have A27 := Aside0.mk A270
   clear A270
   by_cases c28 : t335 = true
   rotate_left
   · replace c28 := Bool.eq_false_iff.mpr c28
     subst c28
     have H1 : (some false) = some r := by rw [if_neg (show ¬ (false = true) by decide)] at H; exact H
     clear H
     have H := H1
     clear H1
     obtain rfl := Option.some.inj H
     have p330 : 0 ≤ (x30_2 : Int) := of_decide_eq_true (by (with_reducible assumption))
     have q330 : x30_2 < (l0_1.length : Int) := of_decide_eq_true (by (with_reducible assumption))
     obtain ⟨ad330, e330, hx330_0⟩ := Kd.at_int HR0_1.out x30_2 p330 q330
     cases e330
     replace hx330_0 := (HB.out.cell (World.block_lt_of_cell? w _ hx330_0)).trans hx330_0
     replace p330 := eq_true p330
     replace q330 := eq_true q330
     go_wp2_with (first | ((with_reducible refine gate_callee (f := 48) rfl ?_); refine goesL_ (some 36) rfl rfl Try.func48 (by kernel_rfl) rfl #[.int .i64 (rd l0_1 x30_2), .int .i64 1, .int .i64 60] rfl (by (try simp only [List.map_toArray, List.map_cons, List.map_nil]); rfl) ?_; (with_reducible refine (impl_within.calls (rd l0_1 x30_2) 1 60 true _ A21.out).mono ?_); rintro e w' ⟨rfl, ⟨nd, rfl⟩⟩; refine ⟨_, rfl, ?_⟩; have hcz30_0 : wr.cell? ⟨gb327, 0, none⟩ = some (.slice A0_0 l0_0.length c0_0) := (blk_cell BK327.out 0).trans rfl; have hcz30_1 : wr.cell? ⟨gb327, 1, none⟩ = some (.slice (some ad330) l0_1.length c0_1) := (blk_cell BK327.out 1).trans rfl; have hcz30_2 : wr.cell? ⟨gb327, 2, none⟩ = some (.slice A0_2 l0_2.length c0_2) := (blk_cell BK327.out 2).trans rfl; have hfz30_0 := blk_frozen BK327.out 0; have hfz30_1 := blk_frozen BK327.out 1; have hfz30_2 := blk_frozen BK327.out 2; have p332 : 0 ≤ (x30_2 : Int) := of_decide_eq_true (by (with_reducible assumption)); have q332 : x30_2 < (l0_0.length : Int) := of_decide_eq_true (by (with_reducible assumption)); obtain ⟨ad332, e332, hx332_0⟩ := Kd.at_int HR0_0.out x30_2 p332 q332; cases e332; replace hx332_0 := (HB.out.cell (World.block_lt_of_cell? w _ hx332_0)).trans hx332_0; replace p332 := eq_true p332; replace q332 := eq_true q332) | (go_at_call 48; (with_reducible refine (impl_within.calls (rd l0_0 x30_2) 1 20 true _ A24.out).mono ?_); rintro e w' ⟨rfl, ⟨nd, rfl⟩⟩; have p334 : 0 ≤ (x30_2 : Int) := of_decide_eq_true (by (with_reducible assumption)); have q334 : x30_2 < (l0_2.length : Int) := of_decide_eq_true (by (with_reducible assumption)); obtain ⟨ad334, e334, hx334_0⟩ := Kd.at_int HR0_2.out x30_2 p334 q334; cases e334; replace hx334_0 := (HB.out.cell (World.block_lt_of_cell? w _ hx334_0)).trans hx334_0; replace p334 := eq_true p334; replace q334 := eq_true q334) | (go_at_call 48; (with_reducible refine (impl_within.calls (rd l0_2 x30_2) 1 (rd l0_1 x30_2) false _ A27.out).mono ?_); rintro e w' ⟨rfl, ⟨nd, rfl⟩⟩))
     go_ret
     exact ⟨by rfl, by repeat (with_reducible first | exact HB.out | apply pw_below_drewN)⟩
   subst c28
   have H1 : (impl_AreJobs.l0 k2 l0_1 (l0_1.length : Int) (wrap64 (x30_2 + 1)) l0_0 l0_1 l0_2) = some r := by rw [if_pos rfl] at H; exact H
   clear H
   have H := H1
   clear H1
   have H' := Aside0.mk H
   clear H
   have p330 : 0 ≤ (x30_2 : Int) := of_decide_eq_true (by (with_reducible assumption))
   have q330 : x30_2 < (l0_1.length : Int) := of_decide_eq_true (by (with_reducible assumption))
   obtain ⟨ad330, e330, hx330_0⟩ := Kd.at_int HR0_1.out x30_2 p330 q330
   cases e330
   replace hx330_0 := (HB.out.cell (World.block_lt_of_cell? w _ hx330_0)).trans hx330_0
   replace p330 := eq_true p330
   replace q330 := eq_true q330
   go_wp2_with (first | ((with_reducible refine gate_callee (f := 48) rfl ?_); refine goesL_ (some 36) rfl rfl Try.func48 (by kernel_rfl) rfl #[.int .i64 (rd l0_1 x30_2), .int .i64 1, .int .i64 60] rfl (by (try simp only [List.map_toArray, List.map_cons, List.map_nil]); rfl) ?_; (with_reducible refine (impl_within.calls (rd l0_1 x30_2) 1 60 true _ A21.out).mono ?_); rintro e w' ⟨rfl, ⟨nd, rfl⟩⟩; refine ⟨_, rfl, ?_⟩; have hcz29_0 : wr.cell? ⟨gb327, 0, none⟩ = some (.slice A0_0 l0_0.length c0_0) := (blk_cell BK327.out 0).trans rfl; have hcz29_1 : wr.cell? ⟨gb327, 1, none⟩ = some (.slice (some ad330) l0_1.length c0_1) := (blk_cell BK327.out 1).trans rfl; have hcz29_2 : wr.cell? ⟨gb327, 2, none⟩ = some (.slice A0_2 l0_2.length c0_2) := (blk_cell BK327.out 2).trans rfl; have hfz29_0 := blk_frozen BK327.out 0; have hfz29_1 := blk_frozen BK327.out 1; have hfz29_2 := blk_frozen BK327.out 2; have p332 : 0 ≤ (x30_2 : Int) := of_decide_eq_true (by (with_reducible assumption)); have q332 : x30_2 < (l0_0.length : Int) := of_decide_eq_true (by (with_reducible assumption)); obtain ⟨ad332, e332, hx332_0⟩ := Kd.at_int HR0_0.out x30_2 p332 q332; cases e332; replace hx332_0 := (HB.out.cell (World.block_lt_of_cell? w _ hx332_0)).trans hx332_0; replace p332 := eq_true p332; replace q332 := eq_true q332) | (go_at_call 48; (with_reducible refine (impl_within.calls (rd l0_0 x30_2) 1 20 true _ A24.out).mono ?_); rintro e w' ⟨rfl, ⟨nd, rfl⟩⟩; have p334 : 0 ≤ (x30_2 : Int) := of_decide_eq_true (by (with_reducible assumption)); have q334 : x30_2 < (l0_2.length : Int) := of_decide_eq_true (by (with_reducible assumption)); obtain ⟨ad334, e334, hx334_0⟩ := Kd.at_int HR0_2.out x30_2 p334 q334; cases e334; replace hx334_0 := (HB.out.cell (World.block_lt_of_cell? w _ hx334_0)).trans hx334_0; replace p334 := eq_true p334; replace q334 := eq_true q334) | (go_at_call 48; (with_reducible refine (impl_within.calls (rd l0_2 x30_2) 1 (rd l0_1 x30_2) true _ A27.out).mono ?_); rintro e w' ⟨rfl, ⟨nd, rfl⟩⟩))
   go_roundg k2
   case measure => have := HJ1.out; have := HK2.out; omega
   case rel => exact ⟨(wrap64 (x30_2 + 1)), (by rfl), H', ⟨by have := HJ1.out; have := HK2.out; omega⟩, ⟨by (with_reducible repeat (refine blk_drewN ?_ _)); exact BK327.out⟩, ⟨by repeat (with_reducible first | exact HB.out | apply pw_below_drewN)⟩⟩
end Go.Proofs.Ytoakdilhljnjfaa.Q
namespace Go.Proofs.Ytoakdilhljnjfaa.Pure
open Go.RowKit Go.Proofs.Ytoakdilhljnjfaa.Q Go.Proofs.YtoakdilhljnjfaaW.PrintWords Go.Proofs.YtoakdilhljnjfaaW.PrintLast Go.Proofs.YtoakdilhljnjfaaW.PrintMore
set_option linter.unusedVariables false
set_option linter.unusedSimpArgs false
theorem l01In_eq (x lo hi : Int) : spec_l01In.f x lo hi = some (isIn lo hi x) := by
  unfold spec_l01In.f isIn
  by_cases h : x ≥ lo
  · rw [if_pos h]; simp [h]
  · rw [if_neg h]; simp [h]
def jobsR (l0 l1 l2 : List Int) : Nat → Nat → Bool
  | 0, _ => true
  | d + 1, i => isIn 1 20 (rd l0 i) && (isIn 1 60 (rd l1 i) && (isIn 1 (rd l1 i) (rd l2 i) && jobsR l0 l1 l2 d (i + 1)))
def jobsB (l0 l1 l2 : List Int) : Bool := decide (1 ≤ l0.length ∧ l0.length ≤ 8 ∧ l1.length = l0.length ∧ l2.length = l0.length) && jobsR l0 l1 l2 l0.length 0
theorem jobsR_spec (l0 l1 l2 : List Int) : ∀ d i : Nat, jobsR l0 l1 l2 d i = true ↔ ∀ j : Nat, i ≤ j → j < i + d → (1 ≤ rd l0 j ∧ rd l0 j ≤ 20) ∧ (1 ≤ rd l1 j ∧ rd l1 j ≤ 60) ∧ 1 ≤ rd l2 j ∧ rd l2 j ≤ rd l1 j
  | 0, i => by simp [jobsR]; intro j h1 h2; omega
  | d + 1, i => by
    have ih := jobsR_spec l0 l1 l2 d (i + 1)
    unfold jobsR
    simp only [Bool.and_eq_true, ih, isIn, decide_eq_true_eq]
    constructor
    · rintro ⟨h1, h2, h3, h4⟩ j hj1 hj2
      by_cases e : j = i
      · subst e; exact ⟨h1, h2, h3⟩
      · exact h4 j (by omega) (by omega)
    · intro h
      obtain ⟨a, b, c⟩ := h i (by omega) (by omega)
      exact ⟨a, b, c, fun j hj1 hj2 => h j (by omega) (by omega)⟩
theorem jobsB_spec (l0 l1 l2 : List Int) (h : jobsB l0 l1 l2 = true) : 1 ≤ l0.length ∧ l0.length ≤ 8 ∧ l1.length = l0.length ∧ l2.length = l0.length ∧ ∀ j : Nat, j < l0.length → (1 ≤ rd l0 j ∧ rd l0 j ≤ 20) ∧ (1 ≤ rd l1 j ∧ rd l1 j ≤ 60) ∧ 1 ≤ rd l2 j ∧ rd l2 j ≤ rd l1 j := by
  unfold jobsB at h
  simp only [Bool.and_eq_true, decide_eq_true_eq] at h
  obtain ⟨⟨a, b, c, d⟩, e⟩ := h
  exact ⟨a, b, c, d, fun j hj => (jobsR_spec l0 l1 l2 _ 0).1 e j (by omega) (by omega)⟩
theorem l04Is_l (l0 l1 l2 : List Int) (h1 : l1.length = l0.length) (h2 : l2.length = l0.length) (hl : l0.length ≤ 1000) (d : Nat) : ∀ i : Nat, i + d = l0.length → Ev (fun k => spec_l04Is.l0 k l0.length i l0 l1 l2) (jobsR l0 l1 l2 d i) := by
  induction d with
  | zero => intro i hi; refine Ev.step (fun k => by rw [spec_l04Is.l0]) ?_; exact Ev.neg (by omega) (Ev.now _)
  | succ d ih =>
    intro i hi
    refine Ev.step (fun k => by rw [spec_l04Is.l0]) ?_
    refine Ev.pos (by omega) (Ev.pos (by omega) (Ev.pos (by omega) ?_))
    refine Ev.bindc (l01In_eq _ _ _) ?_
    unfold jobsR
    cases a : isIn 1 20 (rd l0 i) with
    | false => exact Ev.neg (by simp) (by simpa using Ev.now false)
    | true =>
      refine Ev.pos rfl (Ev.pos (by omega) ?_)
      refine Ev.bindc (l01In_eq _ _ _) ?_
      cases b : isIn 1 60 (rd l1 i) with
      | false => exact Ev.neg (by simp) (by simpa using Ev.now false)
      | true =>
        refine Ev.pos rfl (Ev.pos (by omega) ?_)
        refine Ev.bindc (l01In_eq _ _ _) ?_
        cases c : isIn 1 (rd l1 i) (rd l2 i) with
        | false => exact Ev.neg (by simp) (by simpa using Ev.now false)
        | true =>
          refine Ev.pos rfl ?_
          rw [wrap64_id (by omega) (by omega)]
          simpa using ih (i + 1) (by omega)
theorem l04Is_j (l0 l1 l2 : List Int) (b : Bool) (r : Bool) (hb : b = true → r = false) (hr : b = false → l1.length = l0.length ∧ l2.length = l0.length ∧ l0.length ≤ 1000 ∧ r = jobsR l0 l1 l2 l0.length 0) : Ev (fun k => spec_l04Is.j0 k l0.length b l0 l1 l2) r := by
  refine Ev.step (fun k => by rw [spec_l04Is.j0]) ?_
  cases b with
  | true => rw [hb rfl]; exact Ev.pos rfl (Ev.now _)
  | false =>
    obtain ⟨h1, h2, h3, rfl⟩ := hr rfl
    refine Ev.neg (by simp) ?_
    simpa using l04Is_l l0 l1 l2 h1 h2 h3 l0.length 0 (by omega)
theorem l04Is_ev (l0 l1 l2 : List Int) : Ev (fun k => spec_l04Is.f k l0 l1 l2) (jobsB l0 l1 l2) := by
  unfold spec_l04Is.f
  have hF : ¬ (1 ≤ l0.length ∧ l0.length ≤ 8 ∧ l1.length = l0.length ∧ l2.length = l0.length) → jobsB l0 l1 l2 = false := fun h => by unfold jobsB; rw [decide_eq_false h]; rfl
  by_cases c1 : (l0.length : Int) < 1
  · exact Ev.pos c1 (l04Is_j l0 l1 l2 true _ (fun _ => hF (by omega)) (fun h => by cases h))
  · refine Ev.neg c1 ?_
    by_cases c2 : (l0.length : Int) > 8
    · exact Ev.pos c2 (l04Is_j l0 l1 l2 true _ (fun _ => hF (by omega)) (fun h => by cases h))
    · refine Ev.neg c2 ?_
      by_cases c3 : (l1.length : Int) = (l0.length : Int)
      · refine Ev.pos c3 ?_
        refine l04Is_j l0 l1 l2 _ _ (fun h => hF ?_) (fun h => ?_)
        · have : (l2.length : Int) ≠ l0.length := by simpa using h
          omega
        · have h2 : l2.length = l0.length := Int.ofNat.inj (show (l2.length : Int) = l0.length by simpa using h)
          refine ⟨by omega, h2, by omega, ?_⟩
          unfold jobsB
          rw [decide_eq_true (by omega)]; rfl
      · exact Ev.neg c3 (l04Is_j l0 l1 l2 true _ (fun _ => hF (by omega)) (fun h => by cases h))
theorem AreJobs_l (l0 l1 l2 : List Int) (h1 : l1.length = l0.length) (h2 : l2.length = l0.length) (hl : l0.length ≤ 1000) (d : Nat) : ∀ i : Nat, i + d = l0.length → Ev (fun k => impl_AreJobs.l0 k l1 l1.length i l0 l1 l2) (jobsR l0 l1 l2 d i) := by
  induction d with
  | zero => intro i hi; refine Ev.step (fun k => by rw [impl_AreJobs.l0]) ?_; exact Ev.neg (by omega) (Ev.now _)
  | succ d ih =>
    intro i hi
    refine Ev.step (fun k => by rw [impl_AreJobs.l0]) ?_
    refine Ev.pos (by omega) (Ev.pos (by omega) (Ev.pos (by omega) ?_))
    refine Ev.bindc (within_isIn _ _ _) ?_
    unfold jobsR
    cases a : isIn 1 60 (rd l1 i) with
    | false => exact Ev.neg (by simp) (by simpa using Ev.now false)
    | true =>
      refine Ev.pos rfl (Ev.pos (by omega) ?_)
      refine Ev.bindc (within_isIn _ _ _) ?_
      cases b : isIn 1 20 (rd l0 i) with
      | false => exact Ev.neg (by simp) (by simpa using Ev.now false)
      | true =>
        refine Ev.pos rfl (Ev.pos (by omega) ?_)
        refine Ev.bindc (within_isIn _ _ _) ?_
        cases c : isIn 1 (rd l1 i) (rd l2 i) with
        | false => exact Ev.neg (by simp) (by simpa using Ev.now false)
        | true =>
          refine Ev.pos rfl ?_
          rw [wrap64_id (by omega) (by omega)]
          simpa using ih (i + 1) (by omega)
theorem AreJobs_j (l0 l1 l2 : List Int) (b : Bool) (r : Bool) (hb : b = true → r = false) (hr : b = false → l1.length = l0.length ∧ l2.length = l0.length ∧ l0.length ≤ 1000 ∧ r = jobsR l0 l1 l2 l0.length 0) : Ev (fun k => impl_AreJobs.j0 k b l0 l1 l2) r := by
  refine Ev.step (fun k => by rw [impl_AreJobs.j0]) ?_
  cases b with
  | true => rw [hb rfl]; exact Ev.pos rfl (Ev.now _)
  | false =>
    obtain ⟨h1, h2, h3, rfl⟩ := hr rfl
    refine Ev.neg (by simp) ?_
    simpa using AreJobs_l l0 l1 l2 h1 h2 h3 l0.length 0 (by omega)
theorem AreJobs_ev (l0 l1 l2 : List Int) : Ev (fun k => impl_AreJobs.f k l0 l1 l2) (jobsB l0 l1 l2) := by
  unfold impl_AreJobs.f
  have hF : ¬ (1 ≤ l0.length ∧ l0.length ≤ 8 ∧ l1.length = l0.length ∧ l2.length = l0.length) → jobsB l0 l1 l2 = false := fun h => by unfold jobsB; rw [decide_eq_false h]; rfl
  refine Ev.bindc (show impl_Jobs_many.f l0 l1 l2 = some (l0.length : Int) from rfl) ?_
  refine Ev.bindc (within_isIn _ _ _) ?_
  by_cases c1 : 1 ≤ (l0.length : Int) ∧ (l0.length : Int) ≤ 8
  · refine Ev.pos (by simpa [isIn] using c1) ?_
    by_cases c3 : (l1.length : Int) = (l0.length : Int)
    · refine Ev.pos c3 ?_
      refine AreJobs_j l0 l1 l2 _ _ (fun h => hF ?_) (fun h => ?_)
      · have : (l2.length : Int) ≠ l0.length := by simpa using h
        omega
      · have h2 : l2.length = l0.length := Int.ofNat.inj (show (l2.length : Int) = l0.length by simpa using h)
        refine ⟨by omega, h2, by omega, ?_⟩
        unfold jobsB
        rw [decide_eq_true (by omega)]; rfl
    · exact Ev.neg c3 (AreJobs_j l0 l1 l2 true _ (fun _ => hF (by omega)) (fun h => by cases h))
  · exact Ev.neg (by simpa [isIn] using c1) (AreJobs_j l0 l1 l2 true _ (fun _ => hF (by omega)) (fun h => by cases h))
end Go.Proofs.Ytoakdilhljnjfaa.Pure
namespace Go.Proofs.Ytoakdilhljnjfaa.Edf
theorem div_of {P q y : Int} (hP : 0 < P) (h : P * q ≤ y) (h' : y < P * q + P) : y / P = q := by
  have h1 : q ≤ y / P := by rw [Int.le_ediv_iff_mul_le hP, Int.mul_comm]; exact h
  have h2 : y / P < q + 1 := by rw [Int.ediv_lt_iff_lt_mul hP, Int.mul_comm, Int.mul_add]; omega
  omega
def cei (P x : Int) : Int := (x + P - 1) / P
theorem cei_zero {P : Int} (hP : 0 < P) : cei P 0 = 0 := div_of hP (by omega) (by omega)
theorem cei_spec {P : Int} (hP : 0 < P) (x : Int) : x ≤ cei P x * P ∧ cei P x * P < x + P := by
  have h1 := Int.emod_add_mul_ediv (x + P - 1) P
  have h2 := Int.emod_nonneg (x + P - 1) (show P ≠ 0 by omega)
  have h3 := Int.emod_lt_of_pos (x + P - 1) hP
  have h4 : cei P x * P = P * ((x + P - 1) / P) := Int.mul_comm _ _
  omega
theorem cei_of {P : Int} (hP : 0 < P) {x q : Int} (h : x ≤ q * P) (h' : q * P < x + P) : cei P x = q := by
  unfold cei
  rw [Int.mul_comm] at h h'
  exact div_of hP (by omega) (by omega)
theorem cei_hit {P : Int} (hP : 0 < P) {x : Int} (h : x % P = 0) : cei P x * P = x ∧ cei P (x + 1) = cei P x + 1 := by
  have h1 := Int.emod_add_mul_ediv x P
  have h2 : cei P x = x / P := cei_of hP (by rw [Int.mul_comm]; omega) (by rw [Int.mul_comm]; omega)
  refine ⟨by rw [h2, Int.mul_comm]; omega, cei_of hP ?_ ?_⟩
  · rw [h2, Int.add_mul, Int.mul_comm]; omega
  · rw [h2, Int.add_mul, Int.mul_comm]; omega
theorem cei_miss {P : Int} (hP : 0 < P) {x : Int} (h : x % P ≠ 0) : cei P (x + 1) = cei P x := by
  obtain ⟨a, b⟩ := cei_spec hP x
  refine cei_of hP ?_ (by omega)
  by_cases e : cei P x * P = x
  · exact absurd (by rw [← e]; exact Int.mul_emod_left _ _) h
  · omega
theorem cei_add {P : Int} (hP : 0 < P) (x y : Int) : cei P (x + y) ≤ cei P x + cei P y := by
  obtain ⟨a, _⟩ := cei_spec hP x
  obtain ⟨b, _⟩ := cei_spec hP y
  have h : x + y ≤ (cei P x + cei P y) * P := by rw [Int.add_mul]; omega
  obtain ⟨_, d⟩ := cei_spec hP (x + y)
  by_cases e : cei P (x + y) ≤ cei P x + cei P y
  · exact e
  · have h2 : (cei P x + cei P y + 1) * P ≤ cei P (x + y) * P := Int.mul_le_mul_of_nonneg_right (by omega) (by omega)
    rw [Int.add_mul, Int.one_mul] at h2
    omega
def relC (P D t a : Int) : Nat → Int
  | 0 => 0
  | k + 1 => relC P D t a k + (if (a + k) % P = 0 ∧ a + k + D ≤ t then 1 else 0)
theorem relC_in {P D t a : Int} (hP : 0 < P) : ∀ k : Nat, a + k + D ≤ t + 1 → relC P D t a k = cei P (a + k) - cei P a
  | 0, _ => by simp [relC]
  | k + 1, h => by
    rw [relC, relC_in hP k (by omega), show a + ((k + 1 : Nat) : Int) = a + k + 1 by omega]
    by_cases e : (a + k) % P = 0
    · rw [if_pos ⟨e, by omega⟩, (cei_hit hP e).2]; omega
    · rw [if_neg (fun h => e h.1), cei_miss hP e]; omega
theorem relC_out {P D t a : Int} (j : Nat) (hj : t < a + j + D) : ∀ k : Nat, relC P D t a (j + k) = relC P D t a j
  | 0 => rfl
  | k + 1 => by
    rw [← Nat.add_assoc, relC, relC_out j hj k, if_neg (by omega)]; omega
def dm (P D n : Int) : Int := if n ≥ D then (n - D) / P + 1 else 0
theorem relC_eq {P D t a : Int} (hP : 0 < P) (k : Nat) (hk : a + k = t) (hD : 1 ≤ D) : relC P D t a k = if t - a ≥ D then cei P (t - D + 1) - cei P a else 0 := by
  by_cases h : t - a ≥ D
  · rw [if_pos h]
    have e := relC_out (P := P) (D := D) (t := t) (a := a) (t - D + 1 - a).toNat (by omega) (k - (t - D + 1 - a).toNat)
    rw [show (t - D + 1 - a).toNat + (k - (t - D + 1 - a).toNat) = k by omega] at e
    rw [e, relC_in hP _ (by omega)]
    rw [show a + ((t - D + 1 - a).toNat : Int) = t - D + 1 by omega]
  · rw [if_neg h]
    have e := relC_out (P := P) (D := D) (t := t) (a := a) 0 (by omega) k
    rw [Nat.zero_add] at e
    rw [e]; rfl
theorem cei_dm {P D n : Int} (hP : 0 < P) : cei P (n - D + 1) = (n - D) / P + 1 := by
  unfold cei
  rw [show n - D + 1 + P - 1 = n - D + P by omega, Int.add_ediv_of_dvd_right (Int.dvd_refl P), Int.ediv_self (by omega)]
theorem relC_le {P D t a : Int} (hP : 0 < P) (k : Nat) (hk : a + k = t) (hD : 1 ≤ D) : relC P D t a k ≤ dm P D (t - a) := by
  rw [relC_eq hP k hk hD]
  unfold dm
  by_cases h : t - a ≥ D
  · rw [if_pos h, if_pos h, ← cei_dm hP]
    have := cei_add hP a (t - a - D + 1)
    rw [show a + (t - a - D + 1) = t - D + 1 by omega] at this
    omega
  · rw [if_neg h, if_neg h]; omega
theorem relC_zero {P D t : Int} (hP : 0 < P) (k : Nat) (hk : (k : Int) = t) (hD : 1 ≤ D) : relC P D t 0 k = dm P D t := by
  rw [relC_eq hP k (by omega) hD]
  unfold dm
  by_cases h : t ≥ D
  · rw [if_pos (by omega), if_pos h, cei_zero hP, cei_dm hP]; omega
  · rw [if_neg (by omega), if_neg h]
def sumN (f : Nat → Int) : Nat → Int
  | 0 => 0
  | n + 1 => sumN f n + f n
theorem sumN_congr {f g : Nat → Int} : ∀ n, (∀ i, i < n → f i = g i) → sumN f n = sumN g n
  | 0, _ => rfl
  | n + 1, h => by rw [sumN, sumN, sumN_congr n (fun i hi => h i (by omega)), h n (by omega)]
theorem sumN_le {f g : Nat → Int} : ∀ n, (∀ i, i < n → f i ≤ g i) → sumN f n ≤ sumN g n
  | 0, _ => Int.le_refl _
  | n + 1, h => by have := sumN_le n (fun i hi => h i (by omega)); have := h n (by omega); rw [sumN, sumN]; omega
theorem sumN_add {f g : Nat → Int} : ∀ n, sumN (fun i => f i + g i) n = sumN f n + sumN g n
  | 0 => rfl
  | n + 1 => by rw [sumN, sumN, sumN, sumN_add n]; omega
theorem sumN_zero {f : Nat → Int} (n : Nat) (h : ∀ i, i < n → f i = 0) : sumN f n = 0 := by
  rw [sumN_congr n h]
  clear h
  induction n with
  | zero => rfl
  | succ n ih => rw [sumN, ih]; rfl
theorem sumN_nonneg {f : Nat → Int} : ∀ n, (∀ i, i < n → 0 ≤ f i) → 0 ≤ sumN f n
  | 0, _ => Int.le_refl _
  | n + 1, h => by have := sumN_nonneg n (fun i hi => h i (by omega)); have := h n (by omega); rw [sumN]; omega
theorem sumN_pos {f : Nat → Int} (n : Nat) (h : ∀ i, i < n → 0 ≤ f i) (j : Nat) (hj : j < n) : f j ≤ sumN f n := by
  induction n with
  | zero => omega
  | succ n ih =>
    rw [sumN]
    have h1 := sumN_nonneg n (fun i hi => h i (by omega))
    have h2 := h n (by omega)
    by_cases e : j = n
    · subst e; omega
    · have := ih (fun i hi => h i (by omega)) (by omega); omega
theorem sumN_one {f g : Nat → Int} (b : Nat) (c : Int) : ∀ n, b < n → (∀ i, i < n → i ≠ b → f i = g i) → f b = g b + c → sumN f n = sumN g n + c
  | 0, h, _, _ => by omega
  | n + 1, h, h1, h2 => by
    rw [sumN, sumN]
    by_cases e : b = n
    · subst e
      rw [sumN_congr b (fun i hi => h1 i (by omega) (by omega)), h2]; omega
    · rw [sumN_one b c n (by omega) (fun i hi hne => h1 i (by omega) hne) h2, h1 n (by omega) (fun h => e h.symm)]; omega
structure JOk (n : Nat) (L P D : Nat → Int) : Prop where
  ok : ∀ i, i < n → 1 ≤ L i ∧ 1 ≤ P i ∧ 1 ≤ D i ∧ D i ≤ P i
def wt (l d : Nat → Int) (t : Int) (i : Nat) : Int := if d i ≤ t then l i else 0
def gt (L P D : Nat → Int) (t a : Int) (k : Nat) (i : Nat) : Int := L i * relC (P i) (D i) t a k
def demand (n : Nat) (L P D : Nat → Int) (m : Int) : Int := sumN (fun i => L i * dm (P i) (D i) m) n
structure EInv (n : Nat) (L P D : Nat → Int) (s : Nat) (l d c : Nat → Int) : Prop where
  low : ∀ i, i < n → 0 ≤ l i ∧ l i ≤ L i
  due : ∀ i, i < n → 0 < l i → (s : Int) ≤ d i ∧ d i ≤ cei (P i) s * P i
  cnt : ∀ i, i < n → c i + l i = L i * cei (P i) s
  busy : ∀ t : Int, ∃ (a k : Nat), a + k = s ∧ sumN (wt l d t) n + k = sumN (gt L P D t a k) n
  all : ∀ t : Int, sumN (gt L P D t 0 s) n ≤ s + sumN (wt l d t) n
theorem EInv.start {n : Nat} {L P D : Nat → Int} (h : JOk n L P D) : EInv n L P D 0 (fun _ => 0) (fun _ => 0) (fun _ => 0) := by
  refine ⟨fun i hi => by have := h.ok i hi; omega, fun i hi hh => by simp at hh, fun i hi => ?_, fun t => ⟨0, 0, rfl, ?_⟩, fun t => ?_⟩
  · have := h.ok i hi
    show (0 : Int) + 0 = L i * cei (P i) 0
    rw [cei_zero (by omega)]; simp
  · rw [sumN_zero n (f := wt _ _ t) (fun i hi => by simp [wt]), sumN_zero n (f := gt L P D t ((0 : Nat) : Int) 0) (fun i hi => by simp [gt, relC])]; rfl
  · rw [sumN_zero n (f := wt _ _ t) (fun i hi => by simp [wt]), sumN_zero n (f := gt L P D t 0 0) (fun i hi => by simp [gt, relC])]; simp
def relL (L P : Nat → Int) (s : Nat) (l : Nat → Int) (i : Nat) : Int := if (s : Int) % P i = 0 then L i else l i
def relD (P D : Nat → Int) (s : Nat) (d : Nat → Int) (i : Nat) : Int := if (s : Int) % P i = 0 then s + D i else d i
theorem gt_succ (L P D : Nat → Int) (t a : Int) (k : Nat) (i : Nat) : gt L P D t a (k + 1) i = gt L P D t a k i + (if (a + k) % P i = 0 ∧ a + k + D i ≤ t then L i else 0) := by
  unfold gt
  rw [relC, Int.mul_add]
  split <;> simp
theorem EInv.step {n : Nat} {L P D : Nat → Int} (h : JOk n L P D) {s : Nat} {l d c : Nat → Int} (I : EInv n L P D s l d c) (hlate : ∀ i, i < n → ¬ (0 < l i ∧ d i ≤ s)) (l2 c2 : Nat → Int)
    (hb : (∃ b, b < n ∧ 0 < relL L P s l b ∧ (∀ i, i < n → 0 < relL L P s l i → relD P D s d b ≤ relD P D s d i) ∧ (∀ i, i < n → l2 i = relL L P s l i - if i = b then 1 else 0) ∧ (∀ i, i < n → c2 i = c i + if i = b then 1 else 0)) ∨
      ((∀ i, i < n → relL L P s l i ≤ 0) ∧ (∀ i, i < n → l2 i = relL L P s l i) ∧ (∀ i, i < n → c2 i = c i))) : EInv n L P D (s + 1) l2 (relD P D s d) c2 := by
  have low1 : ∀ i, i < n → 0 ≤ relL L P s l i ∧ relL L P s l i ≤ L i := fun i hi => by
    have := h.ok i hi; have := I.low i hi
    unfold relL; split <;> omega
  have hz : ∀ i, i < n → (s : Int) % P i = 0 → l i = 0 := fun i hi e => by
    have h0 := I.low i hi
    by_cases hp : 0 < l i
    · have h1 := I.due i hi hp
      have h2 := hlate i hi
      rw [(cei_hit (by have := h.ok i hi; omega) e).1] at h1
      omega
    · omega
  have due1 : ∀ i, i < n → 0 < relL L P s l i → ((s + 1 : Nat) : Int) ≤ relD P D s d i ∧ relD P D s d i ≤ cei (P i) ((s + 1 : Nat) : Int) * P i := fun i hi hp => by
    have hj := h.ok i hi
    rw [show ((s + 1 : Nat) : Int) = (s : Int) + 1 by omega]
    unfold relL at hp
    unfold relD
    by_cases e : (s : Int) % P i = 0
    · rw [if_pos e]
      obtain ⟨a, b⟩ := cei_hit (by omega) e
      rw [b, Int.add_mul, a]
      omega
    · rw [if_neg e] at hp ⊢
      rw [cei_miss (by omega) e]
      have h1 := I.due i hi hp
      have h2 := hlate i hi
      omega
  have cnt1 : ∀ i, i < n → c i + relL L P s l i = L i * cei (P i) ((s + 1 : Nat) : Int) := fun i hi => by
    have hj := h.ok i hi
    have hc := I.cnt i hi
    rw [show ((s + 1 : Nat) : Int) = (s : Int) + 1 by omega]
    unfold relL
    by_cases e : (s : Int) % P i = 0
    · rw [if_pos e, (cei_hit (by omega) e).2, Int.mul_add, ← hc, hz i hi e]; omega
    · rw [if_neg e, cei_miss (by omega) e, ← hc]
  have w1 : ∀ t : Int, ∀ i, i < n → wt (relL L P s l) (relD P D s d) t i = wt l d t i + (if (s : Int) % P i = 0 ∧ (s : Int) + D i ≤ t then L i else 0) := fun t i hi => by
    unfold wt relL relD
    by_cases e : (s : Int) % P i = 0
    · simp only [if_pos e, hz i hi e]
      by_cases e2 : (s : Int) + D i ≤ t
      · rw [if_pos e2, if_pos (And.intro e e2), ite_self, Int.zero_add]
      · rw [if_neg e2, if_neg (c := _ ∧ _) (fun h' => e2 h'.2), ite_self]; rfl
    · rw [if_neg e, if_neg e, if_neg (c := _ ∧ _) (fun h' => e h'.1), Int.add_zero]
  have W1 : ∀ t : Int, sumN (wt (relL L P s l) (relD P D s d) t) n = sumN (wt l d t) n + sumN (fun i => if (s : Int) % P i = 0 ∧ (s : Int) + D i ≤ t then L i else 0) n := fun t => by
    rw [sumN_congr n (w1 t)]; exact sumN_add n
  have G1 : ∀ (t : Int) (a k : Nat), a + k = s → sumN (gt L P D t a (k + 1)) n = sumN (gt L P D t a k) n + sumN (fun i => if (s : Int) % P i = 0 ∧ (s : Int) + D i ≤ t then L i else 0) n := fun t a k hk => by
    rw [sumN_congr n (fun i _ => gt_succ L P D t a k i)]
    rw [show (a : Int) + (k : Int) = (s : Int) by omega]; exact sumN_add n
  have Z1 : ∀ t : Int, sumN (gt L P D t ((s + 1 : Nat) : Int) 0) n = 0 := fun t => sumN_zero n (fun i hi => by simp [gt, relC])
  have wn : ∀ t : Int, ∀ i, i < n → 0 ≤ wt (relL L P s l) (relD P D s d) t i := fun t i hi => by unfold wt; split; (exact (low1 i hi).1); omega
  rcases hb with ⟨b, hbn, hbp, hbm, hl2, hc2⟩ | ⟨hno, hl2, hc2⟩
  · have W2 : ∀ t : Int, (relD P D s d b ≤ t → sumN (wt l2 (relD P D s d) t) n = sumN (wt (relL L P s l) (relD P D s d) t) n - 1) ∧ (¬ relD P D s d b ≤ t → sumN (wt l2 (relD P D s d) t) n = 0 ∧ sumN (wt (relL L P s l) (relD P D s d) t) n = 0) := fun t => by
      refine ⟨fun hd => ?_, fun hd => ?_⟩
      · refine sumN_one b (-1) n hbn (fun i hi hne => ?_) ?_
        · unfold wt; rw [hl2 i hi, if_neg hne]; simp
        · unfold wt; rw [hl2 b hbn, if_pos rfl, if_pos hd, if_pos hd]; omega
      · have hw0 : ∀ i, i < n → wt (relL L P s l) (relD P D s d) t i = 0 := fun i hi => by
          unfold wt
          by_cases hp : 0 < relL L P s l i
          · have := hbm i hi hp; rw [if_neg (by omega)]
          · have := (low1 i hi).1; split <;> omega
        refine ⟨sumN_zero n fun i hi => ?_, sumN_zero n hw0⟩
        have := hw0 i hi
        by_cases e : i = b
        · subst e; unfold wt; rw [if_neg hd]
        · unfold wt at this ⊢; rw [hl2 i hi, if_neg e]; simpa using this
    refine ⟨fun i hi => ?_, fun i hi hp => ?_, fun i hi => ?_, fun t => ?_, fun t => ?_⟩
    · have := low1 i hi; rw [hl2 i hi]; split
      · rename_i e; subst e; omega
      · omega
    · rw [hl2 i hi] at hp; exact due1 i hi (by split at hp <;> omega)
    · have := cnt1 i hi; rw [hl2 i hi, hc2 i hi]; split <;> omega
    · by_cases hd : relD P D s d b ≤ t
      · obtain ⟨a, k, hk, he⟩ := I.busy t
        refine ⟨a, k + 1, by omega, ?_⟩
        rw [(W2 t).1 hd, W1 t, G1 t a k hk, ← he]; omega
      · refine ⟨s + 1, 0, by omega, ?_⟩
        rw [((W2 t).2 hd).1, Z1 t]; rfl
    · have h0 := I.all t
      have h1' : sumN (gt L P D t 0 (s + 1)) n = sumN (gt L P D t 0 s) n + sumN (fun i => if (s : Int) % P i = 0 ∧ (s : Int) + D i ≤ t then L i else 0) n := G1 t 0 s (by omega)
      have h2 := W1 t
      by_cases hd : relD P D s d b ≤ t
      · have := (W2 t).1 hd; omega
      · have := (W2 t).2 hd; omega
  · have W2 : ∀ t : Int, sumN (wt l2 (relD P D s d) t) n = 0 ∧ sumN (wt (relL L P s l) (relD P D s d) t) n = 0 := fun t => by
      have hw0 : ∀ i, i < n → wt (relL L P s l) (relD P D s d) t i = 0 := fun i hi => by
        have := hno i hi; have := (low1 i hi).1; unfold wt; split <;> omega
      refine ⟨sumN_zero n fun i hi => ?_, sumN_zero n hw0⟩
      have := hw0 i hi
      unfold wt at this ⊢; rw [hl2 i hi]; exact this
    refine ⟨fun i hi => ?_, fun i hi hp => ?_, fun i hi => ?_, fun t => ?_, fun t => ?_⟩
    · have := low1 i hi; rw [hl2 i hi]; exact this
    · rw [hl2 i hi] at hp; exact due1 i hi hp
    · have := cnt1 i hi; rw [hl2 i hi, hc2 i hi]; exact this
    · refine ⟨s + 1, 0, by omega, ?_⟩
      rw [(W2 t).1, Z1 t]; rfl
    · have h0 := I.all t
      have h1' : sumN (gt L P D t 0 (s + 1)) n = sumN (gt L P D t 0 s) n + sumN (fun i => if (s : Int) % P i = 0 ∧ (s : Int) + D i ≤ t then L i else 0) n := G1 t 0 s (by omega)
      have h2 := W1 t
      have h3 := W2 t
      omega
theorem EInv.late {n : Nat} {L P D : Nat → Int} (h : JOk n L P D) {s : Nat} {l d c : Nat → Int} (I : EInv n L P D s l d c) (i : Nat) (hi : i < n) (hl : 0 < l i) (hd : d i ≤ s) : ∃ m : Int, 1 ≤ m ∧ m ≤ s ∧ m < demand n L P D m := by
  obtain ⟨a, k, hk, he⟩ := I.busy s
  have h1 : wt l d s i = l i := by unfold wt; rw [if_pos hd]
  have h2 := sumN_pos (f := wt l d s) n (fun j hj => by have := (I.low j hj).1; unfold wt; split <;> omega) i hi
  have h3 : sumN (gt L P D s a k) n ≤ demand n L P D k := by
    refine sumN_le n fun j hj => ?_
    have hj' := h.ok j hj
    have := relC_le (P := P j) (D := D j) (t := s) (a := a) (by omega) k (by omega) (by omega)
    rw [show (s : Int) - (a : Int) = (k : Int) by omega] at this
    exact Int.mul_le_mul_of_nonneg_left this (by omega)
  refine ⟨k, ?_, by omega, by omega⟩
  by_cases e : k = 0
  · subst e
    rw [sumN_zero n (fun j hj => by simp [gt, relC] : ∀ j, j < n → gt L P D s a 0 j = 0)] at he
    simp at he
    omega
  · omega
theorem EInv.fine {n : Nat} {L P D : Nat → Int} (h : JOk n L P D) {s : Nat} {l d c : Nat → Int} (I : EInv n L P D s l d c) (hlate : ∀ i, i < n → ¬ (0 < l i ∧ d i ≤ s)) : demand n L P D s ≤ s := by
  have h0 := I.all s
  have h1 : sumN (wt l d s) n = 0 := sumN_zero n fun i hi => by
    have := hlate i hi; have := (I.low i hi).1
    unfold wt; split <;> omega
  have h2 : sumN (gt L P D s 0 s) n = demand n L P D s := sumN_congr n fun j hj => by
    have hj' := h.ok j hj
    unfold gt; rw [relC_zero (by omega) s rfl (by omega)]
  omega
end Go.Proofs.Ytoakdilhljnjfaa.Edf
namespace Go.Proofs.Ytoakdilhljnjfaa.Q
open Go.RowKit Go.Proofs.YtoakdilhljnjfaaW.PrintWords Go.Proofs.YtoakdilhljnjfaaW.PrintLast Go.Proofs.YtoakdilhljnjfaaW.PrintMore
attribute [local go_sem] max2_int min2_int max_two min_two max_three min_three max_four min_four   -- for this text's walks alone
set_option linter.unusedVariables false
set_option linter.unusedSimpArgs false
def impl_Jobs_whole.f (k : Nat) (l0_0 : List Int) (l0_1 : List Int) (l0_2 : List Int) : Option (Int) := (impl_Tasks_multiple.f k l0_1).bind fun t340 => (some t340)
set_option maxHeartbeats 8000000 in
set_option maxRecDepth 100000 in
theorem impl_Jobs_whole.calls (k : Nat) (A0_0 : Option Addr) (c0_0 : Nat) (l0_0 : List Int) (A0_1 : Option Addr) (c0_1 : Nat) (l0_1 : List Int) (A0_2 : Option Addr) (c0_2 : Nat) (l0_2 : List Int) (r : Int) (w : World) (hr0_0 : Kd.C (Kd.int .i64) w A0_0 l0_0.length l0_0) (hc0_0 : l0_0.length ≤ c0_0) (hr0_1 : Kd.C (Kd.int .i64) w A0_1 l0_1.length l0_1) (hc0_1 : l0_1.length ≤ c0_1) (hr0_2 : Kd.C (Kd.int .i64) w A0_2 l0_2.length l0_2) (hc0_2 : l0_2.length ≤ c0_2) (h : impl_Jobs_whole.f k l0_0 l0_1 l0_2 = some r) :
 Calls Try.prog 73 #[.agg #[.slice A0_0 l0_0.length c0_0, .slice A0_1 l0_1.length c0_1, .slice A0_2 l0_2.length c0_2]] w fun e w' => e = .returned (.int .i64 r) ∧ Below w.heap.size w w' := by
 have hu33 := Try.underlying33
 have hu67 := Try.underlying67
 have HR0_0 := Aside0.mk hr0_0
 have HC0_0 := Aside0.mk hc0_0
 clear hr0_0 hc0_0
 have HR0_1 := Aside0.mk hr0_1
 have HC0_1 := Aside0.mk hc0_1
 clear hr0_1 hc0_1
 have HR0_2 := Aside0.mk hr0_2
 have HC0_2 := Aside0.mk hc0_2
 clear hr0_2 hc0_2
 have HB := Aside0.mk (Below.refl w.heap.size w)
 have H : ((impl_Tasks_multiple.f k l0_1).bind fun t340 => (some t340)) = some r := h
 clear h
 replace H := Option.bind_eq_some_iff.mp H
 obtain ⟨t340, A20, H⟩ := H
 replace H : (some t340) = some r := H
 have A2 := Aside0.mk A20
 clear A20
 obtain rfl := Option.some.inj H
 go_enter Try.func73, Try.ntmps73
 go_wp2_with (first | ((with_reducible refine gate_dst (N := 1) rfl ?_); refine box_event ?hg (N := 1) ?hd (cs := #[.slice A0_0 l0_0.length c0_0, .slice A0_1 l0_1.length c0_1, .slice A0_2 l0_2.length c0_2]) (t := 33) ?hr ?_; (case hd => rfl); (case hg => rfl); (case hr => (go_simp; done)); intro gb339 hg w3 hbox hb; have n0_ := Aside0.mk (below_step HB.out hb); have n1_ := Aside0.mk (hbox); have n2_ := Aside0.mk ((by rw [hg]; exact (below_size HB.out) : w.heap.size ≤ gb339)); have n3_ := Aside0.mk ((by rw [hg]; exact (below_size HB.out) : w.heap.size ≤ gb339)); clear HB; have HB := n0_; have BK339 := n1_; have GW339 := n2_; have GE339 := n3_; clear n0_ n1_ n2_ n3_; clear hb hbox hg; have hcz4_0 : w3.cell? ⟨gb339, 0, none⟩ = some (.slice A0_0 l0_0.length c0_0) := (blk_cell BK339.out 0).trans rfl; have hcz4_1 : w3.cell? ⟨gb339, 1, none⟩ = some (.slice A0_1 l0_1.length c0_1) := (blk_cell BK339.out 1).trans rfl; have hcz4_2 : w3.cell? ⟨gb339, 2, none⟩ = some (.slice A0_2 l0_2.length c0_2) := (blk_cell BK339.out 2).trans rfl; have hfz4_0 := blk_frozen BK339.out 0; have hfz4_1 := blk_frozen BK339.out 1; have hfz4_2 := blk_frozen BK339.out 2) | ((with_reducible refine gate_callee (f := 107) rfl ?_); refine goesL_ (some 6) rfl rfl Try.func107 (by kernel_rfl) rfl #[.agg #[.slice A0_1 l0_1.length c0_1]] rfl (by (try simp only [List.map_toArray, List.map_cons, List.map_nil]); rfl) ?_; (with_reducible refine (impl_Tasks_multiple.calls k _ _ l0_1 t340 _ ?side1 ?side2 A2.out).mono ?_); (case side1 => exact (Kd.C_below HR0_1.out HB.out)); (case side2 => exact HC0_1.out); rintro e w5 ⟨rfl, hb⟩; refine ⟨_, rfl, ?_⟩; have n0_ := Aside0.mk (blk_below (g := gb339) (o := .cells #[.slice A0_0 l0_0.length c0_0, .slice A0_1 l0_1.length c0_1, .slice A0_2 l0_2.length c0_2] 33 (0, 0)) BK339.out hb); have n1_ := Aside0.mk (below_step HB.out hb); clear BK339; clear HB; have BK339 := n0_; have HB := n1_; clear n0_ n1_; (try clear hb); (try clear hb2); (try clear hk); (try clear hi)))
 go_ret
 exact ⟨by rfl, by exact HB.out⟩
end Go.Proofs.Ytoakdilhljnjfaa.Q
namespace Go.Proofs.Ytoakdilhljnjfaa.Q
open Go.RowKit Go.Proofs.YtoakdilhljnjfaaW.PrintWords Go.Proofs.YtoakdilhljnjfaaW.PrintLast Go.Proofs.YtoakdilhljnjfaaW.PrintMore
attribute [local go_sem] max2_int min2_int max_two min_two max_three min_three max_four min_four   -- for this text's walks alone
set_option linter.unusedVariables false
set_option linter.unusedSimpArgs false
def impl_jobsCode.f (k : Nat) (l0_0 : List Int) (l0_1 : List Int) (l0_2 : List Int) (a1 : Bool) (a2 : Bool) : Option (Int) := (impl_AreJobs.f k l0_0 l0_1 l0_2).bind fun t342 => (if t342 = true then (if a1 = true then (if a2 = true then ((impl_Jobs_whole.f k l0_0 l0_1 l0_2).bind fun t343 => (if t343 > 240 then (some 3) else (some 0))) else (some 0)) else (some 2)) else (some 1))
set_option maxHeartbeats 8000000 in
set_option maxRecDepth 100000 in
theorem impl_jobsCode.calls (k : Nat) (A0_0 : Option Addr) (c0_0 : Nat) (l0_0 : List Int) (A0_1 : Option Addr) (c0_1 : Nat) (l0_1 : List Int) (A0_2 : Option Addr) (c0_2 : Nat) (l0_2 : List Int) (a1 : Bool) (a2 : Bool) (r : Int) (w : World) (hr0_0 : Kd.C (Kd.int .i64) w A0_0 l0_0.length l0_0) (hc0_0 : l0_0.length ≤ c0_0) (hr0_1 : Kd.C (Kd.int .i64) w A0_1 l0_1.length l0_1) (hc0_1 : l0_1.length ≤ c0_1) (hr0_2 : Kd.C (Kd.int .i64) w A0_2 l0_2.length l0_2) (hc0_2 : l0_2.length ≤ c0_2) (h : impl_jobsCode.f k l0_0 l0_1 l0_2 a1 a2 = some r) :
 Calls Try.prog 56 #[.agg #[.slice A0_0 l0_0.length c0_0, .slice A0_1 l0_1.length c0_1, .slice A0_2 l0_2.length c0_2], .bool a1, .bool a2] w fun e w' => e = .returned (.int .i64 r) ∧ Below w.heap.size w w' := by
 have hu33 := Try.underlying33
 have HR0_0 := Aside0.mk hr0_0
 have HC0_0 := Aside0.mk hc0_0
 clear hr0_0 hc0_0
 have HR0_1 := Aside0.mk hr0_1
 have HC0_1 := Aside0.mk hc0_1
 clear hr0_1 hc0_1
 have HR0_2 := Aside0.mk hr0_2
 have HC0_2 := Aside0.mk hc0_2
 clear hr0_2 hc0_2
 have HB := Aside0.mk (Below.refl w.heap.size w)
 have H : ((impl_AreJobs.f k l0_0 l0_1 l0_2).bind fun t342 => (if t342 = true then (if a1 = true then (if a2 = true then ((impl_Jobs_whole.f k l0_0 l0_1 l0_2).bind fun t343 => (if t343 > 240 then (some 3) else (some 0))) else (some 0)) else (some 2)) else (some 1))) = some r := h
 clear h
 replace H := Option.bind_eq_some_iff.mp H
 obtain ⟨t342, A40, H⟩ := H
 replace H : (if t342 = true then (if a1 = true then (if a2 = true then ((impl_Jobs_whole.f k l0_0 l0_1 l0_2).bind fun t343 => (if t343 > 240 then (some 3) else (some 0))) else (some 0)) else (some 2)) else (some 1)) = some r := H
 have A4 := Aside0.mk A40
 clear A40
 by_cases c5 : t342 = true
 rotate_left
 · replace c5 := Bool.eq_false_iff.mpr c5
   subst c5
   have H1 : (some 1) = some r := by rw [if_neg (show ¬ (false = true) by decide)] at H; exact H
   clear H
   have H := H1
   clear H1
   obtain rfl := Option.some.inj H
   go_enter Try.func56, Try.ntmps56
   go_wp2_with (first | ((with_reducible refine gate_dst (N := 3) rfl ?_); refine box_event ?hg (N := 3) ?hd (cs := #[.slice A0_0 l0_0.length c0_0, .slice A0_1 l0_1.length c0_1, .slice A0_2 l0_2.length c0_2]) (t := 33) ?hr ?_; (case hd => rfl); (case hg => rfl); (case hr => (go_simp; done)); intro gb341 hg w26 hbox hb; have n0_ := Aside0.mk (below_step HB.out hb); have n1_ := Aside0.mk (hbox); have n2_ := Aside0.mk ((by rw [hg]; exact (below_size HB.out) : w.heap.size ≤ gb341)); have n3_ := Aside0.mk ((by rw [hg]; exact (below_size HB.out) : w.heap.size ≤ gb341)); clear HB; have HB := n0_; have BK341 := n1_; have GW341 := n2_; have GE341 := n3_; clear n0_ n1_ n2_ n3_; clear hb hbox hg; have hcz27_0 : w26.cell? ⟨gb341, 0, none⟩ = some (.slice A0_0 l0_0.length c0_0) := (blk_cell BK341.out 0).trans rfl; have hcz27_1 : w26.cell? ⟨gb341, 1, none⟩ = some (.slice A0_1 l0_1.length c0_1) := (blk_cell BK341.out 1).trans rfl; have hcz27_2 : w26.cell? ⟨gb341, 2, none⟩ = some (.slice A0_2 l0_2.length c0_2) := (blk_cell BK341.out 2).trans rfl; have hfz27_0 := blk_frozen BK341.out 0; have hfz27_1 := blk_frozen BK341.out 1; have hfz27_2 := blk_frozen BK341.out 2) | ((with_reducible refine gate_callee (f := 37) rfl ?_); refine goesL_ (some 9) rfl rfl Try.func37 (by kernel_rfl) rfl #[.agg #[.slice A0_0 l0_0.length c0_0, .slice A0_1 l0_1.length c0_1, .slice A0_2 l0_2.length c0_2]] rfl (by (try simp only [List.map_toArray, List.map_cons, List.map_nil]); rfl) ?_; (with_reducible refine (impl_AreJobs.calls k _ _ l0_0 _ _ l0_1 _ _ l0_2 false _ ?side1 ?side2 ?side3 ?side4 ?side5 ?side6 A4.out).mono ?_); (case side1 => exact (Kd.C_below HR0_0.out HB.out)); (case side2 => exact HC0_0.out); (case side3 => exact (Kd.C_below HR0_1.out HB.out)); (case side4 => exact HC0_1.out); (case side5 => exact (Kd.C_below HR0_2.out HB.out)); (case side6 => exact HC0_2.out); rintro e w28 ⟨rfl, hb⟩; refine ⟨_, rfl, ?_⟩; have n0_ := Aside0.mk (blk_below (g := gb341) (o := .cells #[.slice A0_0 l0_0.length c0_0, .slice A0_1 l0_1.length c0_1, .slice A0_2 l0_2.length c0_2] 33 (0, 0)) BK341.out hb); have n1_ := Aside0.mk (below_step HB.out hb); clear BK341; clear HB; have BK341 := n0_; have HB := n1_; clear n0_ n1_; (try clear hb); (try clear hb2); (try clear hk); (try clear hi)))
   go_ret
   exact ⟨by rfl, by exact HB.out⟩
 subst c5
 have H1 : (if a1 = true then (if a2 = true then ((impl_Jobs_whole.f k l0_0 l0_1 l0_2).bind fun t343 => (if t343 > 240 then (some 3) else (some 0))) else (some 0)) else (some 2)) = some r := by rw [if_pos rfl] at H; exact H
 clear H
 have H := H1
 clear H1
 by_cases c6 : a1 = true
 rotate_left
 · replace c6 := Bool.eq_false_iff.mpr c6
   subst c6
   have H1 : (some 2) = some r := by rw [if_neg (show ¬ (false = true) by decide)] at H; exact H
   clear H
   have H := H1
   clear H1
   obtain rfl := Option.some.inj H
   go_enter Try.func56, Try.ntmps56
   go_wp2_with (first | ((with_reducible refine gate_dst (N := 3) rfl ?_); refine box_event ?hg (N := 3) ?hd (cs := #[.slice A0_0 l0_0.length c0_0, .slice A0_1 l0_1.length c0_1, .slice A0_2 l0_2.length c0_2]) (t := 33) ?hr ?_; (case hd => rfl); (case hg => rfl); (case hr => (go_simp; done)); intro gb341 hg w23 hbox hb; have n0_ := Aside0.mk (below_step HB.out hb); have n1_ := Aside0.mk (hbox); have n2_ := Aside0.mk ((by rw [hg]; exact (below_size HB.out) : w.heap.size ≤ gb341)); have n3_ := Aside0.mk ((by rw [hg]; exact (below_size HB.out) : w.heap.size ≤ gb341)); clear HB; have HB := n0_; have BK341 := n1_; have GW341 := n2_; have GE341 := n3_; clear n0_ n1_ n2_ n3_; clear hb hbox hg; have hcz24_0 : w23.cell? ⟨gb341, 0, none⟩ = some (.slice A0_0 l0_0.length c0_0) := (blk_cell BK341.out 0).trans rfl; have hcz24_1 : w23.cell? ⟨gb341, 1, none⟩ = some (.slice A0_1 l0_1.length c0_1) := (blk_cell BK341.out 1).trans rfl; have hcz24_2 : w23.cell? ⟨gb341, 2, none⟩ = some (.slice A0_2 l0_2.length c0_2) := (blk_cell BK341.out 2).trans rfl; have hfz24_0 := blk_frozen BK341.out 0; have hfz24_1 := blk_frozen BK341.out 1; have hfz24_2 := blk_frozen BK341.out 2) | ((with_reducible refine gate_callee (f := 37) rfl ?_); refine goesL_ (some 9) rfl rfl Try.func37 (by kernel_rfl) rfl #[.agg #[.slice A0_0 l0_0.length c0_0, .slice A0_1 l0_1.length c0_1, .slice A0_2 l0_2.length c0_2]] rfl (by (try simp only [List.map_toArray, List.map_cons, List.map_nil]); rfl) ?_; (with_reducible refine (impl_AreJobs.calls k _ _ l0_0 _ _ l0_1 _ _ l0_2 true _ ?side1 ?side2 ?side3 ?side4 ?side5 ?side6 A4.out).mono ?_); (case side1 => exact (Kd.C_below HR0_0.out HB.out)); (case side2 => exact HC0_0.out); (case side3 => exact (Kd.C_below HR0_1.out HB.out)); (case side4 => exact HC0_1.out); (case side5 => exact (Kd.C_below HR0_2.out HB.out)); (case side6 => exact HC0_2.out); rintro e w25 ⟨rfl, hb⟩; refine ⟨_, rfl, ?_⟩; have n0_ := Aside0.mk (blk_below (g := gb341) (o := .cells #[.slice A0_0 l0_0.length c0_0, .slice A0_1 l0_1.length c0_1, .slice A0_2 l0_2.length c0_2] 33 (0, 0)) BK341.out hb); have n1_ := Aside0.mk (below_step HB.out hb); clear BK341; clear HB; have BK341 := n0_; have HB := n1_; clear n0_ n1_; (try clear hb); (try clear hb2); (try clear hk); (try clear hi)))
   go_ret
   exact ⟨by rfl, by exact HB.out⟩
 subst c6
 have H1 : (if a2 = true then ((impl_Jobs_whole.f k l0_0 l0_1 l0_2).bind fun t343 => (if t343 > 240 then (some 3) else (some 0))) else (some 0)) = some r := by rw [if_pos rfl] at H; exact H
 clear H
 have H := H1
 clear H1
 by_cases c7 : a2 = true
 rotate_left
 · replace c7 := Bool.eq_false_iff.mpr c7
   subst c7
   have H1 : (some 0) = some r := by rw [if_neg (show ¬ (false = true) by decide)] at H; exact H
   clear H
   have H := H1
   clear H1
   obtain rfl := Option.some.inj H
   go_enter Try.func56, Try.ntmps56
   go_wp2_with (first | ((with_reducible refine gate_dst (N := 3) rfl ?_); refine box_event ?hg (N := 3) ?hd (cs := #[.slice A0_0 l0_0.length c0_0, .slice A0_1 l0_1.length c0_1, .slice A0_2 l0_2.length c0_2]) (t := 33) ?hr ?_; (case hd => rfl); (case hg => rfl); (case hr => (go_simp; done)); intro gb341 hg w20 hbox hb; have n0_ := Aside0.mk (below_step HB.out hb); have n1_ := Aside0.mk (hbox); have n2_ := Aside0.mk ((by rw [hg]; exact (below_size HB.out) : w.heap.size ≤ gb341)); have n3_ := Aside0.mk ((by rw [hg]; exact (below_size HB.out) : w.heap.size ≤ gb341)); clear HB; have HB := n0_; have BK341 := n1_; have GW341 := n2_; have GE341 := n3_; clear n0_ n1_ n2_ n3_; clear hb hbox hg; have hcz21_0 : w20.cell? ⟨gb341, 0, none⟩ = some (.slice A0_0 l0_0.length c0_0) := (blk_cell BK341.out 0).trans rfl; have hcz21_1 : w20.cell? ⟨gb341, 1, none⟩ = some (.slice A0_1 l0_1.length c0_1) := (blk_cell BK341.out 1).trans rfl; have hcz21_2 : w20.cell? ⟨gb341, 2, none⟩ = some (.slice A0_2 l0_2.length c0_2) := (blk_cell BK341.out 2).trans rfl; have hfz21_0 := blk_frozen BK341.out 0; have hfz21_1 := blk_frozen BK341.out 1; have hfz21_2 := blk_frozen BK341.out 2) | ((with_reducible refine gate_callee (f := 37) rfl ?_); refine goesL_ (some 9) rfl rfl Try.func37 (by kernel_rfl) rfl #[.agg #[.slice A0_0 l0_0.length c0_0, .slice A0_1 l0_1.length c0_1, .slice A0_2 l0_2.length c0_2]] rfl (by (try simp only [List.map_toArray, List.map_cons, List.map_nil]); rfl) ?_; (with_reducible refine (impl_AreJobs.calls k _ _ l0_0 _ _ l0_1 _ _ l0_2 true _ ?side1 ?side2 ?side3 ?side4 ?side5 ?side6 A4.out).mono ?_); (case side1 => exact (Kd.C_below HR0_0.out HB.out)); (case side2 => exact HC0_0.out); (case side3 => exact (Kd.C_below HR0_1.out HB.out)); (case side4 => exact HC0_1.out); (case side5 => exact (Kd.C_below HR0_2.out HB.out)); (case side6 => exact HC0_2.out); rintro e w22 ⟨rfl, hb⟩; refine ⟨_, rfl, ?_⟩; have n0_ := Aside0.mk (blk_below (g := gb341) (o := .cells #[.slice A0_0 l0_0.length c0_0, .slice A0_1 l0_1.length c0_1, .slice A0_2 l0_2.length c0_2] 33 (0, 0)) BK341.out hb); have n1_ := Aside0.mk (below_step HB.out hb); clear BK341; clear HB; have BK341 := n0_; have HB := n1_; clear n0_ n1_; (try clear hb); (try clear hb2); (try clear hk); (try clear hi)))
   go_ret
   exact ⟨by rfl, by exact HB.out⟩
 subst c7
 have H1 : ((impl_Jobs_whole.f k l0_0 l0_1 l0_2).bind fun t343 => (if t343 > 240 then (some 3) else (some 0))) = some r := by rw [if_pos rfl] at H; exact H
 clear H
 have H := H1
 clear H1
 replace H := Option.bind_eq_some_iff.mp H
 obtain ⟨t343, A80, H⟩ := H
 replace H : (if t343 > 240 then (some 3) else (some 0)) = some r := H
 have A8 := Aside0.mk A80
 clear A80
 by_cases c9 : t343 > 240
 · rw [if_pos c9] at H
   have c9b0 : decide (240 < t343) = true := decide_eq_true c9
   clear c9
   obtain rfl := Option.some.inj H
   go_enter Try.func56, Try.ntmps56
   go_wp2_with (first | ((with_reducible refine gate_dst (N := 3) rfl ?_); refine box_event ?hg (N := 3) ?hd (cs := #[.slice A0_0 l0_0.length c0_0, .slice A0_1 l0_1.length c0_1, .slice A0_2 l0_2.length c0_2]) (t := 33) ?hr ?_; (case hd => rfl); (case hg => rfl); (case hr => (go_simp; done)); intro gb341 hg w10 hbox hb; have n0_ := Aside0.mk (below_step HB.out hb); have n1_ := Aside0.mk (hbox); have n2_ := Aside0.mk ((by rw [hg]; exact (below_size HB.out) : w.heap.size ≤ gb341)); have n3_ := Aside0.mk ((by rw [hg]; exact (below_size HB.out) : w.heap.size ≤ gb341)); clear HB; have HB := n0_; have BK341 := n1_; have GW341 := n2_; have GE341 := n3_; clear n0_ n1_ n2_ n3_; clear hb hbox hg; have hcz11_0 : w10.cell? ⟨gb341, 0, none⟩ = some (.slice A0_0 l0_0.length c0_0) := (blk_cell BK341.out 0).trans rfl; have hcz11_1 : w10.cell? ⟨gb341, 1, none⟩ = some (.slice A0_1 l0_1.length c0_1) := (blk_cell BK341.out 1).trans rfl; have hcz11_2 : w10.cell? ⟨gb341, 2, none⟩ = some (.slice A0_2 l0_2.length c0_2) := (blk_cell BK341.out 2).trans rfl; have hfz11_0 := blk_frozen BK341.out 0; have hfz11_1 := blk_frozen BK341.out 1; have hfz11_2 := blk_frozen BK341.out 2) | ((with_reducible refine gate_callee (f := 37) rfl ?_); refine goesL_ (some 9) rfl rfl Try.func37 (by kernel_rfl) rfl #[.agg #[.slice A0_0 l0_0.length c0_0, .slice A0_1 l0_1.length c0_1, .slice A0_2 l0_2.length c0_2]] rfl (by (try simp only [List.map_toArray, List.map_cons, List.map_nil]); rfl) ?_; (with_reducible refine (impl_AreJobs.calls k _ _ l0_0 _ _ l0_1 _ _ l0_2 true _ ?side1 ?side2 ?side3 ?side4 ?side5 ?side6 A4.out).mono ?_); (case side1 => exact (Kd.C_below HR0_0.out HB.out)); (case side2 => exact HC0_0.out); (case side3 => exact (Kd.C_below HR0_1.out HB.out)); (case side4 => exact HC0_1.out); (case side5 => exact (Kd.C_below HR0_2.out HB.out)); (case side6 => exact HC0_2.out); rintro e w12 ⟨rfl, hb⟩; refine ⟨_, rfl, ?_⟩; have n0_ := Aside0.mk (blk_below (g := gb341) (o := .cells #[.slice A0_0 l0_0.length c0_0, .slice A0_1 l0_1.length c0_1, .slice A0_2 l0_2.length c0_2] 33 (0, 0)) BK341.out hb); have n1_ := Aside0.mk (below_step HB.out hb); clear BK341; clear HB; have BK341 := n0_; have HB := n1_; clear n0_ n1_; (try clear hb); (try clear hb2); (try clear hk); (try clear hi); have hcz13_0 : w12.cell? ⟨gb341, 0, none⟩ = some (.slice A0_0 l0_0.length c0_0) := (blk_cell BK341.out 0).trans rfl; have hcz13_1 : w12.cell? ⟨gb341, 1, none⟩ = some (.slice A0_1 l0_1.length c0_1) := (blk_cell BK341.out 1).trans rfl; have hcz13_2 : w12.cell? ⟨gb341, 2, none⟩ = some (.slice A0_2 l0_2.length c0_2) := (blk_cell BK341.out 2).trans rfl; have hfz13_0 := blk_frozen BK341.out 0; have hfz13_1 := blk_frozen BK341.out 1; have hfz13_2 := blk_frozen BK341.out 2) | (go_at_call 73; (with_reducible refine (impl_Jobs_whole.calls k _ _ l0_0 _ _ l0_1 _ _ l0_2 t343 _ ?side1 ?side2 ?side3 ?side4 ?side5 ?side6 A8.out).mono ?_); (case side1 => exact (Kd.C_below HR0_0.out HB.out)); (case side2 => exact HC0_0.out); (case side3 => exact (Kd.C_below HR0_1.out HB.out)); (case side4 => exact HC0_1.out); (case side5 => exact (Kd.C_below HR0_2.out HB.out)); (case side6 => exact HC0_2.out); rintro e w14 ⟨rfl, hb⟩; have n0_ := Aside0.mk (blk_below (g := gb341) (o := .cells #[.slice A0_0 l0_0.length c0_0, .slice A0_1 l0_1.length c0_1, .slice A0_2 l0_2.length c0_2] 33 (0, 0)) BK341.out hb); have n1_ := Aside0.mk (below_step HB.out hb); clear BK341; clear HB; have BK341 := n0_; have HB := n1_; clear n0_ n1_; (try clear hb); (try clear hb2); (try clear hk); (try clear hi)))
   go_ret
   exact ⟨by rfl, by exact HB.out⟩
 rw [if_neg c9] at H
 have c9b0 : decide (240 < t343) = false := decide_eq_false c9
 clear c9
 obtain rfl := Option.some.inj H
 go_enter Try.func56, Try.ntmps56
 go_wp2_with (first | ((with_reducible refine gate_dst (N := 3) rfl ?_); refine box_event ?hg (N := 3) ?hd (cs := #[.slice A0_0 l0_0.length c0_0, .slice A0_1 l0_1.length c0_1, .slice A0_2 l0_2.length c0_2]) (t := 33) ?hr ?_; (case hd => rfl); (case hg => rfl); (case hr => (go_simp; done)); intro gb341 hg w15 hbox hb; have n0_ := Aside0.mk (below_step HB.out hb); have n1_ := Aside0.mk (hbox); have n2_ := Aside0.mk ((by rw [hg]; exact (below_size HB.out) : w.heap.size ≤ gb341)); have n3_ := Aside0.mk ((by rw [hg]; exact (below_size HB.out) : w.heap.size ≤ gb341)); clear HB; have HB := n0_; have BK341 := n1_; have GW341 := n2_; have GE341 := n3_; clear n0_ n1_ n2_ n3_; clear hb hbox hg; have hcz16_0 : w15.cell? ⟨gb341, 0, none⟩ = some (.slice A0_0 l0_0.length c0_0) := (blk_cell BK341.out 0).trans rfl; have hcz16_1 : w15.cell? ⟨gb341, 1, none⟩ = some (.slice A0_1 l0_1.length c0_1) := (blk_cell BK341.out 1).trans rfl; have hcz16_2 : w15.cell? ⟨gb341, 2, none⟩ = some (.slice A0_2 l0_2.length c0_2) := (blk_cell BK341.out 2).trans rfl; have hfz16_0 := blk_frozen BK341.out 0; have hfz16_1 := blk_frozen BK341.out 1; have hfz16_2 := blk_frozen BK341.out 2) | ((with_reducible refine gate_callee (f := 37) rfl ?_); refine goesL_ (some 9) rfl rfl Try.func37 (by kernel_rfl) rfl #[.agg #[.slice A0_0 l0_0.length c0_0, .slice A0_1 l0_1.length c0_1, .slice A0_2 l0_2.length c0_2]] rfl (by (try simp only [List.map_toArray, List.map_cons, List.map_nil]); rfl) ?_; (with_reducible refine (impl_AreJobs.calls k _ _ l0_0 _ _ l0_1 _ _ l0_2 true _ ?side1 ?side2 ?side3 ?side4 ?side5 ?side6 A4.out).mono ?_); (case side1 => exact (Kd.C_below HR0_0.out HB.out)); (case side2 => exact HC0_0.out); (case side3 => exact (Kd.C_below HR0_1.out HB.out)); (case side4 => exact HC0_1.out); (case side5 => exact (Kd.C_below HR0_2.out HB.out)); (case side6 => exact HC0_2.out); rintro e w17 ⟨rfl, hb⟩; refine ⟨_, rfl, ?_⟩; have n0_ := Aside0.mk (blk_below (g := gb341) (o := .cells #[.slice A0_0 l0_0.length c0_0, .slice A0_1 l0_1.length c0_1, .slice A0_2 l0_2.length c0_2] 33 (0, 0)) BK341.out hb); have n1_ := Aside0.mk (below_step HB.out hb); clear BK341; clear HB; have BK341 := n0_; have HB := n1_; clear n0_ n1_; (try clear hb); (try clear hb2); (try clear hk); (try clear hi); have hcz18_0 : w17.cell? ⟨gb341, 0, none⟩ = some (.slice A0_0 l0_0.length c0_0) := (blk_cell BK341.out 0).trans rfl; have hcz18_1 : w17.cell? ⟨gb341, 1, none⟩ = some (.slice A0_1 l0_1.length c0_1) := (blk_cell BK341.out 1).trans rfl; have hcz18_2 : w17.cell? ⟨gb341, 2, none⟩ = some (.slice A0_2 l0_2.length c0_2) := (blk_cell BK341.out 2).trans rfl; have hfz18_0 := blk_frozen BK341.out 0; have hfz18_1 := blk_frozen BK341.out 1; have hfz18_2 := blk_frozen BK341.out 2) | (go_at_call 73; (with_reducible refine (impl_Jobs_whole.calls k _ _ l0_0 _ _ l0_1 _ _ l0_2 t343 _ ?side1 ?side2 ?side3 ?side4 ?side5 ?side6 A8.out).mono ?_); (case side1 => exact (Kd.C_below HR0_0.out HB.out)); (case side2 => exact HC0_0.out); (case side3 => exact (Kd.C_below HR0_1.out HB.out)); (case side4 => exact HC0_1.out); (case side5 => exact (Kd.C_below HR0_2.out HB.out)); (case side6 => exact HC0_2.out); rintro e w19 ⟨rfl, hb⟩; have n0_ := Aside0.mk (blk_below (g := gb341) (o := .cells #[.slice A0_0 l0_0.length c0_0, .slice A0_1 l0_1.length c0_1, .slice A0_2 l0_2.length c0_2] 33 (0, 0)) BK341.out hb); have n1_ := Aside0.mk (below_step HB.out hb); clear BK341; clear HB; have BK341 := n0_; have HB := n1_; clear n0_ n1_; (try clear hb); (try clear hb2); (try clear hk); (try clear hi)))
 go_ret
 exact ⟨by rfl, by exact HB.out⟩
end Go.Proofs.Ytoakdilhljnjfaa.Q
namespace Go.Proofs.Ytoakdilhljnjfaa.Q
open Go.RowKit Go.Proofs.YtoakdilhljnjfaaW.PrintWords Go.Proofs.YtoakdilhljnjfaaW.PrintLast Go.Proofs.YtoakdilhljnjfaaW.PrintMore
attribute [local go_sem] max2_int min2_int max_two min_two max_three min_three max_four min_four   -- for this text's walks alone
set_option linter.unusedVariables false
set_option linter.unusedSimpArgs false
def impl_Jobs_demand.l0 : Nat → Int → Int → List Int → Int → Int → List Int → List Int → List Int → Option (Int)
 | 0, _, _, _, _, _, _, _, _ => none
 | k + 1, x1, x5, x9, x10, x11, x452000, x452001, x452002 => if x11 < x10 then (if 0 ≤ x11 then (if x11 < (x9.length : Int) then (if x1 ≥ (rd x9 x11) then (if x11 < (x452000.length : Int) then (if x11 < (x452001.length : Int) then (if (rd x452001 x11) = 0 then (none) else (impl_Jobs_demand.l0 k x1 (wrap64 (x5 + (wrap64 ((rd x452000 x11) * (wrap64 ((wrap64 (Int.tdiv (wrap64 (x1 - (rd x9 x11))) (rd x452001 x11))) + 1)))))) x9 x10 (wrap64 (x11 + 1)) x452000 x452001 x452002)) else (none)) else (none)) else (impl_Jobs_demand.l0 k x1 x5 x9 x10 (wrap64 (x11 + 1)) x452000 x452001 x452002)) else (none)) else (none)) else (some x5)
def impl_Jobs_demand.f (k : Nat) (l0_0 : List Int) (l0_1 : List Int) (l0_2 : List Int) (a1 : Int) : Option (Int) := impl_Jobs_demand.l0 k a1 0 l0_2 (l0_2.length : Int) 0 l0_0 l0_1 l0_2
set_option maxHeartbeats 8000000 in
set_option maxRecDepth 100000 in
theorem impl_Jobs_demand.calls (k : Nat) (A0_0 : Option Addr) (c0_0 : Nat) (l0_0 : List Int) (A0_1 : Option Addr) (c0_1 : Nat) (l0_1 : List Int) (A0_2 : Option Addr) (c0_2 : Nat) (l0_2 : List Int) (a1 : Int) (r : Int) (w : World) (hr0_0 : Kd.C (Kd.int .i64) w A0_0 l0_0.length l0_0) (hc0_0 : l0_0.length ≤ c0_0) (hr0_1 : Kd.C (Kd.int .i64) w A0_1 l0_1.length l0_1) (hc0_1 : l0_1.length ≤ c0_1) (hr0_2 : Kd.C (Kd.int .i64) w A0_2 l0_2.length l0_2) (hc0_2 : l0_2.length ≤ c0_2) (h : impl_Jobs_demand.f k l0_0 l0_1 l0_2 a1 = some r) :
 Calls Try.prog 80 #[.agg #[.slice A0_0 l0_0.length c0_0, .slice A0_1 l0_1.length c0_1, .slice A0_2 l0_2.length c0_2], .int .i64 a1] w fun e w' => e = .returned (.int .i64 r) ∧ Below w.heap.size w w' := by
 have hu33 := Try.underlying33
 have HR0_0 := Aside0.mk hr0_0
 have HC0_0 := Aside0.mk hc0_0
 clear hr0_0 hc0_0
 have HR0_1 := Aside0.mk hr0_1
 have HC0_1 := Aside0.mk hc0_1
 clear hr0_1 hc0_1
 have HR0_2 := Aside0.mk hr0_2
 have HC0_2 := Aside0.mk hc0_2
 clear hr0_2 hc0_2
 have HB := Aside0.mk (Below.refl w.heap.size w)
 have H : (impl_Jobs_demand.l0 k a1 0 l0_2 (l0_2.length : Int) 0 l0_0 l0_1 l0_2) = some r := h
 clear h
 have H' := Aside0.mk H
 clear H
 go_enter Try.func80, Try.ntmps80
 go_wp2_with (((with_reducible refine gate_dst (N := 2) rfl ?_); refine box_event ?hg (N := 2) ?hd (cs := #[.slice A0_0 l0_0.length c0_0, .slice A0_1 l0_1.length c0_1, .slice A0_2 l0_2.length c0_2]) (t := 33) ?hr ?_; (case hd => rfl); (case hg => rfl); (case hr => (go_simp; done)); intro gb451 hg w3 hbox hb; have n0_ := Aside0.mk (below_step HB.out hb); have n1_ := Aside0.mk (hbox); have n2_ := Aside0.mk ((by rw [hg]; exact (below_size HB.out) : w.heap.size ≤ gb451)); have n3_ := Aside0.mk ((by rw [hg]; exact (below_size HB.out) : w.heap.size ≤ gb451)); clear HB; have HB := n0_; have BK451 := n1_; have GW451 := n2_; have GE451 := n3_; clear n0_ n1_ n2_ n3_; clear hb hbox hg; have hcz4_0 : w3.cell? ⟨gb451, 0, none⟩ = some (.slice A0_0 l0_0.length c0_0) := (blk_cell BK451.out 0).trans rfl; have hcz4_1 : w3.cell? ⟨gb451, 1, none⟩ = some (.slice A0_1 l0_1.length c0_1) := (blk_cell BK451.out 1).trans rfl; have hcz4_2 : w3.cell? ⟨gb451, 2, none⟩ = some (.slice A0_2 l0_2.length c0_2) := (blk_cell BK451.out 2).trans rfl; have hfz4_0 := blk_frozen BK451.out 0; have hfz4_1 := blk_frozen BK451.out 1; have hfz4_2 := blk_frozen BK451.out 2))
 repeat (go_quiet (first | ((with_reducible refine gate_dst (N := 2) rfl ?_); refine box_event ?hg (N := 2) ?hd (cs := #[.slice A0_0 l0_0.length c0_0, .slice A0_1 l0_1.length c0_1, .slice A0_2 l0_2.length c0_2]) (t := 33) ?hr ?_; (case hd => rfl); (case hg => rfl); (case hr => first | (go_simp; done) | (go_simp; rfl)); intro gb451 hg w3 hbox hb; have n0_ := Aside0.mk (below_step (by skip) hb); have n1_ := Aside0.mk (hbox); have n2_ := Aside0.mk ((by rw [hg]; exact (below_size (by skip)) : w.heap.size ≤ gb451)); have n3_ := Aside0.mk ((by rw [hg]; exact (below_size (by skip)) : w.heap.size ≤ gb451)); clear HB; have HB := n0_; have BK451 := n1_; have GW451 := n2_; have GE451 := n3_; clear n0_ n1_ n2_ n3_; clear hb hbox hg; have hcz4_0 : w3.cell? ⟨gb451, 0, none⟩ = some (.slice A0_0 l0_0.length c0_0) := (blk_cell BK451.out 0).trans rfl; have hcz4_1 : w3.cell? ⟨gb451, 1, none⟩ = some (.slice A0_1 l0_1.length c0_1) := (blk_cell BK451.out 1).trans rfl; have hcz4_2 : w3.cell? ⟨gb451, 2, none⟩ = some (.slice A0_2 l0_2.length c0_2) := (blk_cell BK451.out 2).trans rfl; have hfz4_0 := blk_frozen BK451.out 0; have hfz4_1 := blk_frozen BK451.out 1; have hfz4_2 := blk_frozen BK451.out 2)); try go_wp2_with (first | ((with_reducible refine gate_dst (N := 2) rfl ?_); refine box_event ?hg (N := 2) ?hd (cs := #[.slice A0_0 l0_0.length c0_0, .slice A0_1 l0_1.length c0_1, .slice A0_2 l0_2.length c0_2]) (t := 33) ?hr ?_; (case hd => rfl); (case hg => rfl); (case hr => first | (go_simp; done) | (go_simp; rfl)); intro gb451 hg w3 hbox hb; have n0_ := Aside0.mk (below_step (by skip) hb); have n1_ := Aside0.mk (hbox); have n2_ := Aside0.mk ((by rw [hg]; exact (below_size (by skip)) : w.heap.size ≤ gb451)); have n3_ := Aside0.mk ((by rw [hg]; exact (below_size (by skip)) : w.heap.size ≤ gb451)); clear HB; have HB := n0_; have BK451 := n1_; have GW451 := n2_; have GE451 := n3_; clear n0_ n1_ n2_ n3_; clear hb hbox hg; have hcz4_0 : w3.cell? ⟨gb451, 0, none⟩ = some (.slice A0_0 l0_0.length c0_0) := (blk_cell BK451.out 0).trans rfl; have hcz4_1 : w3.cell? ⟨gb451, 1, none⟩ = some (.slice A0_1 l0_1.length c0_1) := (blk_cell BK451.out 1).trans rfl; have hcz4_2 : w3.cell? ⟨gb451, 2, none⟩ = some (.slice A0_2 l0_2.length c0_2) := (blk_cell BK451.out 2).trans rfl; have hfz4_0 := blk_frozen BK451.out 0; have hfz4_1 := blk_frozen BK451.out 1; have hfz4_2 := blk_frozen BK451.out 2)))
 go_loopg [5, 11] k (fun kq v5 v11 w' => ∃ (x5_1 : Int) (x11_1 : Int), v5 = .int .i64 x5_1 ∧ v11 = .int .i64 x11_1 ∧ Aside0 (impl_Jobs_demand.l0 kq a1 x5_1 l0_2 (l0_2.length : Int) x11_1 l0_0 l0_1 l0_2 = some r) ∧ Aside0 (kq ≤ k) ∧ Aside0 (w'.heap[gb451]? = some (.cells #[(.slice A0_0 l0_0.length c0_0), (.slice A0_1 l0_1.length c0_1), (.slice A0_2 l0_2.length c0_2)] 33 (0, 0))) ∧ Aside0 (Below w.heap.size w w'))
 case atStart => exact ⟨(0), (0), (by rfl), (by rfl), H', ⟨Nat.le_refl _⟩, ⟨by exact BK451.out⟩, ⟨by exact HB.out⟩⟩
 clear H'
 clear hcz4_0 hcz4_1 hcz4_2 hfz4_0 hfz4_1 hfz4_2
 obtain ⟨x5_1, x11_1, rfl, rfl, HA, HK1, BK451, HB⟩ := hrel
 cases gk with
 | zero => exact absurd HA.out (by simp [impl_Jobs_demand.l0])
 | succ k1 =>
  have H := HA.out
  clear HA
  simp only [impl_Jobs_demand.l0] at H
  by_cases c5 : x11_1 < (l0_2.length : Int)
  rotate_left
  · rw [if_neg c5] at H
    have c5b0 : decide (x11_1 < (l0_2.length : Int)) = false := decide_eq_false c5
    clear c5
    obtain rfl := Option.some.inj H
    go_wp2
    repeat (go_quiet (fail); try go_wp2)
    go_ret
    exact ⟨by rfl, by exact HB.out⟩
  rw [if_pos c5] at H
  have c5b0 : decide (x11_1 < (l0_2.length : Int)) = true := decide_eq_true c5
  clear c5
  by_cases c6 : 0 ≤ x11_1
  rotate_left
  · rw [if_neg c6] at H
    exact absurd H (by simp)
  rw [if_pos c6] at H
  have c6b0 : decide (0 ≤ x11_1) = true := decide_eq_true c6
  clear c6
  by_cases c7 : x11_1 < (l0_2.length : Int)
  rotate_left
  · rw [if_neg c7] at H
    exact absurd H (by simp)
  rw [if_pos c7] at H
  have c7b0 : decide (x11_1 < (l0_2.length : Int)) = true := decide_eq_true c7
  clear c7
  by_cases c8 : a1 ≥ (rd l0_2 x11_1)
  rotate_left
  · rw [if_neg c8] at H
    have c8b0 : decide ((rd l0_2 x11_1) ≤ a1) = false := decide_eq_false c8
    clear c8
    have H' := Aside0.mk H
    clear H
    have p452 : 0 ≤ (x11_1 : Int) := of_decide_eq_true (by (with_reducible assumption))
    have q452 : x11_1 < (l0_2.length : Int) := of_decide_eq_true (by (with_reducible assumption))
    obtain ⟨ad452, e452, hx452_0⟩ := Kd.at_int HR0_2.out x11_1 p452 q452
    cases e452
    replace hx452_0 := (HB.out.cell (World.block_lt_of_cell? w _ hx452_0)).trans hx452_0
    replace p452 := eq_true p452
    replace q452 := eq_true q452
    go_wp2
    repeat (go_quiet (fail); try go_wp2)
    go_roundg k1
    case measure => have := HK1.out; omega
    case rel => exact ⟨(x5_1), (wrap64 (x11_1 + 1)), (by rfl), (by rfl), H', ⟨by have := HK1.out; omega⟩, ⟨by exact BK451.out⟩, ⟨by exact HB.out⟩⟩
  rw [if_pos c8] at H
  have c8b0 : decide ((rd l0_2 x11_1) ≤ a1) = true := decide_eq_true c8
  clear c8
  by_cases c9 : x11_1 < (l0_0.length : Int)
  rotate_left
  · rw [if_neg c9] at H
    exact absurd H (by simp)
  rw [if_pos c9] at H
  have c9b0 : decide (x11_1 < (l0_0.length : Int)) = true := decide_eq_true c9
  clear c9
  by_cases c10 : x11_1 < (l0_1.length : Int)
  rotate_left
  · rw [if_neg c10] at H
    exact absurd H (by simp)
  rw [if_pos c10] at H
  have c10b0 : decide (x11_1 < (l0_1.length : Int)) = true := decide_eq_true c10
  clear c10
  by_cases c11 : (rd l0_1 x11_1) = 0
  · rw [if_pos c11] at H
    exact absurd H (by simp)
  rw [if_neg c11] at H
  have c11b0 : ((rd l0_1 x11_1) == 0) = false := beq_eq_false_iff_ne.mpr c11
  have c11b1 : ((rd l0_1 x11_1) != 0) = true := bne_iff_ne.mpr c11
  have H' := Aside0.mk H
  clear H
  have p452 : 0 ≤ (x11_1 : Int) := of_decide_eq_true (by (with_reducible assumption))
  have q452 : x11_1 < (l0_2.length : Int) := of_decide_eq_true (by (with_reducible assumption))
  obtain ⟨ad452, e452, hx452_0⟩ := Kd.at_int HR0_2.out x11_1 p452 q452
  cases e452
  replace hx452_0 := (HB.out.cell (World.block_lt_of_cell? w _ hx452_0)).trans hx452_0
  replace p452 := eq_true p452
  replace q452 := eq_true q452
  have hcz12_0 : wr.cell? ⟨gb451, 0, none⟩ = some (.slice A0_0 l0_0.length c0_0) := (blk_cell BK451.out 0).trans rfl
  have hcz12_1 : wr.cell? ⟨gb451, 1, none⟩ = some (.slice A0_1 l0_1.length c0_1) := (blk_cell BK451.out 1).trans rfl
  have hcz12_2 : wr.cell? ⟨gb451, 2, none⟩ = some (.slice (some ad452) l0_2.length c0_2) := (blk_cell BK451.out 2).trans rfl
  have hfz12_0 := blk_frozen BK451.out 0
  have hfz12_1 := blk_frozen BK451.out 1
  have hfz12_2 := blk_frozen BK451.out 2
  have p453 : 0 ≤ (x11_1 : Int) := of_decide_eq_true (by (with_reducible assumption))
  have q453 : x11_1 < (l0_0.length : Int) := of_decide_eq_true (by (with_reducible assumption))
  obtain ⟨ad453, e453, hx453_0⟩ := Kd.at_int HR0_0.out x11_1 p453 q453
  cases e453
  replace hx453_0 := (HB.out.cell (World.block_lt_of_cell? w _ hx453_0)).trans hx453_0
  replace p453 := eq_true p453
  replace q453 := eq_true q453
  have p454 : 0 ≤ (x11_1 : Int) := of_decide_eq_true (by (with_reducible assumption))
  have q454 : x11_1 < (l0_1.length : Int) := of_decide_eq_true (by (with_reducible assumption))
  obtain ⟨ad454, e454, hx454_0⟩ := Kd.at_int HR0_1.out x11_1 p454 q454
  cases e454
  replace hx454_0 := (HB.out.cell (World.block_lt_of_cell? w _ hx454_0)).trans hx454_0
  replace p454 := eq_true p454
  replace q454 := eq_true q454
  go_wp2
  repeat (go_quiet (fail); try go_wp2)
  go_roundg k1
  case measure => have := HK1.out; omega
  case rel => exact ⟨(wrap64 (x5_1 + (wrap64 ((rd l0_0 x11_1) * (wrap64 ((wrap64 (Int.tdiv (wrap64 (a1 - (rd l0_2 x11_1))) (rd l0_1 x11_1))) + 1)))))), (wrap64 (x11_1 + 1)), (by rfl), (by rfl), H', ⟨by have := HK1.out; omega⟩, ⟨by (with_reducible repeat (refine blk_drewN ?_ _)); exact BK451.out⟩, ⟨by repeat (with_reducible first | exact HB.out | apply pw_below_drewN)⟩⟩
end Go.Proofs.Ytoakdilhljnjfaa.Q
namespace Go.Proofs.Ytoakdilhljnjfaa.Q
open Go.RowKit Go.Proofs.YtoakdilhljnjfaaW.PrintWords Go.Proofs.YtoakdilhljnjfaaW.PrintLast Go.Proofs.YtoakdilhljnjfaaW.PrintMore
attribute [local go_sem] max2_int min2_int max_two min_two max_three min_three max_four min_four   -- for this text's walks alone
set_option linter.unusedVariables false
set_option linter.unusedSimpArgs false
def impl_Jobs_room.l0 : Nat → Int → Int → List Int → List Int → List Int → Option (Int)
 | 0, _, _, _, _, _ => none
 | k + 1, x3, x4, x456000, x456001, x456002 => (impl_Jobs_whole.f k x456000 x456001 x456002).bind fun t457 => (if x4 ≤ t457 then ((impl_Jobs_demand.f k x456000 x456001 x456002 x4).bind fun t458 => (impl_Jobs_room.l0 k (mn x3 (wrap64 (x4 - t458))) (wrap64 (x4 + 1)) x456000 x456001 x456002)) else (some x3))
def impl_Jobs_room.f (k : Nat) (l0_0 : List Int) (l0_1 : List Int) (l0_2 : List Int) : Option (Int) := (impl_Jobs_demand.f k l0_0 l0_1 l0_2 1).bind fun t456 => (impl_Jobs_room.l0 k (wrap64 (1 - t456)) 2 l0_0 l0_1 l0_2)
set_option maxHeartbeats 8000000 in
set_option maxRecDepth 100000 in
theorem impl_Jobs_room.calls (k : Nat) (A0_0 : Option Addr) (c0_0 : Nat) (l0_0 : List Int) (A0_1 : Option Addr) (c0_1 : Nat) (l0_1 : List Int) (A0_2 : Option Addr) (c0_2 : Nat) (l0_2 : List Int) (r : Int) (w : World) (hr0_0 : Kd.C (Kd.int .i64) w A0_0 l0_0.length l0_0) (hc0_0 : l0_0.length ≤ c0_0) (hr0_1 : Kd.C (Kd.int .i64) w A0_1 l0_1.length l0_1) (hc0_1 : l0_1.length ≤ c0_1) (hr0_2 : Kd.C (Kd.int .i64) w A0_2 l0_2.length l0_2) (hc0_2 : l0_2.length ≤ c0_2) (h : impl_Jobs_room.f k l0_0 l0_1 l0_2 = some r) :
 Calls Try.prog 70 #[.agg #[.slice A0_0 l0_0.length c0_0, .slice A0_1 l0_1.length c0_1, .slice A0_2 l0_2.length c0_2]] w fun e w' => e = .returned (.int .i64 r) ∧ Below w.heap.size w w' := by
 have hu33 := Try.underlying33
 have HR0_0 := Aside0.mk hr0_0
 have HC0_0 := Aside0.mk hc0_0
 clear hr0_0 hc0_0
 have HR0_1 := Aside0.mk hr0_1
 have HC0_1 := Aside0.mk hc0_1
 clear hr0_1 hc0_1
 have HR0_2 := Aside0.mk hr0_2
 have HC0_2 := Aside0.mk hc0_2
 clear hr0_2 hc0_2
 have HB := Aside0.mk (Below.refl w.heap.size w)
 have H : ((impl_Jobs_demand.f k l0_0 l0_1 l0_2 1).bind fun t456 => (impl_Jobs_room.l0 k (wrap64 (1 - t456)) 2 l0_0 l0_1 l0_2)) = some r := h
 clear h
 replace H := Option.bind_eq_some_iff.mp H
 obtain ⟨t456, A20, H⟩ := H
 replace H : (impl_Jobs_room.l0 k (wrap64 (1 - t456)) 2 l0_0 l0_1 l0_2) = some r := H
 have A2 := Aside0.mk A20
 clear A20
 have H' := Aside0.mk H
 clear H
 go_enter Try.func70, Try.ntmps70
 go_wp2_with (first | ((with_reducible refine gate_dst (N := 1) rfl ?_); refine box_event ?hg (N := 1) ?hd (cs := #[.slice A0_0 l0_0.length c0_0, .slice A0_1 l0_1.length c0_1, .slice A0_2 l0_2.length c0_2]) (t := 33) ?hr ?_; (case hd => rfl); (case hg => rfl); (case hr => (go_simp; done)); intro gb455 hg w3 hbox hb; have n0_ := Aside0.mk (below_step HB.out hb); have n1_ := Aside0.mk (hbox); have n2_ := Aside0.mk ((by rw [hg]; exact (below_size HB.out) : w.heap.size ≤ gb455)); have n3_ := Aside0.mk ((by rw [hg]; exact (below_size HB.out) : w.heap.size ≤ gb455)); clear HB; have HB := n0_; have BK455 := n1_; have GW455 := n2_; have GE455 := n3_; clear n0_ n1_ n2_ n3_; clear hb hbox hg; have hcz4_0 : w3.cell? ⟨gb455, 0, none⟩ = some (.slice A0_0 l0_0.length c0_0) := (blk_cell BK455.out 0).trans rfl; have hcz4_1 : w3.cell? ⟨gb455, 1, none⟩ = some (.slice A0_1 l0_1.length c0_1) := (blk_cell BK455.out 1).trans rfl; have hcz4_2 : w3.cell? ⟨gb455, 2, none⟩ = some (.slice A0_2 l0_2.length c0_2) := (blk_cell BK455.out 2).trans rfl; have hfz4_0 := blk_frozen BK455.out 0; have hfz4_1 := blk_frozen BK455.out 1; have hfz4_2 := blk_frozen BK455.out 2) | ((with_reducible refine gate_callee (f := 80) rfl ?_); refine goesL_ (some 6) rfl rfl Try.func80 (by kernel_rfl) rfl #[.agg #[.slice A0_0 l0_0.length c0_0, .slice A0_1 l0_1.length c0_1, .slice A0_2 l0_2.length c0_2], .int .i64 1] rfl (by (try simp only [List.map_toArray, List.map_cons, List.map_nil]); rfl) ?_; (with_reducible refine (impl_Jobs_demand.calls k _ _ l0_0 _ _ l0_1 _ _ l0_2 1 t456 _ ?side1 ?side2 ?side3 ?side4 ?side5 ?side6 A2.out).mono ?_); (case side1 => exact (Kd.C_below HR0_0.out HB.out)); (case side2 => exact HC0_0.out); (case side3 => exact (Kd.C_below HR0_1.out HB.out)); (case side4 => exact HC0_1.out); (case side5 => exact (Kd.C_below HR0_2.out HB.out)); (case side6 => exact HC0_2.out); rintro e w5 ⟨rfl, hb⟩; refine ⟨_, rfl, ?_⟩; have n0_ := Aside0.mk (blk_below (g := gb455) (o := .cells #[.slice A0_0 l0_0.length c0_0, .slice A0_1 l0_1.length c0_1, .slice A0_2 l0_2.length c0_2] 33 (0, 0)) BK455.out hb); have n1_ := Aside0.mk (below_step HB.out hb); clear BK455; clear HB; have BK455 := n0_; have HB := n1_; clear n0_ n1_; (try clear hb); (try clear hb2); (try clear hk); (try clear hi)))
 go_loopg [3, 4] k (fun kq v3 v4 w' => ∃ (x3_1 : Int) (x4_1 : Int), v3 = .int .i64 x3_1 ∧ v4 = .int .i64 x4_1 ∧ Aside0 (impl_Jobs_room.l0 kq x3_1 x4_1 l0_0 l0_1 l0_2 = some r) ∧ Aside0 (kq ≤ k) ∧ Aside0 (w'.heap[gb455]? = some (.cells #[(.slice A0_0 l0_0.length c0_0), (.slice A0_1 l0_1.length c0_1), (.slice A0_2 l0_2.length c0_2)] 33 (0, 0))) ∧ Aside0 (Below w.heap.size w w'))
 case atStart => exact ⟨(wrap64 (1 - t456)), (2), (by rfl), (by rfl), H', ⟨Nat.le_refl _⟩, ⟨by exact BK455.out⟩, ⟨by exact HB.out⟩⟩
 clear H'
 clear hcz4_0 hcz4_1 hcz4_2 hfz4_0 hfz4_1 hfz4_2
 obtain ⟨x3_1, x4_1, rfl, rfl, HA, HK1, BK455, HB⟩ := hrel
 cases gk with
 | zero => exact absurd HA.out (by simp [impl_Jobs_room.l0])
 | succ k1 =>
  have H := HA.out
  clear HA
  simp only [impl_Jobs_room.l0] at H
  replace H := Option.bind_eq_some_iff.mp H
  obtain ⟨t457, A60, H⟩ := H
  replace H : (if x4_1 ≤ t457 then ((impl_Jobs_demand.f k1 l0_0 l0_1 l0_2 x4_1).bind fun t458 => (impl_Jobs_room.l0 k1 (mn x3_1 (wrap64 (x4_1 - t458))) (wrap64 (x4_1 + 1)) l0_0 l0_1 l0_2)) else (some x3_1)) = some r := H
  have A6 := Aside0.mk A60
  clear A60
  by_cases c7 : x4_1 ≤ t457
  rotate_left
  · rw [if_neg c7] at H
    have c7b0 : decide (x4_1 ≤ t457) = false := decide_eq_false c7
    clear c7
    obtain rfl := Option.some.inj H
    have hcz14_0 : wr.cell? ⟨gb455, 0, none⟩ = some (.slice A0_0 l0_0.length c0_0) := (blk_cell BK455.out 0).trans rfl
    have hcz14_1 : wr.cell? ⟨gb455, 1, none⟩ = some (.slice A0_1 l0_1.length c0_1) := (blk_cell BK455.out 1).trans rfl
    have hcz14_2 : wr.cell? ⟨gb455, 2, none⟩ = some (.slice A0_2 l0_2.length c0_2) := (blk_cell BK455.out 2).trans rfl
    have hfz14_0 := blk_frozen BK455.out 0
    have hfz14_1 := blk_frozen BK455.out 1
    have hfz14_2 := blk_frozen BK455.out 2
    go_wp2_with (((with_reducible refine gate_callee (f := 73) rfl ?_); refine goesL_ (some 10) rfl rfl Try.func73 (by kernel_rfl) rfl #[.agg #[.slice A0_0 l0_0.length c0_0, .slice A0_1 l0_1.length c0_1, .slice A0_2 l0_2.length c0_2]] rfl (by (try simp only [List.map_toArray, List.map_cons, List.map_nil]); rfl) ?_; (with_reducible refine (impl_Jobs_whole.calls k1 _ _ l0_0 _ _ l0_1 _ _ l0_2 t457 _ ?side1 ?side2 ?side3 ?side4 ?side5 ?side6 A6.out).mono ?_); (case side1 => exact (Kd.C_below HR0_0.out HB.out)); (case side2 => exact HC0_0.out); (case side3 => exact (Kd.C_below HR0_1.out HB.out)); (case side4 => exact HC0_1.out); (case side5 => exact (Kd.C_below HR0_2.out HB.out)); (case side6 => exact HC0_2.out); rintro e w15 ⟨rfl, hb⟩; refine ⟨_, rfl, ?_⟩; have n0_ := Aside0.mk (blk_below (g := gb455) (o := .cells #[.slice A0_0 l0_0.length c0_0, .slice A0_1 l0_1.length c0_1, .slice A0_2 l0_2.length c0_2] 33 (0, 0)) BK455.out hb); have n1_ := Aside0.mk (below_step HB.out hb); clear BK455; clear HB; have BK455 := n0_; have HB := n1_; clear n0_ n1_; (try clear hb); (try clear hb2); (try clear hk); (try clear hi)))
    go_ret
    exact ⟨by rfl, by exact HB.out⟩
  rw [if_pos c7] at H
  have c7b0 : decide (x4_1 ≤ t457) = true := decide_eq_true c7
  clear c7
  replace H := Option.bind_eq_some_iff.mp H
  obtain ⟨t458, A80, H⟩ := H
  replace H : (impl_Jobs_room.l0 k1 (mn x3_1 (wrap64 (x4_1 - t458))) (wrap64 (x4_1 + 1)) l0_0 l0_1 l0_2) = some r := H
  have A8 := Aside0.mk A80
  clear A80
  obtain ⟨ji9, hji9⟩ : ∃ j_ : Int, (mn x3_1 (wrap64 (x4_1 - t458))) = j_ := ⟨_, rfl⟩
  replace H : (impl_Jobs_room.l0 k1 ji9 (wrap64 (x4_1 + 1)) l0_0 l0_1 l0_2) = some r := by (rw [hji9] at H; exact H)
  (try rw [hji9] at A6)
  (try rw [hji9] at A8)
  have hji9_ : (if (wrap64 (x4_1 - t458)) < x3_1 then (wrap64 (x4_1 - t458)) else x3_1) = ji9 := hji9
  have H' := Aside0.mk H
  clear H
  have hcz10_0 : wr.cell? ⟨gb455, 0, none⟩ = some (.slice A0_0 l0_0.length c0_0) := (blk_cell BK455.out 0).trans rfl
  have hcz10_1 : wr.cell? ⟨gb455, 1, none⟩ = some (.slice A0_1 l0_1.length c0_1) := (blk_cell BK455.out 1).trans rfl
  have hcz10_2 : wr.cell? ⟨gb455, 2, none⟩ = some (.slice A0_2 l0_2.length c0_2) := (blk_cell BK455.out 2).trans rfl
  have hfz10_0 := blk_frozen BK455.out 0
  have hfz10_1 := blk_frozen BK455.out 1
  have hfz10_2 := blk_frozen BK455.out 2
  go_wp2_with (first | ((with_reducible refine gate_callee (f := 73) rfl ?_); refine goesL_ (some 10) rfl rfl Try.func73 (by kernel_rfl) rfl #[.agg #[.slice A0_0 l0_0.length c0_0, .slice A0_1 l0_1.length c0_1, .slice A0_2 l0_2.length c0_2]] rfl (by (try simp only [List.map_toArray, List.map_cons, List.map_nil]); rfl) ?_; (with_reducible refine (impl_Jobs_whole.calls k1 _ _ l0_0 _ _ l0_1 _ _ l0_2 t457 _ ?side1 ?side2 ?side3 ?side4 ?side5 ?side6 A6.out).mono ?_); (case side1 => exact (Kd.C_below HR0_0.out HB.out)); (case side2 => exact HC0_0.out); (case side3 => exact (Kd.C_below HR0_1.out HB.out)); (case side4 => exact HC0_1.out); (case side5 => exact (Kd.C_below HR0_2.out HB.out)); (case side6 => exact HC0_2.out); rintro e w11 ⟨rfl, hb⟩; refine ⟨_, rfl, ?_⟩; have n0_ := Aside0.mk (blk_below (g := gb455) (o := .cells #[.slice A0_0 l0_0.length c0_0, .slice A0_1 l0_1.length c0_1, .slice A0_2 l0_2.length c0_2] 33 (0, 0)) BK455.out hb); have n1_ := Aside0.mk (below_step HB.out hb); clear BK455; clear HB; have BK455 := n0_; have HB := n1_; clear n0_ n1_; (try clear hb); (try clear hb2); (try clear hk); (try clear hi); have hcz12_0 : w11.cell? ⟨gb455, 0, none⟩ = some (.slice A0_0 l0_0.length c0_0) := (blk_cell BK455.out 0).trans rfl; have hcz12_1 : w11.cell? ⟨gb455, 1, none⟩ = some (.slice A0_1 l0_1.length c0_1) := (blk_cell BK455.out 1).trans rfl; have hcz12_2 : w11.cell? ⟨gb455, 2, none⟩ = some (.slice A0_2 l0_2.length c0_2) := (blk_cell BK455.out 2).trans rfl; have hfz12_0 := blk_frozen BK455.out 0; have hfz12_1 := blk_frozen BK455.out 1; have hfz12_2 := blk_frozen BK455.out 2) | ((with_reducible refine gate_callee (f := 80) rfl ?_); refine goesL_ (some 18) rfl rfl Try.func80 (by kernel_rfl) rfl #[.agg #[.slice A0_0 l0_0.length c0_0, .slice A0_1 l0_1.length c0_1, .slice A0_2 l0_2.length c0_2], .int .i64 x4_1] rfl (by (try simp only [List.map_toArray, List.map_cons, List.map_nil]); rfl) ?_; (with_reducible refine (impl_Jobs_demand.calls k1 _ _ l0_0 _ _ l0_1 _ _ l0_2 x4_1 t458 _ ?side1 ?side2 ?side3 ?side4 ?side5 ?side6 A8.out).mono ?_); (case side1 => exact (Kd.C_below HR0_0.out HB.out)); (case side2 => exact HC0_0.out); (case side3 => exact (Kd.C_below HR0_1.out HB.out)); (case side4 => exact HC0_1.out); (case side5 => exact (Kd.C_below HR0_2.out HB.out)); (case side6 => exact HC0_2.out); rintro e w13 ⟨rfl, hb⟩; refine ⟨_, rfl, ?_⟩; have n0_ := Aside0.mk (blk_below (g := gb455) (o := .cells #[.slice A0_0 l0_0.length c0_0, .slice A0_1 l0_1.length c0_1, .slice A0_2 l0_2.length c0_2] 33 (0, 0)) BK455.out hb); have n1_ := Aside0.mk (below_step HB.out hb); clear BK455; clear HB; have BK455 := n0_; have HB := n1_; clear n0_ n1_; (try clear hb); (try clear hb2); (try clear hk); (try clear hi)))
  go_roundg k1
  case measure => have := HK1.out; omega
  case rel => exact ⟨(ji9), (wrap64 (x4_1 + 1)), (by rfl), (by rfl), H', ⟨by have := HK1.out; omega⟩, ⟨by exact BK455.out⟩, ⟨by exact HB.out⟩⟩
end Go.Proofs.Ytoakdilhljnjfaa.Q
namespace Go.Proofs.Ytoakdilhljnjfaa.Q
open Go.RowKit Go.Proofs.YtoakdilhljnjfaaW.PrintWords Go.Proofs.YtoakdilhljnjfaaW.PrintLast Go.Proofs.YtoakdilhljnjfaaW.PrintMore
attribute [local go_sem] max2_int min2_int max_two min_two max_three min_three max_four min_four   -- for this text's walks alone
set_option linter.unusedVariables false
set_option linter.unusedSimpArgs false
def impl_Jobs_load.l0 : Nat → Int → Int → List Int → Int → Int → List Int → List Int → List Int → Option (Int × Int)
 | 0, _, _, _, _, _, _, _, _ => none
 | k + 1, x4, x5, x12, x13, x14, x475000, x475001, x475002 => if x14 < x13 then (if 0 ≤ x14 then (if x14 < (x12.length : Int) then (if x14 < (x475000.length : Int) then (if (rd x12 x14) = 0 then (none) else (impl_Jobs_load.l0 k x4 (wrap64 (x5 + (wrap64 ((rd x475000 x14) * (wrap64 (Int.tdiv x4 (rd x12 x14))))))) x12 x13 (wrap64 (x14 + 1)) x475000 x475001 x475002)) else (none)) else (none)) else (none)) else ((impl_divisor.f k x5 x4).bind fun t478 => (if t478 = 0 then (none) else (some (wrap64 (Int.tdiv x5 t478), wrap64 (Int.tdiv x4 t478)))))
def impl_Jobs_load.f (k : Nat) (l0_0 : List Int) (l0_1 : List Int) (l0_2 : List Int) : Option (Int × Int) := (impl_Jobs_whole.f k l0_0 l0_1 l0_2).bind fun t475 => (impl_Jobs_load.l0 k t475 0 l0_1 (l0_1.length : Int) 0 l0_0 l0_1 l0_2)
set_option maxHeartbeats 8000000 in
set_option maxRecDepth 100000 in
theorem impl_Jobs_load.calls (k : Nat) (A0_0 : Option Addr) (c0_0 : Nat) (l0_0 : List Int) (A0_1 : Option Addr) (c0_1 : Nat) (l0_1 : List Int) (A0_2 : Option Addr) (c0_2 : Nat) (l0_2 : List Int) (r1 : Int) (r2 : Int) (w : World) (hr0_0 : Kd.C (Kd.int .i64) w A0_0 l0_0.length l0_0) (hc0_0 : l0_0.length ≤ c0_0) (hr0_1 : Kd.C (Kd.int .i64) w A0_1 l0_1.length l0_1) (hc0_1 : l0_1.length ≤ c0_1) (hr0_2 : Kd.C (Kd.int .i64) w A0_2 l0_2.length l0_2) (hc0_2 : l0_2.length ≤ c0_2) (h : impl_Jobs_load.f k l0_0 l0_1 l0_2 = some (r1, r2)) :
 Calls Try.prog 72 #[.agg #[.slice A0_0 l0_0.length c0_0, .slice A0_1 l0_1.length c0_1, .slice A0_2 l0_2.length c0_2]] w fun e w' => e = .returned (.tuple #[.int .i64 r1, .int .i64 r2]) ∧ Below w.heap.size w w' := by
 have hu33 := Try.underlying33
 have HR0_0 := Aside0.mk hr0_0
 have HC0_0 := Aside0.mk hc0_0
 clear hr0_0 hc0_0
 have HR0_1 := Aside0.mk hr0_1
 have HC0_1 := Aside0.mk hc0_1
 clear hr0_1 hc0_1
 have HR0_2 := Aside0.mk hr0_2
 have HC0_2 := Aside0.mk hc0_2
 clear hr0_2 hc0_2
 have HB := Aside0.mk (Below.refl w.heap.size w)
 have H : ((impl_Jobs_whole.f k l0_0 l0_1 l0_2).bind fun t475 => (impl_Jobs_load.l0 k t475 0 l0_1 (l0_1.length : Int) 0 l0_0 l0_1 l0_2)) = some (r1, r2) := h
 clear h
 replace H := Option.bind_eq_some_iff.mp H
 obtain ⟨t475, A20, H⟩ := H
 replace H : (impl_Jobs_load.l0 k t475 0 l0_1 (l0_1.length : Int) 0 l0_0 l0_1 l0_2) = some (r1, r2) := H
 have A2 := Aside0.mk A20
 clear A20
 have H' := Aside0.mk H
 clear H
 go_enter Try.func72, Try.ntmps72
 go_wp2_with (first | ((with_reducible refine gate_dst (N := 1) rfl ?_); refine box_event ?hg (N := 1) ?hd (cs := #[.slice A0_0 l0_0.length c0_0, .slice A0_1 l0_1.length c0_1, .slice A0_2 l0_2.length c0_2]) (t := 33) ?hr ?_; (case hd => rfl); (case hg => rfl); (case hr => (go_simp; done)); intro gb474 hg w3 hbox hb; have n0_ := Aside0.mk (below_step HB.out hb); have n1_ := Aside0.mk (hbox); have n2_ := Aside0.mk ((by rw [hg]; exact (below_size HB.out) : w.heap.size ≤ gb474)); have n3_ := Aside0.mk ((by rw [hg]; exact (below_size HB.out) : w.heap.size ≤ gb474)); clear HB; have HB := n0_; have BK474 := n1_; have GW474 := n2_; have GE474 := n3_; clear n0_ n1_ n2_ n3_; clear hb hbox hg; have hcz4_0 : w3.cell? ⟨gb474, 0, none⟩ = some (.slice A0_0 l0_0.length c0_0) := (blk_cell BK474.out 0).trans rfl; have hcz4_1 : w3.cell? ⟨gb474, 1, none⟩ = some (.slice A0_1 l0_1.length c0_1) := (blk_cell BK474.out 1).trans rfl; have hcz4_2 : w3.cell? ⟨gb474, 2, none⟩ = some (.slice A0_2 l0_2.length c0_2) := (blk_cell BK474.out 2).trans rfl; have hfz4_0 := blk_frozen BK474.out 0; have hfz4_1 := blk_frozen BK474.out 1; have hfz4_2 := blk_frozen BK474.out 2) | (go_at_call 73; (with_reducible refine (impl_Jobs_whole.calls k _ _ l0_0 _ _ l0_1 _ _ l0_2 t475 _ ?side1 ?side2 ?side3 ?side4 ?side5 ?side6 A2.out).mono ?_); (case side1 => exact (Kd.C_below HR0_0.out HB.out)); (case side2 => exact HC0_0.out); (case side3 => exact (Kd.C_below HR0_1.out HB.out)); (case side4 => exact HC0_1.out); (case side5 => exact (Kd.C_below HR0_2.out HB.out)); (case side6 => exact HC0_2.out); rintro e w5 ⟨rfl, hb⟩; have n0_ := Aside0.mk (blk_below (g := gb474) (o := .cells #[.slice A0_0 l0_0.length c0_0, .slice A0_1 l0_1.length c0_1, .slice A0_2 l0_2.length c0_2] 33 (0, 0)) BK474.out hb); have n1_ := Aside0.mk (below_step HB.out hb); clear BK474; clear HB; have BK474 := n0_; have HB := n1_; clear n0_ n1_; (try clear hb); (try clear hb2); (try clear hk); (try clear hi); have hcz6_0 : w5.cell? ⟨gb474, 0, none⟩ = some (.slice A0_0 l0_0.length c0_0) := (blk_cell BK474.out 0).trans rfl; have hcz6_1 : w5.cell? ⟨gb474, 1, none⟩ = some (.slice A0_1 l0_1.length c0_1) := (blk_cell BK474.out 1).trans rfl; have hcz6_2 : w5.cell? ⟨gb474, 2, none⟩ = some (.slice A0_2 l0_2.length c0_2) := (blk_cell BK474.out 2).trans rfl; have hfz6_0 := blk_frozen BK474.out 0; have hfz6_1 := blk_frozen BK474.out 1; have hfz6_2 := blk_frozen BK474.out 2))
 repeat (go_quiet (first | ((with_reducible refine gate_dst (N := 1) rfl ?_); refine box_event ?hg (N := 1) ?hd (cs := #[.slice A0_0 l0_0.length c0_0, .slice A0_1 l0_1.length c0_1, .slice A0_2 l0_2.length c0_2]) (t := 33) ?hr ?_; (case hd => rfl); (case hg => rfl); (case hr => first | (go_simp; done) | (go_simp; rfl)); intro gb474 hg w3 hbox hb; have n0_ := Aside0.mk (below_step (by skip) hb); have n1_ := Aside0.mk (hbox); have n2_ := Aside0.mk ((by rw [hg]; exact (below_size (by skip)) : w.heap.size ≤ gb474)); have n3_ := Aside0.mk ((by rw [hg]; exact (below_size (by skip)) : w.heap.size ≤ gb474)); clear HB; have HB := n0_; have BK474 := n1_; have GW474 := n2_; have GE474 := n3_; clear n0_ n1_ n2_ n3_; clear hb hbox hg; have hcz4_0 : w3.cell? ⟨gb474, 0, none⟩ = some (.slice A0_0 l0_0.length c0_0) := (blk_cell BK474.out 0).trans rfl; have hcz4_1 : w3.cell? ⟨gb474, 1, none⟩ = some (.slice A0_1 l0_1.length c0_1) := (blk_cell BK474.out 1).trans rfl; have hcz4_2 : w3.cell? ⟨gb474, 2, none⟩ = some (.slice A0_2 l0_2.length c0_2) := (blk_cell BK474.out 2).trans rfl; have hfz4_0 := blk_frozen BK474.out 0; have hfz4_1 := blk_frozen BK474.out 1; have hfz4_2 := blk_frozen BK474.out 2) | (go_at_call 73; (with_reducible refine (impl_Jobs_whole.calls k _ _ l0_0 _ _ l0_1 _ _ l0_2 t475 _ ?side1 ?side2 ?side3 ?side4 ?side5 ?side6 A2.out).mono ?_); (case side1 => skip); (case side2 => exact HC0_0.out); (case side3 => skip); (case side4 => exact HC0_1.out); (case side5 => skip); (case side6 => exact HC0_2.out); rintro e w5 ⟨rfl, hb⟩; have n0_ := Aside0.mk (blk_below (g := gb474) (o := .cells #[.slice A0_0 l0_0.length c0_0, .slice A0_1 l0_1.length c0_1, .slice A0_2 l0_2.length c0_2] 33 (0, 0)) BK474.out hb); have n1_ := Aside0.mk (below_step (by skip) hb); clear BK474; clear HB; have BK474 := n0_; have HB := n1_; clear n0_ n1_; (try clear hb); (try clear hb2); (try clear hk); (try clear hi); have hcz6_0 : w5.cell? ⟨gb474, 0, none⟩ = some (.slice A0_0 l0_0.length c0_0) := (blk_cell BK474.out 0).trans rfl; have hcz6_1 : w5.cell? ⟨gb474, 1, none⟩ = some (.slice A0_1 l0_1.length c0_1) := (blk_cell BK474.out 1).trans rfl; have hcz6_2 : w5.cell? ⟨gb474, 2, none⟩ = some (.slice A0_2 l0_2.length c0_2) := (blk_cell BK474.out 2).trans rfl; have hfz6_0 := blk_frozen BK474.out 0; have hfz6_1 := blk_frozen BK474.out 1; have hfz6_2 := blk_frozen BK474.out 2)); try go_wp2_with (first | ((with_reducible refine gate_dst (N := 1) rfl ?_); refine box_event ?hg (N := 1) ?hd (cs := #[.slice A0_0 l0_0.length c0_0, .slice A0_1 l0_1.length c0_1, .slice A0_2 l0_2.length c0_2]) (t := 33) ?hr ?_; (case hd => rfl); (case hg => rfl); (case hr => first | (go_simp; done) | (go_simp; rfl)); intro gb474 hg w3 hbox hb; have n0_ := Aside0.mk (below_step (by skip) hb); have n1_ := Aside0.mk (hbox); have n2_ := Aside0.mk ((by rw [hg]; exact (below_size (by skip)) : w.heap.size ≤ gb474)); have n3_ := Aside0.mk ((by rw [hg]; exact (below_size (by skip)) : w.heap.size ≤ gb474)); clear HB; have HB := n0_; have BK474 := n1_; have GW474 := n2_; have GE474 := n3_; clear n0_ n1_ n2_ n3_; clear hb hbox hg; have hcz4_0 : w3.cell? ⟨gb474, 0, none⟩ = some (.slice A0_0 l0_0.length c0_0) := (blk_cell BK474.out 0).trans rfl; have hcz4_1 : w3.cell? ⟨gb474, 1, none⟩ = some (.slice A0_1 l0_1.length c0_1) := (blk_cell BK474.out 1).trans rfl; have hcz4_2 : w3.cell? ⟨gb474, 2, none⟩ = some (.slice A0_2 l0_2.length c0_2) := (blk_cell BK474.out 2).trans rfl; have hfz4_0 := blk_frozen BK474.out 0; have hfz4_1 := blk_frozen BK474.out 1; have hfz4_2 := blk_frozen BK474.out 2) | (go_at_call 73; (with_reducible refine (impl_Jobs_whole.calls k _ _ l0_0 _ _ l0_1 _ _ l0_2 t475 _ ?side1 ?side2 ?side3 ?side4 ?side5 ?side6 A2.out).mono ?_); (case side1 => skip); (case side2 => exact HC0_0.out); (case side3 => skip); (case side4 => exact HC0_1.out); (case side5 => skip); (case side6 => exact HC0_2.out); rintro e w5 ⟨rfl, hb⟩; have n0_ := Aside0.mk (blk_below (g := gb474) (o := .cells #[.slice A0_0 l0_0.length c0_0, .slice A0_1 l0_1.length c0_1, .slice A0_2 l0_2.length c0_2] 33 (0, 0)) BK474.out hb); have n1_ := Aside0.mk (below_step (by skip) hb); clear BK474; clear HB; have BK474 := n0_; have HB := n1_; clear n0_ n1_; (try clear hb); (try clear hb2); (try clear hk); (try clear hi); have hcz6_0 : w5.cell? ⟨gb474, 0, none⟩ = some (.slice A0_0 l0_0.length c0_0) := (blk_cell BK474.out 0).trans rfl; have hcz6_1 : w5.cell? ⟨gb474, 1, none⟩ = some (.slice A0_1 l0_1.length c0_1) := (blk_cell BK474.out 1).trans rfl; have hcz6_2 : w5.cell? ⟨gb474, 2, none⟩ = some (.slice A0_2 l0_2.length c0_2) := (blk_cell BK474.out 2).trans rfl; have hfz6_0 := blk_frozen BK474.out 0; have hfz6_1 := blk_frozen BK474.out 1; have hfz6_2 := blk_frozen BK474.out 2)))
 go_loopg [5, 14] k (fun kq v5 v14 w' => ∃ (x5_1 : Int) (x14_1 : Int), v5 = .int .i64 x5_1 ∧ v14 = .int .i64 x14_1 ∧ Aside0 (impl_Jobs_load.l0 kq t475 x5_1 l0_1 (l0_1.length : Int) x14_1 l0_0 l0_1 l0_2 = some (r1, r2)) ∧ Aside0 (kq ≤ k) ∧ Aside0 (w'.heap[gb474]? = some (.cells #[(.slice A0_0 l0_0.length c0_0), (.slice A0_1 l0_1.length c0_1), (.slice A0_2 l0_2.length c0_2)] 33 (0, 0))) ∧ Aside0 (Below w.heap.size w w'))
 case atStart => exact ⟨(0), (0), (by rfl), (by rfl), H', ⟨Nat.le_refl _⟩, ⟨by exact BK474.out⟩, ⟨by exact HB.out⟩⟩
 clear H'
 clear hcz4_0 hcz4_1 hcz4_2 hcz6_0 hcz6_1 hcz6_2 hfz4_0 hfz4_1 hfz4_2 hfz6_0 hfz6_1 hfz6_2
 obtain ⟨x5_1, x14_1, rfl, rfl, HA, HK1, BK474, HB⟩ := hrel
 cases gk with
 | zero => exact absurd HA.out (by simp [impl_Jobs_load.l0])
 | succ k1 =>
  have H := HA.out
  clear HA
  simp only [impl_Jobs_load.l0] at H
  by_cases c7 : x14_1 < (l0_1.length : Int)
  rotate_left
  · rw [if_neg c7] at H
    have c7b0 : decide (x14_1 < (l0_1.length : Int)) = false := decide_eq_false c7
    clear c7
    replace H := Option.bind_eq_some_iff.mp H
    obtain ⟨t478, A130, H⟩ := H
    replace H : (if t478 = 0 then (none) else (some (wrap64 (Int.tdiv x5_1 t478), wrap64 (Int.tdiv t475 t478)))) = some (r1, r2) := H
    have A13 := Aside0.mk A130
    clear A130
    by_cases c14 : t478 = 0
    · rw [if_pos c14] at H
      exact absurd H (by simp)
    rw [if_neg c14] at H
    have c14b0 : (t478 == 0) = false := beq_eq_false_iff_ne.mpr c14
    have c14b1 : (t478 != 0) = true := bne_iff_ne.mpr c14
    simp only [Option.some.injEq, Prod.mk.injEq] at H
    obtain ⟨rfl, rfl⟩ := H
    go_wp2_with ((go_at_call 106; (with_reducible refine (impl_divisor.calls k1 x5_1 t475 t478 _ A13.out).mono ?_); rintro e w' ⟨rfl, ⟨nd, rfl⟩⟩; (try first | exact ⟨rfl, _, World.drewN_drewN _ _ _⟩ | exact ⟨rfl, _, Eq.trans (World.drewN_drewN _ _ _) (congrArg (World.drewN _) (Nat.add_assoc _ _ _))⟩)))
    repeat (go_quiet (first | (go_at_call 106; (with_reducible refine (impl_divisor.calls k1 x5_1 t475 t478 _ A13.out).mono ?_); rintro e w' ⟨rfl, ⟨nd, rfl⟩⟩; (try first | exact ⟨rfl, _, World.drewN_drewN _ _ _⟩ | exact ⟨rfl, _, Eq.trans (World.drewN_drewN _ _ _) (congrArg (World.drewN _) (Nat.add_assoc _ _ _))⟩))); try go_wp2_with (first | (go_at_call 106; (with_reducible refine (impl_divisor.calls k1 x5_1 t475 t478 _ A13.out).mono ?_); rintro e w' ⟨rfl, ⟨nd, rfl⟩⟩; (try first | exact ⟨rfl, _, World.drewN_drewN _ _ _⟩ | exact ⟨rfl, _, Eq.trans (World.drewN_drewN _ _ _) (congrArg (World.drewN _) (Nat.add_assoc _ _ _))⟩))))
    go_ret2
    exact ⟨by rfl, by repeat (with_reducible first | exact HB.out | apply pw_below_drewN)⟩
  rw [if_pos c7] at H
  have c7b0 : decide (x14_1 < (l0_1.length : Int)) = true := decide_eq_true c7
  clear c7
  by_cases c8 : 0 ≤ x14_1
  rotate_left
  · rw [if_neg c8] at H
    exact absurd H (by simp)
  rw [if_pos c8] at H
  have c8b0 : decide (0 ≤ x14_1) = true := decide_eq_true c8
  clear c8
  by_cases c9 : x14_1 < (l0_1.length : Int)
  rotate_left
  · rw [if_neg c9] at H
    exact absurd H (by simp)
  rw [if_pos c9] at H
  have c9b0 : decide (x14_1 < (l0_1.length : Int)) = true := decide_eq_true c9
  clear c9
  by_cases c10 : x14_1 < (l0_0.length : Int)
  rotate_left
  · rw [if_neg c10] at H
    exact absurd H (by simp)
  rw [if_pos c10] at H
  have c10b0 : decide (x14_1 < (l0_0.length : Int)) = true := decide_eq_true c10
  clear c10
  by_cases c11 : (rd l0_1 x14_1) = 0
  · rw [if_pos c11] at H
    exact absurd H (by simp)
  rw [if_neg c11] at H
  have c11b0 : ((rd l0_1 x14_1) == 0) = false := beq_eq_false_iff_ne.mpr c11
  have c11b1 : ((rd l0_1 x14_1) != 0) = true := bne_iff_ne.mpr c11
  have H' := Aside0.mk H
  clear H
  have p476 : 0 ≤ (x14_1 : Int) := of_decide_eq_true (by (with_reducible assumption))
  have q476 : x14_1 < (l0_1.length : Int) := of_decide_eq_true (by (with_reducible assumption))
  obtain ⟨ad476, e476, hx476_0⟩ := Kd.at_int HR0_1.out x14_1 p476 q476
  cases e476
  replace hx476_0 := (HB.out.cell (World.block_lt_of_cell? w _ hx476_0)).trans hx476_0
  replace p476 := eq_true p476
  replace q476 := eq_true q476
  have hcz12_0 : wr.cell? ⟨gb474, 0, none⟩ = some (.slice A0_0 l0_0.length c0_0) := (blk_cell BK474.out 0).trans rfl
  have hcz12_1 : wr.cell? ⟨gb474, 1, none⟩ = some (.slice (some ad476) l0_1.length c0_1) := (blk_cell BK474.out 1).trans rfl
  have hcz12_2 : wr.cell? ⟨gb474, 2, none⟩ = some (.slice A0_2 l0_2.length c0_2) := (blk_cell BK474.out 2).trans rfl
  have hfz12_0 := blk_frozen BK474.out 0
  have hfz12_1 := blk_frozen BK474.out 1
  have hfz12_2 := blk_frozen BK474.out 2
  have p477 : 0 ≤ (x14_1 : Int) := of_decide_eq_true (by (with_reducible assumption))
  have q477 : x14_1 < (l0_0.length : Int) := of_decide_eq_true (by (with_reducible assumption))
  obtain ⟨ad477, e477, hx477_0⟩ := Kd.at_int HR0_0.out x14_1 p477 q477
  cases e477
  replace hx477_0 := (HB.out.cell (World.block_lt_of_cell? w _ hx477_0)).trans hx477_0
  replace p477 := eq_true p477
  replace q477 := eq_true q477
  go_wp2
  repeat (go_quiet (fail); try go_wp2)
  go_roundg k1
  case measure => have := HK1.out; omega
  case rel => exact ⟨(wrap64 (x5_1 + (wrap64 ((rd l0_0 x14_1) * (wrap64 (Int.tdiv t475 (rd l0_1 x14_1))))))), (wrap64 (x14_1 + 1)), (by rfl), (by rfl), H', ⟨by have := HK1.out; omega⟩, ⟨by (with_reducible repeat (refine blk_drewN ?_ _)); exact BK474.out⟩, ⟨by repeat (with_reducible first | exact HB.out | apply pw_below_drewN)⟩⟩
end Go.Proofs.Ytoakdilhljnjfaa.Q
namespace Go.Proofs.Ytoakdilhljnjfaa.Q
open Go.RowKit Go.Proofs.YtoakdilhljnjfaaW.PrintWords Go.Proofs.YtoakdilhljnjfaaW.PrintLast Go.Proofs.YtoakdilhljnjfaaW.PrintMore
attribute [local go_sem] max2_int min2_int max_two min_two max_three min_three max_four min_four   -- for this text's walks alone
set_option linter.unusedVariables false
set_option linter.unusedSimpArgs false
def impl_CanMeet.f (k : Nat) (l0_0 : List Int) (l0_1 : List Int) (l0_2 : List Int) : Option (Bool × Int) := (impl_jobsCode.f k l0_0 l0_1 l0_2 true true).bind fun t480 => (if t480 = 0 then ((impl_Jobs_load.f k l0_0 l0_1 l0_2).bind fun bt481 => ((impl_Jobs_room.f k l0_0 l0_1 l0_2).bind fun t483 => (if t483 ≥ 0 then (some (decide (bt481.1 ≤ bt481.2), 0)) else (some (false, 0))))) else (some (false, t480)))
set_option maxHeartbeats 8000000 in
set_option maxRecDepth 100000 in
theorem impl_CanMeet.calls (k : Nat) (A0_0 : Option Addr) (c0_0 : Nat) (l0_0 : List Int) (A0_1 : Option Addr) (c0_1 : Nat) (l0_1 : List Int) (A0_2 : Option Addr) (c0_2 : Nat) (l0_2 : List Int) (r1 : Bool) (r2 : Int) (w : World) (hr0_0 : Kd.C (Kd.int .i64) w A0_0 l0_0.length l0_0) (hc0_0 : l0_0.length ≤ c0_0) (hr0_1 : Kd.C (Kd.int .i64) w A0_1 l0_1.length l0_1) (hc0_1 : l0_1.length ≤ c0_1) (hr0_2 : Kd.C (Kd.int .i64) w A0_2 l0_2.length l0_2) (hc0_2 : l0_2.length ≤ c0_2) (h : impl_CanMeet.f k l0_0 l0_1 l0_2 = some (r1, r2)) :
 Calls Try.prog 31 #[.agg #[.slice A0_0 l0_0.length c0_0, .slice A0_1 l0_1.length c0_1, .slice A0_2 l0_2.length c0_2]] w fun e w' => e = .returned (.tuple #[.bool r1, .int .i64 r2]) ∧ Below w.heap.size w w' := by
 have hu33 := Try.underlying33
 have HR0_0 := Aside0.mk hr0_0
 have HC0_0 := Aside0.mk hc0_0
 clear hr0_0 hc0_0
 have HR0_1 := Aside0.mk hr0_1
 have HC0_1 := Aside0.mk hc0_1
 clear hr0_1 hc0_1
 have HR0_2 := Aside0.mk hr0_2
 have HC0_2 := Aside0.mk hc0_2
 clear hr0_2 hc0_2
 have HB := Aside0.mk (Below.refl w.heap.size w)
 have H : ((impl_jobsCode.f k l0_0 l0_1 l0_2 true true).bind fun t480 => (if t480 = 0 then ((impl_Jobs_load.f k l0_0 l0_1 l0_2).bind fun bt481 => ((impl_Jobs_room.f k l0_0 l0_1 l0_2).bind fun t483 => (if t483 ≥ 0 then (some (decide (bt481.1 ≤ bt481.2), 0)) else (some (false, 0))))) else (some (false, t480)))) = some (r1, r2) := h
 clear h
 replace H := Option.bind_eq_some_iff.mp H
 obtain ⟨t480, A20, H⟩ := H
 replace H : (if t480 = 0 then ((impl_Jobs_load.f k l0_0 l0_1 l0_2).bind fun bt481 => ((impl_Jobs_room.f k l0_0 l0_1 l0_2).bind fun t483 => (if t483 ≥ 0 then (some (decide (bt481.1 ≤ bt481.2), 0)) else (some (false, 0))))) else (some (false, t480))) = some (r1, r2) := H
 have A2 := Aside0.mk A20
 clear A20
 by_cases c3 : t480 = 0
 rotate_left
 · rw [if_neg c3] at H
   have c3b0 : (t480 == 0) = false := beq_eq_false_iff_ne.mpr c3
   have c3b1 : (t480 != 0) = true := bne_iff_ne.mpr c3
   simp only [Option.some.injEq, Prod.mk.injEq] at H
   obtain ⟨rfl, rfl⟩ := H
   go_enter Try.func31, Try.ntmps31
   go_wp2_with (first | ((with_reducible refine gate_dst (N := 1) rfl ?_); refine box_event ?hg (N := 1) ?hd (cs := #[.slice A0_0 l0_0.length c0_0, .slice A0_1 l0_1.length c0_1, .slice A0_2 l0_2.length c0_2]) (t := 33) ?hr ?_; (case hd => rfl); (case hg => rfl); (case hr => (go_simp; done)); intro gb479 hg w21 hbox hb; have n0_ := Aside0.mk (below_step HB.out hb); have n1_ := Aside0.mk (hbox); have n2_ := Aside0.mk ((by rw [hg]; exact (below_size HB.out) : w.heap.size ≤ gb479)); have n3_ := Aside0.mk ((by rw [hg]; exact (below_size HB.out) : w.heap.size ≤ gb479)); clear HB; have HB := n0_; have BK479 := n1_; have GW479 := n2_; have GE479 := n3_; clear n0_ n1_ n2_ n3_; clear hb hbox hg; have hcz22_0 : w21.cell? ⟨gb479, 0, none⟩ = some (.slice A0_0 l0_0.length c0_0) := (blk_cell BK479.out 0).trans rfl; have hcz22_1 : w21.cell? ⟨gb479, 1, none⟩ = some (.slice A0_1 l0_1.length c0_1) := (blk_cell BK479.out 1).trans rfl; have hcz22_2 : w21.cell? ⟨gb479, 2, none⟩ = some (.slice A0_2 l0_2.length c0_2) := (blk_cell BK479.out 2).trans rfl; have hfz22_0 := blk_frozen BK479.out 0; have hfz22_1 := blk_frozen BK479.out 1; have hfz22_2 := blk_frozen BK479.out 2) | ((with_reducible refine gate_callee (f := 56) rfl ?_); refine goesL_ (some 8) rfl rfl Try.func56 (by kernel_rfl) rfl #[.agg #[.slice A0_0 l0_0.length c0_0, .slice A0_1 l0_1.length c0_1, .slice A0_2 l0_2.length c0_2], .bool true, .bool true] rfl (by (try simp only [List.map_toArray, List.map_cons, List.map_nil]); rfl) ?_; (with_reducible refine (impl_jobsCode.calls k _ _ l0_0 _ _ l0_1 _ _ l0_2 true true t480 _ ?side1 ?side2 ?side3 ?side4 ?side5 ?side6 A2.out).mono ?_); (case side1 => exact (Kd.C_below HR0_0.out HB.out)); (case side2 => exact HC0_0.out); (case side3 => exact (Kd.C_below HR0_1.out HB.out)); (case side4 => exact HC0_1.out); (case side5 => exact (Kd.C_below HR0_2.out HB.out)); (case side6 => exact HC0_2.out); rintro e w23 ⟨rfl, hb⟩; refine ⟨_, rfl, ?_⟩; have n0_ := Aside0.mk (blk_below (g := gb479) (o := .cells #[.slice A0_0 l0_0.length c0_0, .slice A0_1 l0_1.length c0_1, .slice A0_2 l0_2.length c0_2] 33 (0, 0)) BK479.out hb); have n1_ := Aside0.mk (below_step HB.out hb); clear BK479; clear HB; have BK479 := n0_; have HB := n1_; clear n0_ n1_; (try clear hb); (try clear hb2); (try clear hk); (try clear hi)))
   go_ret2
   exact ⟨by rfl, by exact HB.out⟩
 rw [if_pos c3] at H
 have c3b0 : (t480 == 0) = true := beq_iff_eq.mpr c3
 have c3b1 : (t480 != 0) = false := bne_eq_false_iff_eq.mpr c3
 clear c3
 replace H := Option.bind_eq_some_iff.mp H
 obtain ⟨⟨t481, t482⟩, A40, H⟩ := H
 replace H : ((impl_Jobs_room.f k l0_0 l0_1 l0_2).bind fun t483 => (if t483 ≥ 0 then (some (decide (t481 ≤ t482), 0)) else (some (false, 0)))) = some (r1, r2) := H
 have A4 := Aside0.mk A40
 clear A40
 replace H := Option.bind_eq_some_iff.mp H
 obtain ⟨t483, A50, H⟩ := H
 replace H : (if t483 ≥ 0 then (some (decide (t481 ≤ t482), 0)) else (some (false, 0))) = some (r1, r2) := H
 have A5 := Aside0.mk A50
 clear A50
 by_cases c6 : t483 ≥ 0
 · rw [if_pos c6] at H
   have c6b0 : decide (0 ≤ t483) = true := decide_eq_true c6
   clear c6
   simp only [Option.some.injEq, Prod.mk.injEq] at H
   obtain ⟨rfl, rfl⟩ := H
   go_enter Try.func31, Try.ntmps31
   go_wp2_with (first | ((with_reducible refine gate_dst (N := 1) rfl ?_); refine box_event ?hg (N := 1) ?hd (cs := #[.slice A0_0 l0_0.length c0_0, .slice A0_1 l0_1.length c0_1, .slice A0_2 l0_2.length c0_2]) (t := 33) ?hr ?_; (case hd => rfl); (case hg => rfl); (case hr => (go_simp; done)); intro gb479 hg w7 hbox hb; have n0_ := Aside0.mk (below_step HB.out hb); have n1_ := Aside0.mk (hbox); have n2_ := Aside0.mk ((by rw [hg]; exact (below_size HB.out) : w.heap.size ≤ gb479)); have n3_ := Aside0.mk ((by rw [hg]; exact (below_size HB.out) : w.heap.size ≤ gb479)); clear HB; have HB := n0_; have BK479 := n1_; have GW479 := n2_; have GE479 := n3_; clear n0_ n1_ n2_ n3_; clear hb hbox hg; have hcz8_0 : w7.cell? ⟨gb479, 0, none⟩ = some (.slice A0_0 l0_0.length c0_0) := (blk_cell BK479.out 0).trans rfl; have hcz8_1 : w7.cell? ⟨gb479, 1, none⟩ = some (.slice A0_1 l0_1.length c0_1) := (blk_cell BK479.out 1).trans rfl; have hcz8_2 : w7.cell? ⟨gb479, 2, none⟩ = some (.slice A0_2 l0_2.length c0_2) := (blk_cell BK479.out 2).trans rfl; have hfz8_0 := blk_frozen BK479.out 0; have hfz8_1 := blk_frozen BK479.out 1; have hfz8_2 := blk_frozen BK479.out 2) | ((with_reducible refine gate_callee (f := 56) rfl ?_); refine goesL_ (some 8) rfl rfl Try.func56 (by kernel_rfl) rfl #[.agg #[.slice A0_0 l0_0.length c0_0, .slice A0_1 l0_1.length c0_1, .slice A0_2 l0_2.length c0_2], .bool true, .bool true] rfl (by (try simp only [List.map_toArray, List.map_cons, List.map_nil]); rfl) ?_; (with_reducible refine (impl_jobsCode.calls k _ _ l0_0 _ _ l0_1 _ _ l0_2 true true t480 _ ?side1 ?side2 ?side3 ?side4 ?side5 ?side6 A2.out).mono ?_); (case side1 => exact (Kd.C_below HR0_0.out HB.out)); (case side2 => exact HC0_0.out); (case side3 => exact (Kd.C_below HR0_1.out HB.out)); (case side4 => exact HC0_1.out); (case side5 => exact (Kd.C_below HR0_2.out HB.out)); (case side6 => exact HC0_2.out); rintro e w9 ⟨rfl, hb⟩; refine ⟨_, rfl, ?_⟩; have n0_ := Aside0.mk (blk_below (g := gb479) (o := .cells #[.slice A0_0 l0_0.length c0_0, .slice A0_1 l0_1.length c0_1, .slice A0_2 l0_2.length c0_2] 33 (0, 0)) BK479.out hb); have n1_ := Aside0.mk (below_step HB.out hb); clear BK479; clear HB; have BK479 := n0_; have HB := n1_; clear n0_ n1_; (try clear hb); (try clear hb2); (try clear hk); (try clear hi); have hcz10_0 : w9.cell? ⟨gb479, 0, none⟩ = some (.slice A0_0 l0_0.length c0_0) := (blk_cell BK479.out 0).trans rfl; have hcz10_1 : w9.cell? ⟨gb479, 1, none⟩ = some (.slice A0_1 l0_1.length c0_1) := (blk_cell BK479.out 1).trans rfl; have hcz10_2 : w9.cell? ⟨gb479, 2, none⟩ = some (.slice A0_2 l0_2.length c0_2) := (blk_cell BK479.out 2).trans rfl; have hfz10_0 := blk_frozen BK479.out 0; have hfz10_1 := blk_frozen BK479.out 1; have hfz10_2 := blk_frozen BK479.out 2) | ((with_reducible refine gate_callee (f := 72) rfl ?_); refine goesL_ (some 14) rfl rfl Try.func72 (by kernel_rfl) rfl #[.agg #[.slice A0_0 l0_0.length c0_0, .slice A0_1 l0_1.length c0_1, .slice A0_2 l0_2.length c0_2]] rfl (by (try simp only [List.map_toArray, List.map_cons, List.map_nil]); rfl) ?_; (with_reducible refine (impl_Jobs_load.calls k _ _ l0_0 _ _ l0_1 _ _ l0_2 t481 t482 _ ?side1 ?side2 ?side3 ?side4 ?side5 ?side6 A4.out).mono ?_); (case side1 => exact (Kd.C_below HR0_0.out HB.out)); (case side2 => exact HC0_0.out); (case side3 => exact (Kd.C_below HR0_1.out HB.out)); (case side4 => exact HC0_1.out); (case side5 => exact (Kd.C_below HR0_2.out HB.out)); (case side6 => exact HC0_2.out); rintro e w11 ⟨rfl, hb⟩; refine ⟨_, rfl, ?_⟩; have n0_ := Aside0.mk (blk_below (g := gb479) (o := .cells #[.slice A0_0 l0_0.length c0_0, .slice A0_1 l0_1.length c0_1, .slice A0_2 l0_2.length c0_2] 33 (0, 0)) BK479.out hb); have n1_ := Aside0.mk (below_step HB.out hb); clear BK479; clear HB; have BK479 := n0_; have HB := n1_; clear n0_ n1_; (try clear hb); (try clear hb2); (try clear hk); (try clear hi); have hcz12_0 : w11.cell? ⟨gb479, 0, none⟩ = some (.slice A0_0 l0_0.length c0_0) := (blk_cell BK479.out 0).trans rfl; have hcz12_1 : w11.cell? ⟨gb479, 1, none⟩ = some (.slice A0_1 l0_1.length c0_1) := (blk_cell BK479.out 1).trans rfl; have hcz12_2 : w11.cell? ⟨gb479, 2, none⟩ = some (.slice A0_2 l0_2.length c0_2) := (blk_cell BK479.out 2).trans rfl; have hfz12_0 := blk_frozen BK479.out 0; have hfz12_1 := blk_frozen BK479.out 1; have hfz12_2 := blk_frozen BK479.out 2) | ((with_reducible refine gate_callee (f := 70) rfl ?_); refine goesL_ (some 18) rfl rfl Try.func70 (by kernel_rfl) rfl #[.agg #[.slice A0_0 l0_0.length c0_0, .slice A0_1 l0_1.length c0_1, .slice A0_2 l0_2.length c0_2]] rfl (by (try simp only [List.map_toArray, List.map_cons, List.map_nil]); rfl) ?_; (with_reducible refine (impl_Jobs_room.calls k _ _ l0_0 _ _ l0_1 _ _ l0_2 t483 _ ?side1 ?side2 ?side3 ?side4 ?side5 ?side6 A5.out).mono ?_); (case side1 => exact (Kd.C_below HR0_0.out HB.out)); (case side2 => exact HC0_0.out); (case side3 => exact (Kd.C_below HR0_1.out HB.out)); (case side4 => exact HC0_1.out); (case side5 => exact (Kd.C_below HR0_2.out HB.out)); (case side6 => exact HC0_2.out); rintro e w13 ⟨rfl, hb⟩; refine ⟨_, rfl, ?_⟩; have n0_ := Aside0.mk (blk_below (g := gb479) (o := .cells #[.slice A0_0 l0_0.length c0_0, .slice A0_1 l0_1.length c0_1, .slice A0_2 l0_2.length c0_2] 33 (0, 0)) BK479.out hb); have n1_ := Aside0.mk (below_step HB.out hb); clear BK479; clear HB; have BK479 := n0_; have HB := n1_; clear n0_ n1_; (try clear hb); (try clear hb2); (try clear hk); (try clear hi)))
   go_ret2
   exact ⟨by rfl, by exact HB.out⟩
 rw [if_neg c6] at H
 have c6b0 : decide (0 ≤ t483) = false := decide_eq_false c6
 clear c6
 simp only [Option.some.injEq, Prod.mk.injEq] at H
 obtain ⟨rfl, rfl⟩ := H
 go_enter Try.func31, Try.ntmps31
 go_wp2_with (first | ((with_reducible refine gate_dst (N := 1) rfl ?_); refine box_event ?hg (N := 1) ?hd (cs := #[.slice A0_0 l0_0.length c0_0, .slice A0_1 l0_1.length c0_1, .slice A0_2 l0_2.length c0_2]) (t := 33) ?hr ?_; (case hd => rfl); (case hg => rfl); (case hr => (go_simp; done)); intro gb479 hg w14 hbox hb; have n0_ := Aside0.mk (below_step HB.out hb); have n1_ := Aside0.mk (hbox); have n2_ := Aside0.mk ((by rw [hg]; exact (below_size HB.out) : w.heap.size ≤ gb479)); have n3_ := Aside0.mk ((by rw [hg]; exact (below_size HB.out) : w.heap.size ≤ gb479)); clear HB; have HB := n0_; have BK479 := n1_; have GW479 := n2_; have GE479 := n3_; clear n0_ n1_ n2_ n3_; clear hb hbox hg; have hcz15_0 : w14.cell? ⟨gb479, 0, none⟩ = some (.slice A0_0 l0_0.length c0_0) := (blk_cell BK479.out 0).trans rfl; have hcz15_1 : w14.cell? ⟨gb479, 1, none⟩ = some (.slice A0_1 l0_1.length c0_1) := (blk_cell BK479.out 1).trans rfl; have hcz15_2 : w14.cell? ⟨gb479, 2, none⟩ = some (.slice A0_2 l0_2.length c0_2) := (blk_cell BK479.out 2).trans rfl; have hfz15_0 := blk_frozen BK479.out 0; have hfz15_1 := blk_frozen BK479.out 1; have hfz15_2 := blk_frozen BK479.out 2) | ((with_reducible refine gate_callee (f := 56) rfl ?_); refine goesL_ (some 8) rfl rfl Try.func56 (by kernel_rfl) rfl #[.agg #[.slice A0_0 l0_0.length c0_0, .slice A0_1 l0_1.length c0_1, .slice A0_2 l0_2.length c0_2], .bool true, .bool true] rfl (by (try simp only [List.map_toArray, List.map_cons, List.map_nil]); rfl) ?_; (with_reducible refine (impl_jobsCode.calls k _ _ l0_0 _ _ l0_1 _ _ l0_2 true true t480 _ ?side1 ?side2 ?side3 ?side4 ?side5 ?side6 A2.out).mono ?_); (case side1 => exact (Kd.C_below HR0_0.out HB.out)); (case side2 => exact HC0_0.out); (case side3 => exact (Kd.C_below HR0_1.out HB.out)); (case side4 => exact HC0_1.out); (case side5 => exact (Kd.C_below HR0_2.out HB.out)); (case side6 => exact HC0_2.out); rintro e w16 ⟨rfl, hb⟩; refine ⟨_, rfl, ?_⟩; have n0_ := Aside0.mk (blk_below (g := gb479) (o := .cells #[.slice A0_0 l0_0.length c0_0, .slice A0_1 l0_1.length c0_1, .slice A0_2 l0_2.length c0_2] 33 (0, 0)) BK479.out hb); have n1_ := Aside0.mk (below_step HB.out hb); clear BK479; clear HB; have BK479 := n0_; have HB := n1_; clear n0_ n1_; (try clear hb); (try clear hb2); (try clear hk); (try clear hi); have hcz17_0 : w16.cell? ⟨gb479, 0, none⟩ = some (.slice A0_0 l0_0.length c0_0) := (blk_cell BK479.out 0).trans rfl; have hcz17_1 : w16.cell? ⟨gb479, 1, none⟩ = some (.slice A0_1 l0_1.length c0_1) := (blk_cell BK479.out 1).trans rfl; have hcz17_2 : w16.cell? ⟨gb479, 2, none⟩ = some (.slice A0_2 l0_2.length c0_2) := (blk_cell BK479.out 2).trans rfl; have hfz17_0 := blk_frozen BK479.out 0; have hfz17_1 := blk_frozen BK479.out 1; have hfz17_2 := blk_frozen BK479.out 2) | ((with_reducible refine gate_callee (f := 72) rfl ?_); refine goesL_ (some 14) rfl rfl Try.func72 (by kernel_rfl) rfl #[.agg #[.slice A0_0 l0_0.length c0_0, .slice A0_1 l0_1.length c0_1, .slice A0_2 l0_2.length c0_2]] rfl (by (try simp only [List.map_toArray, List.map_cons, List.map_nil]); rfl) ?_; (with_reducible refine (impl_Jobs_load.calls k _ _ l0_0 _ _ l0_1 _ _ l0_2 t481 t482 _ ?side1 ?side2 ?side3 ?side4 ?side5 ?side6 A4.out).mono ?_); (case side1 => exact (Kd.C_below HR0_0.out HB.out)); (case side2 => exact HC0_0.out); (case side3 => exact (Kd.C_below HR0_1.out HB.out)); (case side4 => exact HC0_1.out); (case side5 => exact (Kd.C_below HR0_2.out HB.out)); (case side6 => exact HC0_2.out); rintro e w18 ⟨rfl, hb⟩; refine ⟨_, rfl, ?_⟩; have n0_ := Aside0.mk (blk_below (g := gb479) (o := .cells #[.slice A0_0 l0_0.length c0_0, .slice A0_1 l0_1.length c0_1, .slice A0_2 l0_2.length c0_2] 33 (0, 0)) BK479.out hb); have n1_ := Aside0.mk (below_step HB.out hb); clear BK479; clear HB; have BK479 := n0_; have HB := n1_; clear n0_ n1_; (try clear hb); (try clear hb2); (try clear hk); (try clear hi); have hcz19_0 : w18.cell? ⟨gb479, 0, none⟩ = some (.slice A0_0 l0_0.length c0_0) := (blk_cell BK479.out 0).trans rfl; have hcz19_1 : w18.cell? ⟨gb479, 1, none⟩ = some (.slice A0_1 l0_1.length c0_1) := (blk_cell BK479.out 1).trans rfl; have hcz19_2 : w18.cell? ⟨gb479, 2, none⟩ = some (.slice A0_2 l0_2.length c0_2) := (blk_cell BK479.out 2).trans rfl; have hfz19_0 := blk_frozen BK479.out 0; have hfz19_1 := blk_frozen BK479.out 1; have hfz19_2 := blk_frozen BK479.out 2) | ((with_reducible refine gate_callee (f := 70) rfl ?_); refine goesL_ (some 18) rfl rfl Try.func70 (by kernel_rfl) rfl #[.agg #[.slice A0_0 l0_0.length c0_0, .slice A0_1 l0_1.length c0_1, .slice A0_2 l0_2.length c0_2]] rfl (by (try simp only [List.map_toArray, List.map_cons, List.map_nil]); rfl) ?_; (with_reducible refine (impl_Jobs_room.calls k _ _ l0_0 _ _ l0_1 _ _ l0_2 t483 _ ?side1 ?side2 ?side3 ?side4 ?side5 ?side6 A5.out).mono ?_); (case side1 => exact (Kd.C_below HR0_0.out HB.out)); (case side2 => exact HC0_0.out); (case side3 => exact (Kd.C_below HR0_1.out HB.out)); (case side4 => exact HC0_1.out); (case side5 => exact (Kd.C_below HR0_2.out HB.out)); (case side6 => exact HC0_2.out); rintro e w20 ⟨rfl, hb⟩; refine ⟨_, rfl, ?_⟩; have n0_ := Aside0.mk (blk_below (g := gb479) (o := .cells #[.slice A0_0 l0_0.length c0_0, .slice A0_1 l0_1.length c0_1, .slice A0_2 l0_2.length c0_2] 33 (0, 0)) BK479.out hb); have n1_ := Aside0.mk (below_step HB.out hb); clear BK479; clear HB; have BK479 := n0_; have HB := n1_; clear n0_ n1_; (try clear hb); (try clear hb2); (try clear hk); (try clear hi)))
 go_ret2
 exact ⟨by rfl, by exact HB.out⟩
end Go.Proofs.Ytoakdilhljnjfaa.Q
namespace Go.Proofs.Ytoakdilhljnjfaa.Q
open Go.RowKit Go.Proofs.YtoakdilhljnjfaaW.PrintWords Go.Proofs.YtoakdilhljnjfaaW.PrintLast Go.Proofs.YtoakdilhljnjfaaW.PrintMore
attribute [local go_sem] max2_int min2_int max_two min_two max_three min_three max_four min_four   -- for this text's walks alone
set_option linter.unusedVariables false
set_option linter.unusedSimpArgs false
def impl_LoadOf.f (k : Nat) (l0_0 : List Int) (l0_1 : List Int) (l0_2 : List Int) : Option (Int × Int × Int) := (impl_jobsCode.f k l0_0 l0_1 l0_2 true false).bind fun t498 => (if t498 = 0 then ((impl_Jobs_load.f k l0_0 l0_1 l0_2).bind fun bt499 => (some (bt499.1, bt499.2, 0))) else (some (0, 0, t498)))
set_option maxHeartbeats 8000000 in
set_option maxRecDepth 100000 in
theorem impl_LoadOf.calls (k : Nat) (A0_0 : Option Addr) (c0_0 : Nat) (l0_0 : List Int) (A0_1 : Option Addr) (c0_1 : Nat) (l0_1 : List Int) (A0_2 : Option Addr) (c0_2 : Nat) (l0_2 : List Int) (r1 : Int) (r2 : Int) (r3 : Int) (w : World) (hr0_0 : Kd.C (Kd.int .i64) w A0_0 l0_0.length l0_0) (hc0_0 : l0_0.length ≤ c0_0) (hr0_1 : Kd.C (Kd.int .i64) w A0_1 l0_1.length l0_1) (hc0_1 : l0_1.length ≤ c0_1) (hr0_2 : Kd.C (Kd.int .i64) w A0_2 l0_2.length l0_2) (hc0_2 : l0_2.length ≤ c0_2) (h : impl_LoadOf.f k l0_0 l0_1 l0_2 = some (r1, r2, r3)) :
 Calls Try.prog 35 #[.agg #[.slice A0_0 l0_0.length c0_0, .slice A0_1 l0_1.length c0_1, .slice A0_2 l0_2.length c0_2]] w fun e w' => e = .returned (.tuple #[.int .i64 r1, .int .i64 r2, .int .i64 r3]) ∧ Below w.heap.size w w' := by
 have hu33 := Try.underlying33
 have HR0_0 := Aside0.mk hr0_0
 have HC0_0 := Aside0.mk hc0_0
 clear hr0_0 hc0_0
 have HR0_1 := Aside0.mk hr0_1
 have HC0_1 := Aside0.mk hc0_1
 clear hr0_1 hc0_1
 have HR0_2 := Aside0.mk hr0_2
 have HC0_2 := Aside0.mk hc0_2
 clear hr0_2 hc0_2
 have HB := Aside0.mk (Below.refl w.heap.size w)
 have H : ((impl_jobsCode.f k l0_0 l0_1 l0_2 true false).bind fun t498 => (if t498 = 0 then ((impl_Jobs_load.f k l0_0 l0_1 l0_2).bind fun bt499 => (some (bt499.1, bt499.2, 0))) else (some (0, 0, t498)))) = some (r1, r2, r3) := h
 clear h
 replace H := Option.bind_eq_some_iff.mp H
 obtain ⟨t498, A20, H⟩ := H
 replace H : (if t498 = 0 then ((impl_Jobs_load.f k l0_0 l0_1 l0_2).bind fun bt499 => (some (bt499.1, bt499.2, 0))) else (some (0, 0, t498))) = some (r1, r2, r3) := H
 have A2 := Aside0.mk A20
 clear A20
 by_cases c3 : t498 = 0
 rotate_left
 · rw [if_neg c3] at H
   have c3b0 : (t498 == 0) = false := beq_eq_false_iff_ne.mpr c3
   have c3b1 : (t498 != 0) = true := bne_iff_ne.mpr c3
   simp only [Option.some.injEq, Prod.mk.injEq] at H
   obtain ⟨rfl, rfl, rfl⟩ := H
   go_enter Try.func35, Try.ntmps35
   go_wp2_with (first | ((with_reducible refine gate_dst (N := 1) rfl ?_); refine box_event ?hg (N := 1) ?hd (cs := #[.slice A0_0 l0_0.length c0_0, .slice A0_1 l0_1.length c0_1, .slice A0_2 l0_2.length c0_2]) (t := 33) ?hr ?_; (case hd => rfl); (case hg => rfl); (case hr => (go_simp; done)); intro gb497 hg w10 hbox hb; have n0_ := Aside0.mk (below_step HB.out hb); have n1_ := Aside0.mk (hbox); have n2_ := Aside0.mk ((by rw [hg]; exact (below_size HB.out) : w.heap.size ≤ gb497)); have n3_ := Aside0.mk ((by rw [hg]; exact (below_size HB.out) : w.heap.size ≤ gb497)); clear HB; have HB := n0_; have BK497 := n1_; have GW497 := n2_; have GE497 := n3_; clear n0_ n1_ n2_ n3_; clear hb hbox hg; have hcz11_0 : w10.cell? ⟨gb497, 0, none⟩ = some (.slice A0_0 l0_0.length c0_0) := (blk_cell BK497.out 0).trans rfl; have hcz11_1 : w10.cell? ⟨gb497, 1, none⟩ = some (.slice A0_1 l0_1.length c0_1) := (blk_cell BK497.out 1).trans rfl; have hcz11_2 : w10.cell? ⟨gb497, 2, none⟩ = some (.slice A0_2 l0_2.length c0_2) := (blk_cell BK497.out 2).trans rfl; have hfz11_0 := blk_frozen BK497.out 0; have hfz11_1 := blk_frozen BK497.out 1; have hfz11_2 := blk_frozen BK497.out 2) | ((with_reducible refine gate_callee (f := 56) rfl ?_); refine goesL_ (some 9) rfl rfl Try.func56 (by kernel_rfl) rfl #[.agg #[.slice A0_0 l0_0.length c0_0, .slice A0_1 l0_1.length c0_1, .slice A0_2 l0_2.length c0_2], .bool true, .bool false] rfl (by (try simp only [List.map_toArray, List.map_cons, List.map_nil]); rfl) ?_; (with_reducible refine (impl_jobsCode.calls k _ _ l0_0 _ _ l0_1 _ _ l0_2 true false t498 _ ?side1 ?side2 ?side3 ?side4 ?side5 ?side6 A2.out).mono ?_); (case side1 => exact (Kd.C_below HR0_0.out HB.out)); (case side2 => exact HC0_0.out); (case side3 => exact (Kd.C_below HR0_1.out HB.out)); (case side4 => exact HC0_1.out); (case side5 => exact (Kd.C_below HR0_2.out HB.out)); (case side6 => exact HC0_2.out); rintro e w12 ⟨rfl, hb⟩; refine ⟨_, rfl, ?_⟩; have n0_ := Aside0.mk (blk_below (g := gb497) (o := .cells #[.slice A0_0 l0_0.length c0_0, .slice A0_1 l0_1.length c0_1, .slice A0_2 l0_2.length c0_2] 33 (0, 0)) BK497.out hb); have n1_ := Aside0.mk (below_step HB.out hb); clear BK497; clear HB; have BK497 := n0_; have HB := n1_; clear n0_ n1_; (try clear hb); (try clear hb2); (try clear hk); (try clear hi)))
   go_ret3
   exact ⟨by rfl, by exact HB.out⟩
 rw [if_pos c3] at H
 have c3b0 : (t498 == 0) = true := beq_iff_eq.mpr c3
 have c3b1 : (t498 != 0) = false := bne_eq_false_iff_eq.mpr c3
 clear c3
 replace H := Option.bind_eq_some_iff.mp H
 obtain ⟨⟨t499, t500⟩, A40, H⟩ := H
 replace H : (some (t499, t500, 0)) = some (r1, r2, r3) := H
 have A4 := Aside0.mk A40
 clear A40
 simp only [Option.some.injEq, Prod.mk.injEq] at H
 obtain ⟨rfl, rfl, rfl⟩ := H
 go_enter Try.func35, Try.ntmps35
 go_wp2_with (first | ((with_reducible refine gate_dst (N := 1) rfl ?_); refine box_event ?hg (N := 1) ?hd (cs := #[.slice A0_0 l0_0.length c0_0, .slice A0_1 l0_1.length c0_1, .slice A0_2 l0_2.length c0_2]) (t := 33) ?hr ?_; (case hd => rfl); (case hg => rfl); (case hr => (go_simp; done)); intro gb497 hg w5 hbox hb; have n0_ := Aside0.mk (below_step HB.out hb); have n1_ := Aside0.mk (hbox); have n2_ := Aside0.mk ((by rw [hg]; exact (below_size HB.out) : w.heap.size ≤ gb497)); have n3_ := Aside0.mk ((by rw [hg]; exact (below_size HB.out) : w.heap.size ≤ gb497)); clear HB; have HB := n0_; have BK497 := n1_; have GW497 := n2_; have GE497 := n3_; clear n0_ n1_ n2_ n3_; clear hb hbox hg; have hcz6_0 : w5.cell? ⟨gb497, 0, none⟩ = some (.slice A0_0 l0_0.length c0_0) := (blk_cell BK497.out 0).trans rfl; have hcz6_1 : w5.cell? ⟨gb497, 1, none⟩ = some (.slice A0_1 l0_1.length c0_1) := (blk_cell BK497.out 1).trans rfl; have hcz6_2 : w5.cell? ⟨gb497, 2, none⟩ = some (.slice A0_2 l0_2.length c0_2) := (blk_cell BK497.out 2).trans rfl; have hfz6_0 := blk_frozen BK497.out 0; have hfz6_1 := blk_frozen BK497.out 1; have hfz6_2 := blk_frozen BK497.out 2) | ((with_reducible refine gate_callee (f := 56) rfl ?_); refine goesL_ (some 9) rfl rfl Try.func56 (by kernel_rfl) rfl #[.agg #[.slice A0_0 l0_0.length c0_0, .slice A0_1 l0_1.length c0_1, .slice A0_2 l0_2.length c0_2], .bool true, .bool false] rfl (by (try simp only [List.map_toArray, List.map_cons, List.map_nil]); rfl) ?_; (with_reducible refine (impl_jobsCode.calls k _ _ l0_0 _ _ l0_1 _ _ l0_2 true false t498 _ ?side1 ?side2 ?side3 ?side4 ?side5 ?side6 A2.out).mono ?_); (case side1 => exact (Kd.C_below HR0_0.out HB.out)); (case side2 => exact HC0_0.out); (case side3 => exact (Kd.C_below HR0_1.out HB.out)); (case side4 => exact HC0_1.out); (case side5 => exact (Kd.C_below HR0_2.out HB.out)); (case side6 => exact HC0_2.out); rintro e w7 ⟨rfl, hb⟩; refine ⟨_, rfl, ?_⟩; have n0_ := Aside0.mk (blk_below (g := gb497) (o := .cells #[.slice A0_0 l0_0.length c0_0, .slice A0_1 l0_1.length c0_1, .slice A0_2 l0_2.length c0_2] 33 (0, 0)) BK497.out hb); have n1_ := Aside0.mk (below_step HB.out hb); clear BK497; clear HB; have BK497 := n0_; have HB := n1_; clear n0_ n1_; (try clear hb); (try clear hb2); (try clear hk); (try clear hi); have hcz8_0 : w7.cell? ⟨gb497, 0, none⟩ = some (.slice A0_0 l0_0.length c0_0) := (blk_cell BK497.out 0).trans rfl; have hcz8_1 : w7.cell? ⟨gb497, 1, none⟩ = some (.slice A0_1 l0_1.length c0_1) := (blk_cell BK497.out 1).trans rfl; have hcz8_2 : w7.cell? ⟨gb497, 2, none⟩ = some (.slice A0_2 l0_2.length c0_2) := (blk_cell BK497.out 2).trans rfl; have hfz8_0 := blk_frozen BK497.out 0; have hfz8_1 := blk_frozen BK497.out 1; have hfz8_2 := blk_frozen BK497.out 2) | ((with_reducible refine gate_callee (f := 72) rfl ?_); refine goesL_ (some 15) rfl rfl Try.func72 (by kernel_rfl) rfl #[.agg #[.slice A0_0 l0_0.length c0_0, .slice A0_1 l0_1.length c0_1, .slice A0_2 l0_2.length c0_2]] rfl (by (try simp only [List.map_toArray, List.map_cons, List.map_nil]); rfl) ?_; (with_reducible refine (impl_Jobs_load.calls k _ _ l0_0 _ _ l0_1 _ _ l0_2 t499 t500 _ ?side1 ?side2 ?side3 ?side4 ?side5 ?side6 A4.out).mono ?_); (case side1 => exact (Kd.C_below HR0_0.out HB.out)); (case side2 => exact HC0_0.out); (case side3 => exact (Kd.C_below HR0_1.out HB.out)); (case side4 => exact HC0_1.out); (case side5 => exact (Kd.C_below HR0_2.out HB.out)); (case side6 => exact HC0_2.out); rintro e w9 ⟨rfl, hb⟩; refine ⟨_, rfl, ?_⟩; have n0_ := Aside0.mk (blk_below (g := gb497) (o := .cells #[.slice A0_0 l0_0.length c0_0, .slice A0_1 l0_1.length c0_1, .slice A0_2 l0_2.length c0_2] 33 (0, 0)) BK497.out hb); have n1_ := Aside0.mk (below_step HB.out hb); clear BK497; clear HB; have BK497 := n0_; have HB := n1_; clear n0_ n1_; (try clear hb); (try clear hb2); (try clear hk); (try clear hi)))
 go_ret3
 exact ⟨by rfl, by exact HB.out⟩
end Go.Proofs.Ytoakdilhljnjfaa.Q
namespace Go.Proofs.Ytoakdilhljnjfaa.Q
open Go.RowKit Go.Proofs.YtoakdilhljnjfaaW.PrintWords Go.Proofs.YtoakdilhljnjfaaW.PrintLast Go.Proofs.YtoakdilhljnjfaaW.PrintMore
attribute [local go_sem] max2_int min2_int max_two min_two max_three min_three max_four min_four   -- for this text's walks alone
set_option linter.unusedVariables false
set_option linter.unusedSimpArgs false
def spec_l04Whole.l0 : Nat → Int → Int → List Int → List Int → List Int → Option (Int)
 | 0, _, _, _, _, _ => none
 | k + 1, x3, x4, x391000, x391001, x391002 => if x4 < (x391001.length : Int) then (if x3 ≤ 240 then (if 0 ≤ x4 then ((spec_l01Lcm.f k x3 (rd x391001 x4)).bind fun t392 => (spec_l04Whole.l0 k t392 (wrap64 (x4 + 1)) x391000 x391001 x391002)) else (none)) else (some x3)) else (some x3)
def spec_l04Whole.f (k : Nat) (l0_0 : List Int) (l0_1 : List Int) (l0_2 : List Int) : Option (Int) := spec_l04Whole.l0 k 1 0 l0_0 l0_1 l0_2
set_option maxHeartbeats 8000000 in
set_option maxRecDepth 100000 in
theorem spec_l04Whole.calls (k : Nat) (A0_0 : Option Addr) (c0_0 : Nat) (l0_0 : List Int) (A0_1 : Option Addr) (c0_1 : Nat) (l0_1 : List Int) (A0_2 : Option Addr) (c0_2 : Nat) (l0_2 : List Int) (r : Int) (w : World) (hr0_0 : Kd.C (Kd.int .i64) w A0_0 l0_0.length l0_0) (hc0_0 : l0_0.length ≤ c0_0) (hr0_1 : Kd.C (Kd.int .i64) w A0_1 l0_1.length l0_1) (hc0_1 : l0_1.length ≤ c0_1) (hr0_2 : Kd.C (Kd.int .i64) w A0_2 l0_2.length l0_2) (hc0_2 : l0_2.length ≤ c0_2) (h : spec_l04Whole.f k l0_0 l0_1 l0_2 = some r) :
 Calls Try.prog 74 #[.agg #[.slice A0_0 l0_0.length c0_0, .slice A0_1 l0_1.length c0_1, .slice A0_2 l0_2.length c0_2]] w fun e w' => e = .returned (.int .i64 r) ∧ Below w.heap.size w w' := by
 have hu33 := Try.underlying33
 have HR0_0 := Aside0.mk hr0_0
 have HC0_0 := Aside0.mk hc0_0
 clear hr0_0 hc0_0
 have HR0_1 := Aside0.mk hr0_1
 have HC0_1 := Aside0.mk hc0_1
 clear hr0_1 hc0_1
 have HR0_2 := Aside0.mk hr0_2
 have HC0_2 := Aside0.mk hc0_2
 clear hr0_2 hc0_2
 have HB := Aside0.mk (Below.refl w.heap.size w)
 have H : (spec_l04Whole.l0 k 1 0 l0_0 l0_1 l0_2) = some r := h
 clear h
 have H' := Aside0.mk H
 clear H
 go_enter Try.func74, Try.ntmps74
 go_wp2_with (((with_reducible refine gate_dst (N := 1) rfl ?_); refine box_event ?hg (N := 1) ?hd (cs := #[.slice A0_0 l0_0.length c0_0, .slice A0_1 l0_1.length c0_1, .slice A0_2 l0_2.length c0_2]) (t := 33) ?hr ?_; (case hd => rfl); (case hg => rfl); (case hr => (go_simp; done)); intro gb390 hg w2 hbox hb; have n0_ := Aside0.mk (below_step HB.out hb); have n1_ := Aside0.mk (hbox); have n2_ := Aside0.mk ((by rw [hg]; exact (below_size HB.out) : w.heap.size ≤ gb390)); have n3_ := Aside0.mk ((by rw [hg]; exact (below_size HB.out) : w.heap.size ≤ gb390)); clear HB; have HB := n0_; have BK390 := n1_; have GW390 := n2_; have GE390 := n3_; clear n0_ n1_ n2_ n3_; clear hb hbox hg))
 go_loopg [3, 4] k (fun kq v3 v4 w' => ∃ (x3_1 : Int) (x4_1 : Int), v3 = .int .i64 x3_1 ∧ v4 = .int .i64 x4_1 ∧ Aside0 (spec_l04Whole.l0 kq x3_1 x4_1 l0_0 l0_1 l0_2 = some r) ∧ Aside0 (kq ≤ k) ∧ Aside0 (w'.heap[gb390]? = some (.cells #[(.slice A0_0 l0_0.length c0_0), (.slice A0_1 l0_1.length c0_1), (.slice A0_2 l0_2.length c0_2)] 33 (0, 0))) ∧ Aside0 (Below w.heap.size w w'))
 case atStart => exact ⟨(1), (0), (by rfl), (by rfl), H', ⟨Nat.le_refl _⟩, ⟨by exact BK390.out⟩, ⟨by exact HB.out⟩⟩
 clear H'
 obtain ⟨x3_1, x4_1, rfl, rfl, HA, HK1, BK390, HB⟩ := hrel
 cases gk with
 | zero => exact absurd HA.out (by simp [spec_l04Whole.l0])
 | succ k1 =>
  have H := HA.out
  clear HA
  simp only [spec_l04Whole.l0] at H
  by_cases c3 : x4_1 < (l0_1.length : Int)
  rotate_left
  · rw [if_neg c3] at H
    have c3b0 : decide (x4_1 < (l0_1.length : Int)) = false := decide_eq_false c3
    clear c3
    obtain rfl := Option.some.inj H
    have hcz9_0 : wr.cell? ⟨gb390, 0, none⟩ = some (.slice A0_0 l0_0.length c0_0) := (blk_cell BK390.out 0).trans rfl
    have hcz9_1 : wr.cell? ⟨gb390, 1, none⟩ = some (.slice A0_1 l0_1.length c0_1) := (blk_cell BK390.out 1).trans rfl
    have hcz9_2 : wr.cell? ⟨gb390, 2, none⟩ = some (.slice A0_2 l0_2.length c0_2) := (blk_cell BK390.out 2).trans rfl
    have hfz9_0 := blk_frozen BK390.out 0
    have hfz9_1 := blk_frozen BK390.out 1
    have hfz9_2 := blk_frozen BK390.out 2
    go_wp2
    go_ret
    exact ⟨by rfl, by exact HB.out⟩
  rw [if_pos c3] at H
  have c3b0 : decide (x4_1 < (l0_1.length : Int)) = true := decide_eq_true c3
  clear c3
  by_cases c4 : x3_1 ≤ 240
  rotate_left
  · rw [if_neg c4] at H
    have c4b0 : decide (x3_1 ≤ 240) = false := decide_eq_false c4
    clear c4
    obtain rfl := Option.some.inj H
    have hcz8_0 : wr.cell? ⟨gb390, 0, none⟩ = some (.slice A0_0 l0_0.length c0_0) := (blk_cell BK390.out 0).trans rfl
    have hcz8_1 : wr.cell? ⟨gb390, 1, none⟩ = some (.slice A0_1 l0_1.length c0_1) := (blk_cell BK390.out 1).trans rfl
    have hcz8_2 : wr.cell? ⟨gb390, 2, none⟩ = some (.slice A0_2 l0_2.length c0_2) := (blk_cell BK390.out 2).trans rfl
    have hfz8_0 := blk_frozen BK390.out 0
    have hfz8_1 := blk_frozen BK390.out 1
    have hfz8_2 := blk_frozen BK390.out 2
    go_wp2
    go_ret
    exact ⟨by rfl, by exact HB.out⟩
  rw [if_pos c4] at H
  have c4b0 : decide (x3_1 ≤ 240) = true := decide_eq_true c4
  clear c4
  by_cases c5 : 0 ≤ x4_1
  rotate_left
  · rw [if_neg c5] at H
    exact absurd H (by simp)
  rw [if_pos c5] at H
  have c5b0 : decide (0 ≤ x4_1) = true := decide_eq_true c5
  clear c5
  replace H := Option.bind_eq_some_iff.mp H
  obtain ⟨t392, A60, H⟩ := H
  replace H : (spec_l04Whole.l0 k1 t392 (wrap64 (x4_1 + 1)) l0_0 l0_1 l0_2) = some r := H
  have A6 := Aside0.mk A60
  clear A60
  have H' := Aside0.mk H
  clear H
  have hcz7_0 : wr.cell? ⟨gb390, 0, none⟩ = some (.slice A0_0 l0_0.length c0_0) := (blk_cell BK390.out 0).trans rfl
  have hcz7_1 : wr.cell? ⟨gb390, 1, none⟩ = some (.slice A0_1 l0_1.length c0_1) := (blk_cell BK390.out 1).trans rfl
  have hcz7_2 : wr.cell? ⟨gb390, 2, none⟩ = some (.slice A0_2 l0_2.length c0_2) := (blk_cell BK390.out 2).trans rfl
  have hfz7_0 := blk_frozen BK390.out 0
  have hfz7_1 := blk_frozen BK390.out 1
  have hfz7_2 := blk_frozen BK390.out 2
  have p391 : 0 ≤ (x4_1 : Int) := of_decide_eq_true (by (with_reducible assumption))
  have q391 : x4_1 < (l0_1.length : Int) := of_decide_eq_true (by (with_reducible assumption))
  obtain ⟨ad391, e391, hx391_0⟩ := Kd.at_int HR0_1.out x4_1 p391 q391
  cases e391
  replace hx391_0 := (HB.out.cell (World.block_lt_of_cell? w _ hx391_0)).trans hx391_0
  replace p391 := eq_true p391
  replace q391 := eq_true q391
  go_wp2_with (((with_reducible refine gate_callee (f := 108) rfl ?_); refine goesL_ (some 22) rfl rfl Try.func108 (by kernel_rfl) rfl #[.int .i64 x3_1, .int .i64 (rd l0_1 x4_1)] rfl (by (try simp only [List.map_toArray, List.map_cons, List.map_nil]); rfl) ?_; (with_reducible refine (spec_l01Lcm.calls k1 x3_1 (rd l0_1 x4_1) t392 _ A6.out).mono ?_); rintro e w' ⟨rfl, ⟨nd, rfl⟩⟩; refine ⟨_, rfl, ?_⟩))
  go_roundg k1
  case measure => have := HK1.out; omega
  case rel => exact ⟨(t392), (wrap64 (x4_1 + 1)), (by rfl), (by rfl), H', ⟨by have := HK1.out; omega⟩, ⟨by (with_reducible repeat (refine blk_drewN ?_ _)); exact BK390.out⟩, ⟨by repeat (with_reducible first | exact HB.out | apply pw_below_drewN)⟩⟩
end Go.Proofs.Ytoakdilhljnjfaa.Q
namespace Go.Proofs.Ytoakdilhljnjfaa.Q
open Go.RowKit Go.Proofs.YtoakdilhljnjfaaW.PrintWords Go.Proofs.YtoakdilhljnjfaaW.PrintLast Go.Proofs.YtoakdilhljnjfaaW.PrintMore
attribute [local go_sem] max2_int min2_int max_two min_two max_three min_three max_four min_four   -- for this text's walks alone
set_option linter.unusedVariables false
set_option linter.unusedSimpArgs false
def spec_l04Code.f (k : Nat) (l0_0 : List Int) (l0_1 : List Int) (l0_2 : List Int) : Option (Int) := (spec_l04Is.f k l0_0 l0_1 l0_2).bind fun t394 => (if t394 = true then ((spec_l04Whole.f k l0_0 l0_1 l0_2).bind fun t395 => (if t395 > 240 then (some 3) else (some 0))) else (some 1))
end Go.Proofs.Ytoakdilhljnjfaa.Q
