/- Jobs can be met exactly if no demand is too great, and none is late then. (Part 3 of 7.) No conditions beside those of the statement. -/
import Derived.Test.YtoakdilhljnjfaaCJOB2
namespace Go.Proofs.Ytoakdilhljnjfaa.Q
open Go.RowKit Go.Proofs.YtoakdilhljnjfaaW.PrintWords Go.Proofs.YtoakdilhljnjfaaW.PrintLast Go.Proofs.YtoakdilhljnjfaaW.PrintMore
attribute [local go_sem] max2_int min2_int max_two min_two max_three min_three max_four min_four   -- for this text's walks alone
set_option linter.unusedVariables false
set_option linter.unusedSimpArgs false
set_option maxHeartbeats 8000000 in
set_option maxRecDepth 100000 in
theorem spec_l04Code.calls (k : Nat) (A0_0 : Option Addr) (c0_0 : Nat) (l0_0 : List Int) (A0_1 : Option Addr) (c0_1 : Nat) (l0_1 : List Int) (A0_2 : Option Addr) (c0_2 : Nat) (l0_2 : List Int) (r : Int) (w : World) (hr0_0 : Kd.C (Kd.int .i64) w A0_0 l0_0.length l0_0) (hc0_0 : l0_0.length ≤ c0_0) (hr0_1 : Kd.C (Kd.int .i64) w A0_1 l0_1.length l0_1) (hc0_1 : l0_1.length ≤ c0_1) (hr0_2 : Kd.C (Kd.int .i64) w A0_2 l0_2.length l0_2) (hc0_2 : l0_2.length ≤ c0_2) (h : spec_l04Code.f k l0_0 l0_1 l0_2 = some r) :
 Calls Try.prog 68 #[.agg #[.slice A0_0 l0_0.length c0_0, .slice A0_1 l0_1.length c0_1, .slice A0_2 l0_2.length c0_2]] w fun e w' => e = .returned (.int .i64 r) ∧ Below w.heap.size w w' := by
 have hu33 := Try.underlying33
 have HR0_0 := Aside0.mk hr0_0
 have HC0_0 := Aside0.mk hc0_0
 clear hr0_0 hc0_0
 have HR0_1 := Aside0.mk hr0_1
 have HC0_1 := Aside0.mk hc0_1
 clear hr0_1 hc0_1
 have HR0_2 := Aside0.mk hr0_2
 have HC0_2 := Aside0.mk hc0_2
 clear hr0_2 hc0_2
 have HB := Aside0.mk (Below.refl w.heap.size w)
 have H : ((spec_l04Is.f k l0_0 l0_1 l0_2).bind fun t394 => (if t394 = true then ((spec_l04Whole.f k l0_0 l0_1 l0_2).bind fun t395 => (if t395 > 240 then (some 3) else (some 0))) else (some 1))) = some r := h
 clear h
 replace H := Option.bind_eq_some_iff.mp H
 obtain ⟨t394, A20, H⟩ := H
 replace H : (if t394 = true then ((spec_l04Whole.f k l0_0 l0_1 l0_2).bind fun t395 => (if t395 > 240 then (some 3) else (some 0))) else (some 1)) = some r := H
 have A2 := Aside0.mk A20
 clear A20
 by_cases c3 : t394 = true
 rotate_left
 · replace c3 := Bool.eq_false_iff.mpr c3
   subst c3
   have H1 : (some 1) = some r := by rw [if_neg (show ¬ (false = true) by decide)] at H; exact H
   clear H
   have H := H1
   clear H1
   obtain rfl := Option.some.inj H
   go_enter Try.func68, Try.ntmps68
   go_wp2_with (first | ((with_reducible refine gate_dst (N := 1) rfl ?_); refine box_event ?hg (N := 1) ?hd (cs := #[.slice A0_0 l0_0.length c0_0, .slice A0_1 l0_1.length c0_1, .slice A0_2 l0_2.length c0_2]) (t := 33) ?hr ?_; (case hd => rfl); (case hg => rfl); (case hr => (go_simp; done)); intro gb393 hg w16 hbox hb; have n0_ := Aside0.mk (below_step HB.out hb); have n1_ := Aside0.mk (hbox); have n2_ := Aside0.mk ((by rw [hg]; exact (below_size HB.out) : w.heap.size ≤ gb393)); have n3_ := Aside0.mk ((by rw [hg]; exact (below_size HB.out) : w.heap.size ≤ gb393)); clear HB; have HB := n0_; have BK393 := n1_; have GW393 := n2_; have GE393 := n3_; clear n0_ n1_ n2_ n3_; clear hb hbox hg; have hcz17_0 : w16.cell? ⟨gb393, 0, none⟩ = some (.slice A0_0 l0_0.length c0_0) := (blk_cell BK393.out 0).trans rfl; have hcz17_1 : w16.cell? ⟨gb393, 1, none⟩ = some (.slice A0_1 l0_1.length c0_1) := (blk_cell BK393.out 1).trans rfl; have hcz17_2 : w16.cell? ⟨gb393, 2, none⟩ = some (.slice A0_2 l0_2.length c0_2) := (blk_cell BK393.out 2).trans rfl; have hfz17_0 := blk_frozen BK393.out 0; have hfz17_1 := blk_frozen BK393.out 1; have hfz17_2 := blk_frozen BK393.out 2) | ((with_reducible refine gate_callee (f := 55) rfl ?_); refine goesL_ (some 5) rfl rfl Try.func55 (by kernel_rfl) rfl #[.agg #[.slice A0_0 l0_0.length c0_0, .slice A0_1 l0_1.length c0_1, .slice A0_2 l0_2.length c0_2]] rfl (by (try simp only [List.map_toArray, List.map_cons, List.map_nil]); rfl) ?_; (with_reducible refine (spec_l04Is.calls k _ _ l0_0 _ _ l0_1 _ _ l0_2 false _ ?side1 ?side2 ?side3 ?side4 ?side5 ?side6 A2.out).mono ?_); (case side1 => exact (Kd.C_below HR0_0.out HB.out)); (case side2 => exact HC0_0.out); (case side3 => exact (Kd.C_below HR0_1.out HB.out)); (case side4 => exact HC0_1.out); (case side5 => exact (Kd.C_below HR0_2.out HB.out)); (case side6 => exact HC0_2.out); rintro e w18 ⟨rfl, hb⟩; refine ⟨_, rfl, ?_⟩; have n0_ := Aside0.mk (blk_below (g := gb393) (o := .cells #[.slice A0_0 l0_0.length c0_0, .slice A0_1 l0_1.length c0_1, .slice A0_2 l0_2.length c0_2] 33 (0, 0)) BK393.out hb); have n1_ := Aside0.mk (below_step HB.out hb); clear BK393; clear HB; have BK393 := n0_; have HB := n1_; clear n0_ n1_; (try clear hb); (try clear hb2); (try clear hk); (try clear hi)))
   go_ret
   exact ⟨by rfl, by exact HB.out⟩
 subst c3
 have H1 : ((spec_l04Whole.f k l0_0 l0_1 l0_2).bind fun t395 => (if t395 > 240 then (some 3) else (some 0))) = some r := by rw [if_pos rfl] at H; exact H
 clear H
 have H := H1
 clear H1
 replace H := Option.bind_eq_some_iff.mp H
 obtain ⟨t395, A40, H⟩ := H
 replace H : (if t395 > 240 then (some 3) else (some 0)) = some r := H
 have A4 := Aside0.mk A40
 clear A40
 by_cases c5 : t395 > 240
 · rw [if_pos c5] at H
   have c5b0 : decide (240 < t395) = true := decide_eq_true c5
   clear c5
   obtain rfl := Option.some.inj H
   go_enter Try.func68, Try.ntmps68
   go_wp2_with (first | ((with_reducible refine gate_dst (N := 1) rfl ?_); refine box_event ?hg (N := 1) ?hd (cs := #[.slice A0_0 l0_0.length c0_0, .slice A0_1 l0_1.length c0_1, .slice A0_2 l0_2.length c0_2]) (t := 33) ?hr ?_; (case hd => rfl); (case hg => rfl); (case hr => (go_simp; done)); intro gb393 hg w6 hbox hb; have n0_ := Aside0.mk (below_step HB.out hb); have n1_ := Aside0.mk (hbox); have n2_ := Aside0.mk ((by rw [hg]; exact (below_size HB.out) : w.heap.size ≤ gb393)); have n3_ := Aside0.mk ((by rw [hg]; exact (below_size HB.out) : w.heap.size ≤ gb393)); clear HB; have HB := n0_; have BK393 := n1_; have GW393 := n2_; have GE393 := n3_; clear n0_ n1_ n2_ n3_; clear hb hbox hg; have hcz7_0 : w6.cell? ⟨gb393, 0, none⟩ = some (.slice A0_0 l0_0.length c0_0) := (blk_cell BK393.out 0).trans rfl; have hcz7_1 : w6.cell? ⟨gb393, 1, none⟩ = some (.slice A0_1 l0_1.length c0_1) := (blk_cell BK393.out 1).trans rfl; have hcz7_2 : w6.cell? ⟨gb393, 2, none⟩ = some (.slice A0_2 l0_2.length c0_2) := (blk_cell BK393.out 2).trans rfl; have hfz7_0 := blk_frozen BK393.out 0; have hfz7_1 := blk_frozen BK393.out 1; have hfz7_2 := blk_frozen BK393.out 2) | ((with_reducible refine gate_callee (f := 55) rfl ?_); refine goesL_ (some 5) rfl rfl Try.func55 (by kernel_rfl) rfl #[.agg #[.slice A0_0 l0_0.length c0_0, .slice A0_1 l0_1.length c0_1, .slice A0_2 l0_2.length c0_2]] rfl (by (try simp only [List.map_toArray, List.map_cons, List.map_nil]); rfl) ?_; (with_reducible refine (spec_l04Is.calls k _ _ l0_0 _ _ l0_1 _ _ l0_2 true _ ?side1 ?side2 ?side3 ?side4 ?side5 ?side6 A2.out).mono ?_); (case side1 => exact (Kd.C_below HR0_0.out HB.out)); (case side2 => exact HC0_0.out); (case side3 => exact (Kd.C_below HR0_1.out HB.out)); (case side4 => exact HC0_1.out); (case side5 => exact (Kd.C_below HR0_2.out HB.out)); (case side6 => exact HC0_2.out); rintro e w8 ⟨rfl, hb⟩; refine ⟨_, rfl, ?_⟩; have n0_ := Aside0.mk (blk_below (g := gb393) (o := .cells #[.slice A0_0 l0_0.length c0_0, .slice A0_1 l0_1.length c0_1, .slice A0_2 l0_2.length c0_2] 33 (0, 0)) BK393.out hb); have n1_ := Aside0.mk (below_step HB.out hb); clear BK393; clear HB; have BK393 := n0_; have HB := n1_; clear n0_ n1_; (try clear hb); (try clear hb2); (try clear hk); (try clear hi); have hcz9_0 : w8.cell? ⟨gb393, 0, none⟩ = some (.slice A0_0 l0_0.length c0_0) := (blk_cell BK393.out 0).trans rfl; have hcz9_1 : w8.cell? ⟨gb393, 1, none⟩ = some (.slice A0_1 l0_1.length c0_1) := (blk_cell BK393.out 1).trans rfl; have hcz9_2 : w8.cell? ⟨gb393, 2, none⟩ = some (.slice A0_2 l0_2.length c0_2) := (blk_cell BK393.out 2).trans rfl; have hfz9_0 := blk_frozen BK393.out 0; have hfz9_1 := blk_frozen BK393.out 1; have hfz9_2 := blk_frozen BK393.out 2) | ((with_reducible refine gate_callee (f := 74) rfl ?_); refine goesL_ (some 9) rfl rfl Try.func74 (by kernel_rfl) rfl #[.agg #[.slice A0_0 l0_0.length c0_0, .slice A0_1 l0_1.length c0_1, .slice A0_2 l0_2.length c0_2]] rfl (by (try simp only [List.map_toArray, List.map_cons, List.map_nil]); rfl) ?_; (with_reducible refine (spec_l04Whole.calls k _ _ l0_0 _ _ l0_1 _ _ l0_2 t395 _ ?side1 ?side2 ?side3 ?side4 ?side5 ?side6 A4.out).mono ?_); (case side1 => exact (Kd.C_below HR0_0.out HB.out)); (case side2 => exact HC0_0.out); (case side3 => exact (Kd.C_below HR0_1.out HB.out)); (case side4 => exact HC0_1.out); (case side5 => exact (Kd.C_below HR0_2.out HB.out)); (case side6 => exact HC0_2.out); rintro e w10 ⟨rfl, hb⟩; refine ⟨_, rfl, ?_⟩; have n0_ := Aside0.mk (blk_below (g := gb393) (o := .cells #[.slice A0_0 l0_0.length c0_0, .slice A0_1 l0_1.length c0_1, .slice A0_2 l0_2.length c0_2] 33 (0, 0)) BK393.out hb); have n1_ := Aside0.mk (below_step HB.out hb); clear BK393; clear HB; have BK393 := n0_; have HB := n1_; clear n0_ n1_; (try clear hb); (try clear hb2); (try clear hk); (try clear hi)))
   go_ret
   exact ⟨by rfl, by exact HB.out⟩
 rw [if_neg c5] at H
 have c5b0 : decide (240 < t395) = false := decide_eq_false c5
 clear c5
 obtain rfl := Option.some.inj H
 go_enter Try.func68, Try.ntmps68
 go_wp2_with (first | ((with_reducible refine gate_dst (N := 1) rfl ?_); refine box_event ?hg (N := 1) ?hd (cs := #[.slice A0_0 l0_0.length c0_0, .slice A0_1 l0_1.length c0_1, .slice A0_2 l0_2.length c0_2]) (t := 33) ?hr ?_; (case hd => rfl); (case hg => rfl); (case hr => (go_simp; done)); intro gb393 hg w11 hbox hb; have n0_ := Aside0.mk (below_step HB.out hb); have n1_ := Aside0.mk (hbox); have n2_ := Aside0.mk ((by rw [hg]; exact (below_size HB.out) : w.heap.size ≤ gb393)); have n3_ := Aside0.mk ((by rw [hg]; exact (below_size HB.out) : w.heap.size ≤ gb393)); clear HB; have HB := n0_; have BK393 := n1_; have GW393 := n2_; have GE393 := n3_; clear n0_ n1_ n2_ n3_; clear hb hbox hg; have hcz12_0 : w11.cell? ⟨gb393, 0, none⟩ = some (.slice A0_0 l0_0.length c0_0) := (blk_cell BK393.out 0).trans rfl; have hcz12_1 : w11.cell? ⟨gb393, 1, none⟩ = some (.slice A0_1 l0_1.length c0_1) := (blk_cell BK393.out 1).trans rfl; have hcz12_2 : w11.cell? ⟨gb393, 2, none⟩ = some (.slice A0_2 l0_2.length c0_2) := (blk_cell BK393.out 2).trans rfl; have hfz12_0 := blk_frozen BK393.out 0; have hfz12_1 := blk_frozen BK393.out 1; have hfz12_2 := blk_frozen BK393.out 2) | ((with_reducible refine gate_callee (f := 55) rfl ?_); refine goesL_ (some 5) rfl rfl Try.func55 (by kernel_rfl) rfl #[.agg #[.slice A0_0 l0_0.length c0_0, .slice A0_1 l0_1.length c0_1, .slice A0_2 l0_2.length c0_2]] rfl (by (try simp only [List.map_toArray, List.map_cons, List.map_nil]); rfl) ?_; (with_reducible refine (spec_l04Is.calls k _ _ l0_0 _ _ l0_1 _ _ l0_2 true _ ?side1 ?side2 ?side3 ?side4 ?side5 ?side6 A2.out).mono ?_); (case side1 => exact (Kd.C_below HR0_0.out HB.out)); (case side2 => exact HC0_0.out); (case side3 => exact (Kd.C_below HR0_1.out HB.out)); (case side4 => exact HC0_1.out); (case side5 => exact (Kd.C_below HR0_2.out HB.out)); (case side6 => exact HC0_2.out); rintro e w13 ⟨rfl, hb⟩; refine ⟨_, rfl, ?_⟩; have n0_ := Aside0.mk (blk_below (g := gb393) (o := .cells #[.slice A0_0 l0_0.length c0_0, .slice A0_1 l0_1.length c0_1, .slice A0_2 l0_2.length c0_2] 33 (0, 0)) BK393.out hb); have n1_ := Aside0.mk (below_step HB.out hb); clear BK393; clear HB; have BK393 := n0_; have HB := n1_; clear n0_ n1_; (try clear hb); (try clear hb2); (try clear hk); (try clear hi); have hcz14_0 : w13.cell? ⟨gb393, 0, none⟩ = some (.slice A0_0 l0_0.length c0_0) := (blk_cell BK393.out 0).trans rfl; have hcz14_1 : w13.cell? ⟨gb393, 1, none⟩ = some (.slice A0_1 l0_1.length c0_1) := (blk_cell BK393.out 1).trans rfl; have hcz14_2 : w13.cell? ⟨gb393, 2, none⟩ = some (.slice A0_2 l0_2.length c0_2) := (blk_cell BK393.out 2).trans rfl; have hfz14_0 := blk_frozen BK393.out 0; have hfz14_1 := blk_frozen BK393.out 1; have hfz14_2 := blk_frozen BK393.out 2) | ((with_reducible refine gate_callee (f := 74) rfl ?_); refine goesL_ (some 9) rfl rfl Try.func74 (by kernel_rfl) rfl #[.agg #[.slice A0_0 l0_0.length c0_0, .slice A0_1 l0_1.length c0_1, .slice A0_2 l0_2.length c0_2]] rfl (by (try simp only [List.map_toArray, List.map_cons, List.map_nil]); rfl) ?_; (with_reducible refine (spec_l04Whole.calls k _ _ l0_0 _ _ l0_1 _ _ l0_2 t395 _ ?side1 ?side2 ?side3 ?side4 ?side5 ?side6 A4.out).mono ?_); (case side1 => exact (Kd.C_below HR0_0.out HB.out)); (case side2 => exact HC0_0.out); (case side3 => exact (Kd.C_below HR0_1.out HB.out)); (case side4 => exact HC0_1.out); (case side5 => exact (Kd.C_below HR0_2.out HB.out)); (case side6 => exact HC0_2.out); rintro e w15 ⟨rfl, hb⟩; refine ⟨_, rfl, ?_⟩; have n0_ := Aside0.mk (blk_below (g := gb393) (o := .cells #[.slice A0_0 l0_0.length c0_0, .slice A0_1 l0_1.length c0_1, .slice A0_2 l0_2.length c0_2] 33 (0, 0)) BK393.out hb); have n1_ := Aside0.mk (below_step HB.out hb); clear BK393; clear HB; have BK393 := n0_; have HB := n1_; clear n0_ n1_; (try clear hb); (try clear hb2); (try clear hk); (try clear hi)))
 go_ret
 exact ⟨by rfl, by exact HB.out⟩
end Go.Proofs.Ytoakdilhljnjfaa.Q
namespace Go.Proofs.Ytoakdilhljnjfaa.Q
open Go.RowKit Go.Proofs.YtoakdilhljnjfaaW.PrintWords Go.Proofs.YtoakdilhljnjfaaW.PrintLast Go.Proofs.YtoakdilhljnjfaaW.PrintMore
attribute [local go_sem] max2_int min2_int max_two min_two max_three min_three max_four min_four   -- for this text's walks alone
set_option linter.unusedVariables false
set_option linter.unusedSimpArgs false
def spec_l04Demand.l0 : Nat → Int → Int → Int → List Int → List Int → List Int → Option (Int)
 | 0, _, _, _, _, _, _ => none
 | k + 1, x1, x5, x6, x463000, x463001, x463002 => if x6 < (x463000.length : Int) then (if 0 ≤ x6 then (if x6 < (x463002.length : Int) then (if x1 ≥ (rd x463002 x6) then (if x6 < (x463001.length : Int) then (if (rd x463001 x6) = 0 then (none) else (spec_l04Demand.l0 k x1 (wrap64 (x5 + (wrap64 ((wrap64 ((wrap64 (Int.tdiv (wrap64 (x1 - (rd x463002 x6))) (rd x463001 x6))) + 1)) * (rd x463000 x6))))) (wrap64 (x6 + 1)) x463000 x463001 x463002)) else (none)) else (spec_l04Demand.l0 k x1 x5 (wrap64 (x6 + 1)) x463000 x463001 x463002)) else (none)) else (none)) else (some x5)
def spec_l04Demand.f (k : Nat) (l0_0 : List Int) (l0_1 : List Int) (l0_2 : List Int) (a1 : Int) : Option (Int) := spec_l04Demand.l0 k a1 0 0 l0_0 l0_1 l0_2
set_option maxHeartbeats 8000000 in
set_option maxRecDepth 100000 in
theorem spec_l04Demand.calls (k : Nat) (A0_0 : Option Addr) (c0_0 : Nat) (l0_0 : List Int) (A0_1 : Option Addr) (c0_1 : Nat) (l0_1 : List Int) (A0_2 : Option Addr) (c0_2 : Nat) (l0_2 : List Int) (a1 : Int) (r : Int) (w : World) (hr0_0 : Kd.C (Kd.int .i64) w A0_0 l0_0.length l0_0) (hc0_0 : l0_0.length ≤ c0_0) (hr0_1 : Kd.C (Kd.int .i64) w A0_1 l0_1.length l0_1) (hc0_1 : l0_1.length ≤ c0_1) (hr0_2 : Kd.C (Kd.int .i64) w A0_2 l0_2.length l0_2) (hc0_2 : l0_2.length ≤ c0_2) (h : spec_l04Demand.f k l0_0 l0_1 l0_2 a1 = some r) :
 Calls Try.prog 81 #[.agg #[.slice A0_0 l0_0.length c0_0, .slice A0_1 l0_1.length c0_1, .slice A0_2 l0_2.length c0_2], .int .i64 a1] w fun e w' => e = .returned (.int .i64 r) ∧ Below w.heap.size w w' := by
 have hu33 := Try.underlying33
 have HR0_0 := Aside0.mk hr0_0
 have HC0_0 := Aside0.mk hc0_0
 clear hr0_0 hc0_0
 have HR0_1 := Aside0.mk hr0_1
 have HC0_1 := Aside0.mk hc0_1
 clear hr0_1 hc0_1
 have HR0_2 := Aside0.mk hr0_2
 have HC0_2 := Aside0.mk hc0_2
 clear hr0_2 hc0_2
 have HB := Aside0.mk (Below.refl w.heap.size w)
 have H : (spec_l04Demand.l0 k a1 0 0 l0_0 l0_1 l0_2) = some r := h
 clear h
 have H' := Aside0.mk H
 clear H
 go_enter Try.func81, Try.ntmps81
 go_wp2_with (((with_reducible refine gate_dst (N := 2) rfl ?_); refine box_event ?hg (N := 2) ?hd (cs := #[.slice A0_0 l0_0.length c0_0, .slice A0_1 l0_1.length c0_1, .slice A0_2 l0_2.length c0_2]) (t := 33) ?hr ?_; (case hd => rfl); (case hg => rfl); (case hr => (go_simp; done)); intro gb462 hg w3 hbox hb; have n0_ := Aside0.mk (below_step HB.out hb); have n1_ := Aside0.mk (hbox); have n2_ := Aside0.mk ((by rw [hg]; exact (below_size HB.out) : w.heap.size ≤ gb462)); have n3_ := Aside0.mk ((by rw [hg]; exact (below_size HB.out) : w.heap.size ≤ gb462)); clear HB; have HB := n0_; have BK462 := n1_; have GW462 := n2_; have GE462 := n3_; clear n0_ n1_ n2_ n3_; clear hb hbox hg))
 repeat (go_quiet (first | ((with_reducible refine gate_dst (N := 2) rfl ?_); refine box_event ?hg (N := 2) ?hd (cs := #[.slice A0_0 l0_0.length c0_0, .slice A0_1 l0_1.length c0_1, .slice A0_2 l0_2.length c0_2]) (t := 33) ?hr ?_; (case hd => rfl); (case hg => rfl); (case hr => first | (go_simp; done) | (go_simp; rfl)); intro gb462 hg w3 hbox hb; have n0_ := Aside0.mk (below_step (by skip) hb); have n1_ := Aside0.mk (hbox); have n2_ := Aside0.mk ((by rw [hg]; exact (below_size (by skip)) : w.heap.size ≤ gb462)); have n3_ := Aside0.mk ((by rw [hg]; exact (below_size (by skip)) : w.heap.size ≤ gb462)); clear HB; have HB := n0_; have BK462 := n1_; have GW462 := n2_; have GE462 := n3_; clear n0_ n1_ n2_ n3_; clear hb hbox hg)); try go_wp2_with (first | ((with_reducible refine gate_dst (N := 2) rfl ?_); refine box_event ?hg (N := 2) ?hd (cs := #[.slice A0_0 l0_0.length c0_0, .slice A0_1 l0_1.length c0_1, .slice A0_2 l0_2.length c0_2]) (t := 33) ?hr ?_; (case hd => rfl); (case hg => rfl); (case hr => first | (go_simp; done) | (go_simp; rfl)); intro gb462 hg w3 hbox hb; have n0_ := Aside0.mk (below_step (by skip) hb); have n1_ := Aside0.mk (hbox); have n2_ := Aside0.mk ((by rw [hg]; exact (below_size (by skip)) : w.heap.size ≤ gb462)); have n3_ := Aside0.mk ((by rw [hg]; exact (below_size (by skip)) : w.heap.size ≤ gb462)); clear HB; have HB := n0_; have BK462 := n1_; have GW462 := n2_; have GE462 := n3_; clear n0_ n1_ n2_ n3_; clear hb hbox hg)))
 go_loopg [5, 6] k (fun kq v5 v6 w' => ∃ (x5_1 : Int) (x6_1 : Int), v5 = .int .i64 x5_1 ∧ v6 = .int .i64 x6_1 ∧ Aside0 (spec_l04Demand.l0 kq a1 x5_1 x6_1 l0_0 l0_1 l0_2 = some r) ∧ Aside0 (kq ≤ k) ∧ Aside0 (w'.heap[gb462]? = some (.cells #[(.slice A0_0 l0_0.length c0_0), (.slice A0_1 l0_1.length c0_1), (.slice A0_2 l0_2.length c0_2)] 33 (0, 0))) ∧ Aside0 (Below w.heap.size w w'))
 case atStart => exact ⟨(0), (0), (by rfl), (by rfl), H', ⟨Nat.le_refl _⟩, ⟨by exact BK462.out⟩, ⟨by exact HB.out⟩⟩
 clear H'
 obtain ⟨x5_1, x6_1, rfl, rfl, HA, HK1, BK462, HB⟩ := hrel
 cases gk with
 | zero => exact absurd HA.out (by simp [spec_l04Demand.l0])
 | succ k1 =>
  have H := HA.out
  clear HA
  simp only [spec_l04Demand.l0] at H
  by_cases c4 : x6_1 < (l0_0.length : Int)
  rotate_left
  · rw [if_neg c4] at H
    have c4b0 : decide (x6_1 < (l0_0.length : Int)) = false := decide_eq_false c4
    clear c4
    obtain rfl := Option.some.inj H
    have hcz12_0 : wr.cell? ⟨gb462, 0, none⟩ = some (.slice A0_0 l0_0.length c0_0) := (blk_cell BK462.out 0).trans rfl
    have hcz12_1 : wr.cell? ⟨gb462, 1, none⟩ = some (.slice A0_1 l0_1.length c0_1) := (blk_cell BK462.out 1).trans rfl
    have hcz12_2 : wr.cell? ⟨gb462, 2, none⟩ = some (.slice A0_2 l0_2.length c0_2) := (blk_cell BK462.out 2).trans rfl
    have hfz12_0 := blk_frozen BK462.out 0
    have hfz12_1 := blk_frozen BK462.out 1
    have hfz12_2 := blk_frozen BK462.out 2
    go_wp2
    repeat (go_quiet (fail); try go_wp2)
    go_ret
    exact ⟨by rfl, by exact HB.out⟩
  rw [if_pos c4] at H
  have c4b0 : decide (x6_1 < (l0_0.length : Int)) = true := decide_eq_true c4
  clear c4
  by_cases c5 : 0 ≤ x6_1
  rotate_left
  · rw [if_neg c5] at H
    exact absurd H (by simp)
  rw [if_pos c5] at H
  have c5b0 : decide (0 ≤ x6_1) = true := decide_eq_true c5
  clear c5
  by_cases c6 : x6_1 < (l0_2.length : Int)
  rotate_left
  · rw [if_neg c6] at H
    exact absurd H (by simp)
  rw [if_pos c6] at H
  have c6b0 : decide (x6_1 < (l0_2.length : Int)) = true := decide_eq_true c6
  clear c6
  by_cases c7 : a1 ≥ (rd l0_2 x6_1)
  rotate_left
  · rw [if_neg c7] at H
    have c7b0 : decide ((rd l0_2 x6_1) ≤ a1) = false := decide_eq_false c7
    clear c7
    have H' := Aside0.mk H
    clear H
    have hcz11_0 : wr.cell? ⟨gb462, 0, none⟩ = some (.slice A0_0 l0_0.length c0_0) := (blk_cell BK462.out 0).trans rfl
    have hcz11_1 : wr.cell? ⟨gb462, 1, none⟩ = some (.slice A0_1 l0_1.length c0_1) := (blk_cell BK462.out 1).trans rfl
    have hcz11_2 : wr.cell? ⟨gb462, 2, none⟩ = some (.slice A0_2 l0_2.length c0_2) := (blk_cell BK462.out 2).trans rfl
    have hfz11_0 := blk_frozen BK462.out 0
    have hfz11_1 := blk_frozen BK462.out 1
    have hfz11_2 := blk_frozen BK462.out 2
    have p463 : 0 ≤ (x6_1 : Int) := of_decide_eq_true (by (with_reducible assumption))
    have q463 : x6_1 < (l0_2.length : Int) := of_decide_eq_true (by (with_reducible assumption))
    obtain ⟨ad463, e463, hx463_0⟩ := Kd.at_int HR0_2.out x6_1 p463 q463
    cases e463
    replace hx463_0 := (HB.out.cell (World.block_lt_of_cell? w _ hx463_0)).trans hx463_0
    replace p463 := eq_true p463
    replace q463 := eq_true q463
    go_wp2
    repeat (go_quiet (fail); try go_wp2)
    go_roundg k1
    case measure => have := HK1.out; omega
    case rel => exact ⟨(x5_1), (wrap64 (x6_1 + 1)), (by rfl), (by rfl), H', ⟨by have := HK1.out; omega⟩, ⟨by exact BK462.out⟩, ⟨by exact HB.out⟩⟩
  rw [if_pos c7] at H
  have c7b0 : decide ((rd l0_2 x6_1) ≤ a1) = true := decide_eq_true c7
  clear c7
  by_cases c8 : x6_1 < (l0_1.length : Int)
  rotate_left
  · rw [if_neg c8] at H
    exact absurd H (by simp)
  rw [if_pos c8] at H
  have c8b0 : decide (x6_1 < (l0_1.length : Int)) = true := decide_eq_true c8
  clear c8
  by_cases c9 : (rd l0_1 x6_1) = 0
  · rw [if_pos c9] at H
    exact absurd H (by simp)
  rw [if_neg c9] at H
  have c9b0 : ((rd l0_1 x6_1) == 0) = false := beq_eq_false_iff_ne.mpr c9
  have c9b1 : ((rd l0_1 x6_1) != 0) = true := bne_iff_ne.mpr c9
  have H' := Aside0.mk H
  clear H
  have hcz10_0 : wr.cell? ⟨gb462, 0, none⟩ = some (.slice A0_0 l0_0.length c0_0) := (blk_cell BK462.out 0).trans rfl
  have hcz10_1 : wr.cell? ⟨gb462, 1, none⟩ = some (.slice A0_1 l0_1.length c0_1) := (blk_cell BK462.out 1).trans rfl
  have hcz10_2 : wr.cell? ⟨gb462, 2, none⟩ = some (.slice A0_2 l0_2.length c0_2) := (blk_cell BK462.out 2).trans rfl
  have hfz10_0 := blk_frozen BK462.out 0
  have hfz10_1 := blk_frozen BK462.out 1
  have hfz10_2 := blk_frozen BK462.out 2
  have p463 : 0 ≤ (x6_1 : Int) := of_decide_eq_true (by (with_reducible assumption))
  have q463 : x6_1 < (l0_2.length : Int) := of_decide_eq_true (by (with_reducible assumption))
  obtain ⟨ad463, e463, hx463_0⟩ := Kd.at_int HR0_2.out x6_1 p463 q463
  cases e463
  replace hx463_0 := (HB.out.cell (World.block_lt_of_cell? w _ hx463_0)).trans hx463_0
  replace p463 := eq_true p463
  replace q463 := eq_true q463
  have p464 : 0 ≤ (x6_1 : Int) := of_decide_eq_true (by (with_reducible assumption))
  have q464 : x6_1 < (l0_2.length : Int) := of_decide_eq_true (by (with_reducible assumption))
  obtain ⟨ad464, e464, hx464_0⟩ := Kd.at_int HR0_2.out x6_1 p464 q464
  obtain rfl : ad463 = ad464 := (by injection e464)
  replace hx464_0 := (HB.out.cell (World.block_lt_of_cell? w _ hx464_0)).trans hx464_0
  replace p464 := eq_true p464
  replace q464 := eq_true q464
  have p465 : 0 ≤ (x6_1 : Int) := of_decide_eq_true (by (with_reducible assumption))
  have q465 : x6_1 < (l0_1.length : Int) := of_decide_eq_true (by (with_reducible assumption))
  obtain ⟨ad465, e465, hx465_0⟩ := Kd.at_int HR0_1.out x6_1 p465 q465
  cases e465
  replace hx465_0 := (HB.out.cell (World.block_lt_of_cell? w _ hx465_0)).trans hx465_0
  replace p465 := eq_true p465
  replace q465 := eq_true q465
  have p466 : 0 ≤ (x6_1 : Int) := of_decide_eq_true (by (with_reducible assumption))
  have q466 : x6_1 < (l0_0.length : Int) := of_decide_eq_true (by (with_reducible assumption))
  obtain ⟨ad466, e466, hx466_0⟩ := Kd.at_int HR0_0.out x6_1 p466 q466
  cases e466
  replace hx466_0 := (HB.out.cell (World.block_lt_of_cell? w _ hx466_0)).trans hx466_0
  replace p466 := eq_true p466
  replace q466 := eq_true q466
  go_wp2
  repeat (go_quiet (fail); try go_wp2)
  go_roundg k1
  case measure => have := HK1.out; omega
  case rel => exact ⟨(wrap64 (x5_1 + (wrap64 ((wrap64 ((wrap64 (Int.tdiv (wrap64 (a1 - (rd l0_2 x6_1))) (rd l0_1 x6_1))) + 1)) * (rd l0_0 x6_1))))), (wrap64 (x6_1 + 1)), (by rfl), (by rfl), H', ⟨by have := HK1.out; omega⟩, ⟨by (with_reducible repeat (refine blk_drewN ?_ _)); exact BK462.out⟩, ⟨by repeat (with_reducible first | exact HB.out | apply pw_below_drewN)⟩⟩
end Go.Proofs.Ytoakdilhljnjfaa.Q
namespace Go.Proofs.Ytoakdilhljnjfaa.Q
open Go.RowKit Go.Proofs.YtoakdilhljnjfaaW.PrintWords Go.Proofs.YtoakdilhljnjfaaW.PrintLast Go.Proofs.YtoakdilhljnjfaaW.PrintMore
attribute [local go_sem] max2_int min2_int max_two min_two max_three min_three max_four min_four   -- for this text's walks alone
set_option linter.unusedVariables false
set_option linter.unusedSimpArgs false
def spec_l04Room.l0 : Nat → Int → Int → List Int → List Int → List Int → Option (Int)
 | 0, _, _, _, _, _ => none
 | k + 1, x3, x4, x468000, x468001, x468002 => (spec_l04Whole.f k x468000 x468001 x468002).bind fun t469 => (if x4 ≤ t469 then ((spec_l04Demand.f k x468000 x468001 x468002 x4).bind fun t470 => (spec_l04Room.l0 k (mn x3 (wrap64 (x4 - t470))) (wrap64 (x4 + 1)) x468000 x468001 x468002)) else (some x3))
def spec_l04Room.f (k : Nat) (l0_0 : List Int) (l0_1 : List Int) (l0_2 : List Int) : Option (Int) := (spec_l04Demand.f k l0_0 l0_1 l0_2 1).bind fun t468 => (spec_l04Room.l0 k (wrap64 (1 - t468)) 2 l0_0 l0_1 l0_2)
set_option maxHeartbeats 8000000 in
set_option maxRecDepth 100000 in
theorem spec_l04Room.calls (k : Nat) (A0_0 : Option Addr) (c0_0 : Nat) (l0_0 : List Int) (A0_1 : Option Addr) (c0_1 : Nat) (l0_1 : List Int) (A0_2 : Option Addr) (c0_2 : Nat) (l0_2 : List Int) (r : Int) (w : World) (hr0_0 : Kd.C (Kd.int .i64) w A0_0 l0_0.length l0_0) (hc0_0 : l0_0.length ≤ c0_0) (hr0_1 : Kd.C (Kd.int .i64) w A0_1 l0_1.length l0_1) (hc0_1 : l0_1.length ≤ c0_1) (hr0_2 : Kd.C (Kd.int .i64) w A0_2 l0_2.length l0_2) (hc0_2 : l0_2.length ≤ c0_2) (h : spec_l04Room.f k l0_0 l0_1 l0_2 = some r) :
 Calls Try.prog 71 #[.agg #[.slice A0_0 l0_0.length c0_0, .slice A0_1 l0_1.length c0_1, .slice A0_2 l0_2.length c0_2]] w fun e w' => e = .returned (.int .i64 r) ∧ Below w.heap.size w w' := by
 have hu33 := Try.underlying33
 have HR0_0 := Aside0.mk hr0_0
 have HC0_0 := Aside0.mk hc0_0
 clear hr0_0 hc0_0
 have HR0_1 := Aside0.mk hr0_1
 have HC0_1 := Aside0.mk hc0_1
 clear hr0_1 hc0_1
 have HR0_2 := Aside0.mk hr0_2
 have HC0_2 := Aside0.mk hc0_2
 clear hr0_2 hc0_2
 have HB := Aside0.mk (Below.refl w.heap.size w)
 have H : ((spec_l04Demand.f k l0_0 l0_1 l0_2 1).bind fun t468 => (spec_l04Room.l0 k (wrap64 (1 - t468)) 2 l0_0 l0_1 l0_2)) = some r := h
 clear h
 replace H := Option.bind_eq_some_iff.mp H
 obtain ⟨t468, A20, H⟩ := H
 replace H : (spec_l04Room.l0 k (wrap64 (1 - t468)) 2 l0_0 l0_1 l0_2) = some r := H
 have A2 := Aside0.mk A20
 clear A20
 have H' := Aside0.mk H
 clear H
 go_enter Try.func71, Try.ntmps71
 go_wp2_with (first | ((with_reducible refine gate_dst (N := 1) rfl ?_); refine box_event ?hg (N := 1) ?hd (cs := #[.slice A0_0 l0_0.length c0_0, .slice A0_1 l0_1.length c0_1, .slice A0_2 l0_2.length c0_2]) (t := 33) ?hr ?_; (case hd => rfl); (case hg => rfl); (case hr => (go_simp; done)); intro gb467 hg w3 hbox hb; have n0_ := Aside0.mk (below_step HB.out hb); have n1_ := Aside0.mk (hbox); have n2_ := Aside0.mk ((by rw [hg]; exact (below_size HB.out) : w.heap.size ≤ gb467)); have n3_ := Aside0.mk ((by rw [hg]; exact (below_size HB.out) : w.heap.size ≤ gb467)); clear HB; have HB := n0_; have BK467 := n1_; have GW467 := n2_; have GE467 := n3_; clear n0_ n1_ n2_ n3_; clear hb hbox hg; have hcz4_0 : w3.cell? ⟨gb467, 0, none⟩ = some (.slice A0_0 l0_0.length c0_0) := (blk_cell BK467.out 0).trans rfl; have hcz4_1 : w3.cell? ⟨gb467, 1, none⟩ = some (.slice A0_1 l0_1.length c0_1) := (blk_cell BK467.out 1).trans rfl; have hcz4_2 : w3.cell? ⟨gb467, 2, none⟩ = some (.slice A0_2 l0_2.length c0_2) := (blk_cell BK467.out 2).trans rfl; have hfz4_0 := blk_frozen BK467.out 0; have hfz4_1 := blk_frozen BK467.out 1; have hfz4_2 := blk_frozen BK467.out 2) | ((with_reducible refine gate_callee (f := 81) rfl ?_); refine goesL_ (some 6) rfl rfl Try.func81 (by kernel_rfl) rfl #[.agg #[.slice A0_0 l0_0.length c0_0, .slice A0_1 l0_1.length c0_1, .slice A0_2 l0_2.length c0_2], .int .i64 1] rfl (by (try simp only [List.map_toArray, List.map_cons, List.map_nil]); rfl) ?_; (with_reducible refine (spec_l04Demand.calls k _ _ l0_0 _ _ l0_1 _ _ l0_2 1 t468 _ ?side1 ?side2 ?side3 ?side4 ?side5 ?side6 A2.out).mono ?_); (case side1 => exact (Kd.C_below HR0_0.out HB.out)); (case side2 => exact HC0_0.out); (case side3 => exact (Kd.C_below HR0_1.out HB.out)); (case side4 => exact HC0_1.out); (case side5 => exact (Kd.C_below HR0_2.out HB.out)); (case side6 => exact HC0_2.out); rintro e w5 ⟨rfl, hb⟩; refine ⟨_, rfl, ?_⟩; have n0_ := Aside0.mk (blk_below (g := gb467) (o := .cells #[.slice A0_0 l0_0.length c0_0, .slice A0_1 l0_1.length c0_1, .slice A0_2 l0_2.length c0_2] 33 (0, 0)) BK467.out hb); have n1_ := Aside0.mk (below_step HB.out hb); clear BK467; clear HB; have BK467 := n0_; have HB := n1_; clear n0_ n1_; (try clear hb); (try clear hb2); (try clear hk); (try clear hi)))
 go_loopg [3, 4] k (fun kq v3 v4 w' => ∃ (x3_1 : Int) (x4_1 : Int), v3 = .int .i64 x3_1 ∧ v4 = .int .i64 x4_1 ∧ Aside0 (spec_l04Room.l0 kq x3_1 x4_1 l0_0 l0_1 l0_2 = some r) ∧ Aside0 (kq ≤ k) ∧ Aside0 (w'.heap[gb467]? = some (.cells #[(.slice A0_0 l0_0.length c0_0), (.slice A0_1 l0_1.length c0_1), (.slice A0_2 l0_2.length c0_2)] 33 (0, 0))) ∧ Aside0 (Below w.heap.size w w'))
 case atStart => exact ⟨(wrap64 (1 - t468)), (2), (by rfl), (by rfl), H', ⟨Nat.le_refl _⟩, ⟨by exact BK467.out⟩, ⟨by exact HB.out⟩⟩
 clear H'
 clear hcz4_0 hcz4_1 hcz4_2 hfz4_0 hfz4_1 hfz4_2
 obtain ⟨x3_1, x4_1, rfl, rfl, HA, HK1, BK467, HB⟩ := hrel
 cases gk with
 | zero => exact absurd HA.out (by simp [spec_l04Room.l0])
 | succ k1 =>
  have H := HA.out
  clear HA
  simp only [spec_l04Room.l0] at H
  replace H := Option.bind_eq_some_iff.mp H
  obtain ⟨t469, A60, H⟩ := H
  replace H : (if x4_1 ≤ t469 then ((spec_l04Demand.f k1 l0_0 l0_1 l0_2 x4_1).bind fun t470 => (spec_l04Room.l0 k1 (mn x3_1 (wrap64 (x4_1 - t470))) (wrap64 (x4_1 + 1)) l0_0 l0_1 l0_2)) else (some x3_1)) = some r := H
  have A6 := Aside0.mk A60
  clear A60
  by_cases c7 : x4_1 ≤ t469
  rotate_left
  · rw [if_neg c7] at H
    have c7b0 : decide (x4_1 ≤ t469) = false := decide_eq_false c7
    clear c7
    obtain rfl := Option.some.inj H
    have hcz14_0 : wr.cell? ⟨gb467, 0, none⟩ = some (.slice A0_0 l0_0.length c0_0) := (blk_cell BK467.out 0).trans rfl
    have hcz14_1 : wr.cell? ⟨gb467, 1, none⟩ = some (.slice A0_1 l0_1.length c0_1) := (blk_cell BK467.out 1).trans rfl
    have hcz14_2 : wr.cell? ⟨gb467, 2, none⟩ = some (.slice A0_2 l0_2.length c0_2) := (blk_cell BK467.out 2).trans rfl
    have hfz14_0 := blk_frozen BK467.out 0
    have hfz14_1 := blk_frozen BK467.out 1
    have hfz14_2 := blk_frozen BK467.out 2
    go_wp2_with (((with_reducible refine gate_callee (f := 74) rfl ?_); refine goesL_ (some 10) rfl rfl Try.func74 (by kernel_rfl) rfl #[.agg #[.slice A0_0 l0_0.length c0_0, .slice A0_1 l0_1.length c0_1, .slice A0_2 l0_2.length c0_2]] rfl (by (try simp only [List.map_toArray, List.map_cons, List.map_nil]); rfl) ?_; (with_reducible refine (spec_l04Whole.calls k1 _ _ l0_0 _ _ l0_1 _ _ l0_2 t469 _ ?side1 ?side2 ?side3 ?side4 ?side5 ?side6 A6.out).mono ?_); (case side1 => exact (Kd.C_below HR0_0.out HB.out)); (case side2 => exact HC0_0.out); (case side3 => exact (Kd.C_below HR0_1.out HB.out)); (case side4 => exact HC0_1.out); (case side5 => exact (Kd.C_below HR0_2.out HB.out)); (case side6 => exact HC0_2.out); rintro e w15 ⟨rfl, hb⟩; refine ⟨_, rfl, ?_⟩; have n0_ := Aside0.mk (blk_below (g := gb467) (o := .cells #[.slice A0_0 l0_0.length c0_0, .slice A0_1 l0_1.length c0_1, .slice A0_2 l0_2.length c0_2] 33 (0, 0)) BK467.out hb); have n1_ := Aside0.mk (below_step HB.out hb); clear BK467; clear HB; have BK467 := n0_; have HB := n1_; clear n0_ n1_; (try clear hb); (try clear hb2); (try clear hk); (try clear hi)))
    go_ret
    exact ⟨by rfl, by exact HB.out⟩
  rw [if_pos c7] at H
  have c7b0 : decide (x4_1 ≤ t469) = true := decide_eq_true c7
  clear c7
  replace H := Option.bind_eq_some_iff.mp H
  obtain ⟨t470, A80, H⟩ := H
  replace H : (spec_l04Room.l0 k1 (mn x3_1 (wrap64 (x4_1 - t470))) (wrap64 (x4_1 + 1)) l0_0 l0_1 l0_2) = some r := H
  have A8 := Aside0.mk A80
  clear A80
  obtain ⟨ji9, hji9⟩ : ∃ j_ : Int, (mn x3_1 (wrap64 (x4_1 - t470))) = j_ := ⟨_, rfl⟩
  replace H : (spec_l04Room.l0 k1 ji9 (wrap64 (x4_1 + 1)) l0_0 l0_1 l0_2) = some r := by (rw [hji9] at H; exact H)
  (try rw [hji9] at A6)
  (try rw [hji9] at A8)
  have hji9_ : (if (wrap64 (x4_1 - t470)) < x3_1 then (wrap64 (x4_1 - t470)) else x3_1) = ji9 := hji9
  have H' := Aside0.mk H
  clear H
  have hcz10_0 : wr.cell? ⟨gb467, 0, none⟩ = some (.slice A0_0 l0_0.length c0_0) := (blk_cell BK467.out 0).trans rfl
  have hcz10_1 : wr.cell? ⟨gb467, 1, none⟩ = some (.slice A0_1 l0_1.length c0_1) := (blk_cell BK467.out 1).trans rfl
  have hcz10_2 : wr.cell? ⟨gb467, 2, none⟩ = some (.slice A0_2 l0_2.length c0_2) := (blk_cell BK467.out 2).trans rfl
  have hfz10_0 := blk_frozen BK467.out 0
  have hfz10_1 := blk_frozen BK467.out 1
  have hfz10_2 := blk_frozen BK467.out 2
  go_wp2_with (first | ((with_reducible refine gate_callee (f := 74) rfl ?_); refine goesL_ (some 10) rfl rfl Try.func74 (by kernel_rfl) rfl #[.agg #[.slice A0_0 l0_0.length c0_0, .slice A0_1 l0_1.length c0_1, .slice A0_2 l0_2.length c0_2]] rfl (by (try simp only [List.map_toArray, List.map_cons, List.map_nil]); rfl) ?_; (with_reducible refine (spec_l04Whole.calls k1 _ _ l0_0 _ _ l0_1 _ _ l0_2 t469 _ ?side1 ?side2 ?side3 ?side4 ?side5 ?side6 A6.out).mono ?_); (case side1 => exact (Kd.C_below HR0_0.out HB.out)); (case side2 => exact HC0_0.out); (case side3 => exact (Kd.C_below HR0_1.out HB.out)); (case side4 => exact HC0_1.out); (case side5 => exact (Kd.C_below HR0_2.out HB.out)); (case side6 => exact HC0_2.out); rintro e w11 ⟨rfl, hb⟩; refine ⟨_, rfl, ?_⟩; have n0_ := Aside0.mk (blk_below (g := gb467) (o := .cells #[.slice A0_0 l0_0.length c0_0, .slice A0_1 l0_1.length c0_1, .slice A0_2 l0_2.length c0_2] 33 (0, 0)) BK467.out hb); have n1_ := Aside0.mk (below_step HB.out hb); clear BK467; clear HB; have BK467 := n0_; have HB := n1_; clear n0_ n1_; (try clear hb); (try clear hb2); (try clear hk); (try clear hi); have hcz12_0 : w11.cell? ⟨gb467, 0, none⟩ = some (.slice A0_0 l0_0.length c0_0) := (blk_cell BK467.out 0).trans rfl; have hcz12_1 : w11.cell? ⟨gb467, 1, none⟩ = some (.slice A0_1 l0_1.length c0_1) := (blk_cell BK467.out 1).trans rfl; have hcz12_2 : w11.cell? ⟨gb467, 2, none⟩ = some (.slice A0_2 l0_2.length c0_2) := (blk_cell BK467.out 2).trans rfl; have hfz12_0 := blk_frozen BK467.out 0; have hfz12_1 := blk_frozen BK467.out 1; have hfz12_2 := blk_frozen BK467.out 2) | ((with_reducible refine gate_callee (f := 81) rfl ?_); refine goesL_ (some 18) rfl rfl Try.func81 (by kernel_rfl) rfl #[.agg #[.slice A0_0 l0_0.length c0_0, .slice A0_1 l0_1.length c0_1, .slice A0_2 l0_2.length c0_2], .int .i64 x4_1] rfl (by (try simp only [List.map_toArray, List.map_cons, List.map_nil]); rfl) ?_; (with_reducible refine (spec_l04Demand.calls k1 _ _ l0_0 _ _ l0_1 _ _ l0_2 x4_1 t470 _ ?side1 ?side2 ?side3 ?side4 ?side5 ?side6 A8.out).mono ?_); (case side1 => exact (Kd.C_below HR0_0.out HB.out)); (case side2 => exact HC0_0.out); (case side3 => exact (Kd.C_below HR0_1.out HB.out)); (case side4 => exact HC0_1.out); (case side5 => exact (Kd.C_below HR0_2.out HB.out)); (case side6 => exact HC0_2.out); rintro e w13 ⟨rfl, hb⟩; refine ⟨_, rfl, ?_⟩; have n0_ := Aside0.mk (blk_below (g := gb467) (o := .cells #[.slice A0_0 l0_0.length c0_0, .slice A0_1 l0_1.length c0_1, .slice A0_2 l0_2.length c0_2] 33 (0, 0)) BK467.out hb); have n1_ := Aside0.mk (below_step HB.out hb); clear BK467; clear HB; have BK467 := n0_; have HB := n1_; clear n0_ n1_; (try clear hb); (try clear hb2); (try clear hk); (try clear hi)))
  go_roundg k1
  case measure => have := HK1.out; omega
  case rel => exact ⟨(ji9), (wrap64 (x4_1 + 1)), (by rfl), (by rfl), H', ⟨by have := HK1.out; omega⟩, ⟨by exact BK467.out⟩, ⟨by exact HB.out⟩⟩
end Go.Proofs.Ytoakdilhljnjfaa.Q
namespace Go.Proofs.Ytoakdilhljnjfaa.Q
open Go.RowKit Go.Proofs.YtoakdilhljnjfaaW.PrintWords Go.Proofs.YtoakdilhljnjfaaW.PrintLast Go.Proofs.YtoakdilhljnjfaaW.PrintMore
attribute [local go_sem] max2_int min2_int max_two min_two max_three min_three max_four min_four   -- for this text's walks alone
set_option linter.unusedVariables false
set_option linter.unusedSimpArgs false
def spec_RoomOf.f (k : Nat) (l0_0 : List Int) (l0_1 : List Int) (l0_2 : List Int) : Option (Int × Int) := (spec_l04Code.f k l0_0 l0_1 l0_2).bind fun t472 => (if t472 = 0 then ((spec_l04Room.f k l0_0 l0_1 l0_2).bind fun t473 => (some (t473, 0))) else (some (0, t472)))
set_option maxHeartbeats 8000000 in
set_option maxRecDepth 100000 in
theorem spec_RoomOf.calls (k : Nat) (A0_0 : Option Addr) (c0_0 : Nat) (l0_0 : List Int) (A0_1 : Option Addr) (c0_1 : Nat) (l0_1 : List Int) (A0_2 : Option Addr) (c0_2 : Nat) (l0_2 : List Int) (r1 : Int) (r2 : Int) (w : World) (hr0_0 : Kd.C (Kd.int .i64) w A0_0 l0_0.length l0_0) (hc0_0 : l0_0.length ≤ c0_0) (hr0_1 : Kd.C (Kd.int .i64) w A0_1 l0_1.length l0_1) (hc0_1 : l0_1.length ≤ c0_1) (hr0_2 : Kd.C (Kd.int .i64) w A0_2 l0_2.length l0_2) (hc0_2 : l0_2.length ≤ c0_2) (h : spec_RoomOf.f k l0_0 l0_1 l0_2 = some (r1, r2)) :
 Calls Try.prog 30 #[.agg #[.slice A0_0 l0_0.length c0_0, .slice A0_1 l0_1.length c0_1, .slice A0_2 l0_2.length c0_2]] w fun e w' => e = .returned (.tuple #[.int .i64 r1, .int .i64 r2]) ∧ Below w.heap.size w w' := by
 have hu33 := Try.underlying33
 have HR0_0 := Aside0.mk hr0_0
 have HC0_0 := Aside0.mk hc0_0
 clear hr0_0 hc0_0
 have HR0_1 := Aside0.mk hr0_1
 have HC0_1 := Aside0.mk hc0_1
 clear hr0_1 hc0_1
 have HR0_2 := Aside0.mk hr0_2
 have HC0_2 := Aside0.mk hc0_2
 clear hr0_2 hc0_2
 have HB := Aside0.mk (Below.refl w.heap.size w)
 have H : ((spec_l04Code.f k l0_0 l0_1 l0_2).bind fun t472 => (if t472 = 0 then ((spec_l04Room.f k l0_0 l0_1 l0_2).bind fun t473 => (some (t473, 0))) else (some (0, t472)))) = some (r1, r2) := h
 clear h
 replace H := Option.bind_eq_some_iff.mp H
 obtain ⟨t472, A20, H⟩ := H
 replace H : (if t472 = 0 then ((spec_l04Room.f k l0_0 l0_1 l0_2).bind fun t473 => (some (t473, 0))) else (some (0, t472))) = some (r1, r2) := H
 have A2 := Aside0.mk A20
 clear A20
 by_cases c3 : t472 = 0
 rotate_left
 · rw [if_neg c3] at H
   have c3b0 : (t472 == 0) = false := beq_eq_false_iff_ne.mpr c3
   have c3b1 : (t472 != 0) = true := bne_iff_ne.mpr c3
   simp only [Option.some.injEq, Prod.mk.injEq] at H
   obtain ⟨rfl, rfl⟩ := H
   go_enter Try.func30, Try.ntmps30
   go_wp2_with (first | ((with_reducible refine gate_dst (N := 1) rfl ?_); refine box_event ?hg (N := 1) ?hd (cs := #[.slice A0_0 l0_0.length c0_0, .slice A0_1 l0_1.length c0_1, .slice A0_2 l0_2.length c0_2]) (t := 33) ?hr ?_; (case hd => rfl); (case hg => rfl); (case hr => (go_simp; done)); intro gb471 hg w10 hbox hb; have n0_ := Aside0.mk (below_step HB.out hb); have n1_ := Aside0.mk (hbox); have n2_ := Aside0.mk ((by rw [hg]; exact (below_size HB.out) : w.heap.size ≤ gb471)); have n3_ := Aside0.mk ((by rw [hg]; exact (below_size HB.out) : w.heap.size ≤ gb471)); clear HB; have HB := n0_; have BK471 := n1_; have GW471 := n2_; have GE471 := n3_; clear n0_ n1_ n2_ n3_; clear hb hbox hg; have hcz11_0 : w10.cell? ⟨gb471, 0, none⟩ = some (.slice A0_0 l0_0.length c0_0) := (blk_cell BK471.out 0).trans rfl; have hcz11_1 : w10.cell? ⟨gb471, 1, none⟩ = some (.slice A0_1 l0_1.length c0_1) := (blk_cell BK471.out 1).trans rfl; have hcz11_2 : w10.cell? ⟨gb471, 2, none⟩ = some (.slice A0_2 l0_2.length c0_2) := (blk_cell BK471.out 2).trans rfl; have hfz11_0 := blk_frozen BK471.out 0; have hfz11_1 := blk_frozen BK471.out 1; have hfz11_2 := blk_frozen BK471.out 2) | ((with_reducible refine gate_callee (f := 68) rfl ?_); refine goesL_ (some 6) rfl rfl Try.func68 (by kernel_rfl) rfl #[.agg #[.slice A0_0 l0_0.length c0_0, .slice A0_1 l0_1.length c0_1, .slice A0_2 l0_2.length c0_2]] rfl (by (try simp only [List.map_toArray, List.map_cons, List.map_nil]); rfl) ?_; (with_reducible refine (spec_l04Code.calls k _ _ l0_0 _ _ l0_1 _ _ l0_2 t472 _ ?side1 ?side2 ?side3 ?side4 ?side5 ?side6 A2.out).mono ?_); (case side1 => exact (Kd.C_below HR0_0.out HB.out)); (case side2 => exact HC0_0.out); (case side3 => exact (Kd.C_below HR0_1.out HB.out)); (case side4 => exact HC0_1.out); (case side5 => exact (Kd.C_below HR0_2.out HB.out)); (case side6 => exact HC0_2.out); rintro e w12 ⟨rfl, hb⟩; refine ⟨_, rfl, ?_⟩; have n0_ := Aside0.mk (blk_below (g := gb471) (o := .cells #[.slice A0_0 l0_0.length c0_0, .slice A0_1 l0_1.length c0_1, .slice A0_2 l0_2.length c0_2] 33 (0, 0)) BK471.out hb); have n1_ := Aside0.mk (below_step HB.out hb); clear BK471; clear HB; have BK471 := n0_; have HB := n1_; clear n0_ n1_; (try clear hb); (try clear hb2); (try clear hk); (try clear hi)))
   go_ret2
   exact ⟨by rfl, by exact HB.out⟩
 rw [if_pos c3] at H
 have c3b0 : (t472 == 0) = true := beq_iff_eq.mpr c3
 have c3b1 : (t472 != 0) = false := bne_eq_false_iff_eq.mpr c3
 clear c3
 replace H := Option.bind_eq_some_iff.mp H
 obtain ⟨t473, A40, H⟩ := H
 replace H : (some (t473, 0)) = some (r1, r2) := H
 have A4 := Aside0.mk A40
 clear A40
 simp only [Option.some.injEq, Prod.mk.injEq] at H
 obtain ⟨rfl, rfl⟩ := H
 go_enter Try.func30, Try.ntmps30
 go_wp2_with (first | ((with_reducible refine gate_dst (N := 1) rfl ?_); refine box_event ?hg (N := 1) ?hd (cs := #[.slice A0_0 l0_0.length c0_0, .slice A0_1 l0_1.length c0_1, .slice A0_2 l0_2.length c0_2]) (t := 33) ?hr ?_; (case hd => rfl); (case hg => rfl); (case hr => (go_simp; done)); intro gb471 hg w5 hbox hb; have n0_ := Aside0.mk (below_step HB.out hb); have n1_ := Aside0.mk (hbox); have n2_ := Aside0.mk ((by rw [hg]; exact (below_size HB.out) : w.heap.size ≤ gb471)); have n3_ := Aside0.mk ((by rw [hg]; exact (below_size HB.out) : w.heap.size ≤ gb471)); clear HB; have HB := n0_; have BK471 := n1_; have GW471 := n2_; have GE471 := n3_; clear n0_ n1_ n2_ n3_; clear hb hbox hg; have hcz6_0 : w5.cell? ⟨gb471, 0, none⟩ = some (.slice A0_0 l0_0.length c0_0) := (blk_cell BK471.out 0).trans rfl; have hcz6_1 : w5.cell? ⟨gb471, 1, none⟩ = some (.slice A0_1 l0_1.length c0_1) := (blk_cell BK471.out 1).trans rfl; have hcz6_2 : w5.cell? ⟨gb471, 2, none⟩ = some (.slice A0_2 l0_2.length c0_2) := (blk_cell BK471.out 2).trans rfl; have hfz6_0 := blk_frozen BK471.out 0; have hfz6_1 := blk_frozen BK471.out 1; have hfz6_2 := blk_frozen BK471.out 2) | ((with_reducible refine gate_callee (f := 68) rfl ?_); refine goesL_ (some 6) rfl rfl Try.func68 (by kernel_rfl) rfl #[.agg #[.slice A0_0 l0_0.length c0_0, .slice A0_1 l0_1.length c0_1, .slice A0_2 l0_2.length c0_2]] rfl (by (try simp only [List.map_toArray, List.map_cons, List.map_nil]); rfl) ?_; (with_reducible refine (spec_l04Code.calls k _ _ l0_0 _ _ l0_1 _ _ l0_2 t472 _ ?side1 ?side2 ?side3 ?side4 ?side5 ?side6 A2.out).mono ?_); (case side1 => exact (Kd.C_below HR0_0.out HB.out)); (case side2 => exact HC0_0.out); (case side3 => exact (Kd.C_below HR0_1.out HB.out)); (case side4 => exact HC0_1.out); (case side5 => exact (Kd.C_below HR0_2.out HB.out)); (case side6 => exact HC0_2.out); rintro e w7 ⟨rfl, hb⟩; refine ⟨_, rfl, ?_⟩; have n0_ := Aside0.mk (blk_below (g := gb471) (o := .cells #[.slice A0_0 l0_0.length c0_0, .slice A0_1 l0_1.length c0_1, .slice A0_2 l0_2.length c0_2] 33 (0, 0)) BK471.out hb); have n1_ := Aside0.mk (below_step HB.out hb); clear BK471; clear HB; have BK471 := n0_; have HB := n1_; clear n0_ n1_; (try clear hb); (try clear hb2); (try clear hk); (try clear hi); have hcz8_0 : w7.cell? ⟨gb471, 0, none⟩ = some (.slice A0_0 l0_0.length c0_0) := (blk_cell BK471.out 0).trans rfl; have hcz8_1 : w7.cell? ⟨gb471, 1, none⟩ = some (.slice A0_1 l0_1.length c0_1) := (blk_cell BK471.out 1).trans rfl; have hcz8_2 : w7.cell? ⟨gb471, 2, none⟩ = some (.slice A0_2 l0_2.length c0_2) := (blk_cell BK471.out 2).trans rfl; have hfz8_0 := blk_frozen BK471.out 0; have hfz8_1 := blk_frozen BK471.out 1; have hfz8_2 := blk_frozen BK471.out 2) | ((with_reducible refine gate_callee (f := 71) rfl ?_); refine goesL_ (some 11) rfl rfl Try.func71 (by kernel_rfl) rfl #[.agg #[.slice A0_0 l0_0.length c0_0, .slice A0_1 l0_1.length c0_1, .slice A0_2 l0_2.length c0_2]] rfl (by (try simp only [List.map_toArray, List.map_cons, List.map_nil]); rfl) ?_; (with_reducible refine (spec_l04Room.calls k _ _ l0_0 _ _ l0_1 _ _ l0_2 t473 _ ?side1 ?side2 ?side3 ?side4 ?side5 ?side6 A4.out).mono ?_); (case side1 => exact (Kd.C_below HR0_0.out HB.out)); (case side2 => exact HC0_0.out); (case side3 => exact (Kd.C_below HR0_1.out HB.out)); (case side4 => exact HC0_1.out); (case side5 => exact (Kd.C_below HR0_2.out HB.out)); (case side6 => exact HC0_2.out); rintro e w9 ⟨rfl, hb⟩; refine ⟨_, rfl, ?_⟩; have n0_ := Aside0.mk (blk_below (g := gb471) (o := .cells #[.slice A0_0 l0_0.length c0_0, .slice A0_1 l0_1.length c0_1, .slice A0_2 l0_2.length c0_2] 33 (0, 0)) BK471.out hb); have n1_ := Aside0.mk (below_step HB.out hb); clear BK471; clear HB; have BK471 := n0_; have HB := n1_; clear n0_ n1_; (try clear hb); (try clear hb2); (try clear hk); (try clear hi)))
 go_ret2
 exact ⟨by rfl, by exact HB.out⟩
end Go.Proofs.Ytoakdilhljnjfaa.Q
namespace Go.Proofs.Ytoakdilhljnjfaa.Q
open Go.RowKit Go.Proofs.YtoakdilhljnjfaaW.PrintWords Go.Proofs.YtoakdilhljnjfaaW.PrintLast Go.Proofs.YtoakdilhljnjfaaW.PrintMore
attribute [local go_sem] max2_int min2_int max_two min_two max_three min_three max_four min_four   -- for this text's walks alone
set_option linter.unusedVariables false
set_option linter.unusedSimpArgs false
def spec_LoadOf.l0 : Nat → Int → Int → Int → List Int → List Int → List Int → Option (Int × Int × Int)
 | 0, _, _, _, _, _, _ => none
 | k + 1, x5, x6, x7, x503000, x503001, x503002 => if x7 < (x503000.length : Int) then (if 0 ≤ x7 then (if x7 < (x503001.length : Int) then ((spec_l01Lowest.f k (wrap64 ((wrap64 (x5 * (rd x503001 x7))) + (wrap64 ((rd x503000 x7) * x6)))) (wrap64 (x6 * (rd x503001 x7)))).bind fun bt507 => (spec_LoadOf.l0 k bt507.1 bt507.2 (wrap64 (x7 + 1)) x503000 x503001 x503002)) else (none)) else (none)) else (some (x5, x6, 0))
def spec_LoadOf.f (k : Nat) (l0_0 : List Int) (l0_1 : List Int) (l0_2 : List Int) : Option (Int × Int × Int) := (spec_l04Is.f k l0_0 l0_1 l0_2).bind fun t503 => (if t503 = true then (spec_LoadOf.l0 k 0 1 0 l0_0 l0_1 l0_2) else (some (0, 0, 1)))
set_option maxHeartbeats 8000000 in
set_option maxRecDepth 100000 in
theorem spec_LoadOf.calls (k : Nat) (A0_0 : Option Addr) (c0_0 : Nat) (l0_0 : List Int) (A0_1 : Option Addr) (c0_1 : Nat) (l0_1 : List Int) (A0_2 : Option Addr) (c0_2 : Nat) (l0_2 : List Int) (r1 : Int) (r2 : Int) (r3 : Int) (w : World) (hr0_0 : Kd.C (Kd.int .i64) w A0_0 l0_0.length l0_0) (hc0_0 : l0_0.length ≤ c0_0) (hr0_1 : Kd.C (Kd.int .i64) w A0_1 l0_1.length l0_1) (hc0_1 : l0_1.length ≤ c0_1) (hr0_2 : Kd.C (Kd.int .i64) w A0_2 l0_2.length l0_2) (hc0_2 : l0_2.length ≤ c0_2) (h : spec_LoadOf.f k l0_0 l0_1 l0_2 = some (r1, r2, r3)) :
 Calls Try.prog 36 #[.agg #[.slice A0_0 l0_0.length c0_0, .slice A0_1 l0_1.length c0_1, .slice A0_2 l0_2.length c0_2]] w fun e w' => e = .returned (.tuple #[.int .i64 r1, .int .i64 r2, .int .i64 r3]) ∧ Below w.heap.size w w' := by
 have hu33 := Try.underlying33
 have HR0_0 := Aside0.mk hr0_0
 have HC0_0 := Aside0.mk hc0_0
 clear hr0_0 hc0_0
 have HR0_1 := Aside0.mk hr0_1
 have HC0_1 := Aside0.mk hc0_1
 clear hr0_1 hc0_1
 have HR0_2 := Aside0.mk hr0_2
 have HC0_2 := Aside0.mk hc0_2
 clear hr0_2 hc0_2
 have HB := Aside0.mk (Below.refl w.heap.size w)
 have H : ((spec_l04Is.f k l0_0 l0_1 l0_2).bind fun t503 => (if t503 = true then (spec_LoadOf.l0 k 0 1 0 l0_0 l0_1 l0_2) else (some (0, 0, 1)))) = some (r1, r2, r3) := h
 clear h
 replace H := Option.bind_eq_some_iff.mp H
 obtain ⟨t503, A20, H⟩ := H
 replace H : (if t503 = true then (spec_LoadOf.l0 k 0 1 0 l0_0 l0_1 l0_2) else (some (0, 0, 1))) = some (r1, r2, r3) := H
 have A2 := Aside0.mk A20
 clear A20
 by_cases c3 : t503 = true
 rotate_left
 · replace c3 := Bool.eq_false_iff.mpr c3
   subst c3
   have H1 : (some (0, 0, 1)) = some (r1, r2, r3) := by rw [if_neg (show ¬ (false = true) by decide)] at H; exact H
   clear H
   have H := H1
   clear H1
   simp only [Option.some.injEq, Prod.mk.injEq] at H
   obtain ⟨rfl, rfl, rfl⟩ := H
   go_enter Try.func36, Try.ntmps36
   go_wp2_with (first | ((with_reducible refine gate_dst (N := 1) rfl ?_); refine box_event ?hg (N := 1) ?hd (cs := #[.slice A0_0 l0_0.length c0_0, .slice A0_1 l0_1.length c0_1, .slice A0_2 l0_2.length c0_2]) (t := 33) ?hr ?_; (case hd => rfl); (case hg => rfl); (case hr => (go_simp; done)); intro gb502 hg w13 hbox hb; have n0_ := Aside0.mk (below_step HB.out hb); have n1_ := Aside0.mk (hbox); have n2_ := Aside0.mk ((by rw [hg]; exact (below_size HB.out) : w.heap.size ≤ gb502)); have n3_ := Aside0.mk ((by rw [hg]; exact (below_size HB.out) : w.heap.size ≤ gb502)); clear HB; have HB := n0_; have BK502 := n1_; have GW502 := n2_; have GE502 := n3_; clear n0_ n1_ n2_ n3_; clear hb hbox hg; have hcz14_0 : w13.cell? ⟨gb502, 0, none⟩ = some (.slice A0_0 l0_0.length c0_0) := (blk_cell BK502.out 0).trans rfl; have hcz14_1 : w13.cell? ⟨gb502, 1, none⟩ = some (.slice A0_1 l0_1.length c0_1) := (blk_cell BK502.out 1).trans rfl; have hcz14_2 : w13.cell? ⟨gb502, 2, none⟩ = some (.slice A0_2 l0_2.length c0_2) := (blk_cell BK502.out 2).trans rfl; have hfz14_0 := blk_frozen BK502.out 0; have hfz14_1 := blk_frozen BK502.out 1; have hfz14_2 := blk_frozen BK502.out 2) | (go_at_call 55; (with_reducible refine (spec_l04Is.calls k _ _ l0_0 _ _ l0_1 _ _ l0_2 false _ ?side1 ?side2 ?side3 ?side4 ?side5 ?side6 A2.out).mono ?_); (case side1 => exact (Kd.C_below HR0_0.out HB.out)); (case side2 => exact HC0_0.out); (case side3 => exact (Kd.C_below HR0_1.out HB.out)); (case side4 => exact HC0_1.out); (case side5 => exact (Kd.C_below HR0_2.out HB.out)); (case side6 => exact HC0_2.out); rintro e w15 ⟨rfl, hb⟩; have n0_ := Aside0.mk (blk_below (g := gb502) (o := .cells #[.slice A0_0 l0_0.length c0_0, .slice A0_1 l0_1.length c0_1, .slice A0_2 l0_2.length c0_2] 33 (0, 0)) BK502.out hb); have n1_ := Aside0.mk (below_step HB.out hb); clear BK502; clear HB; have BK502 := n0_; have HB := n1_; clear n0_ n1_; (try clear hb); (try clear hb2); (try clear hk); (try clear hi)))
   repeat (go_quiet (first | ((with_reducible refine gate_dst (N := 1) rfl ?_); refine box_event ?hg (N := 1) ?hd (cs := #[.slice A0_0 l0_0.length c0_0, .slice A0_1 l0_1.length c0_1, .slice A0_2 l0_2.length c0_2]) (t := 33) ?hr ?_; (case hd => rfl); (case hg => rfl); (case hr => first | (go_simp; done) | (go_simp; rfl)); intro gb502 hg w13 hbox hb; have n0_ := Aside0.mk (below_step (by skip) hb); have n1_ := Aside0.mk (hbox); have n2_ := Aside0.mk ((by rw [hg]; exact (below_size (by skip)) : w.heap.size ≤ gb502)); have n3_ := Aside0.mk ((by rw [hg]; exact (below_size (by skip)) : w.heap.size ≤ gb502)); clear HB; have HB := n0_; have BK502 := n1_; have GW502 := n2_; have GE502 := n3_; clear n0_ n1_ n2_ n3_; clear hb hbox hg; have hcz14_0 : w13.cell? ⟨gb502, 0, none⟩ = some (.slice A0_0 l0_0.length c0_0) := (blk_cell BK502.out 0).trans rfl; have hcz14_1 : w13.cell? ⟨gb502, 1, none⟩ = some (.slice A0_1 l0_1.length c0_1) := (blk_cell BK502.out 1).trans rfl; have hcz14_2 : w13.cell? ⟨gb502, 2, none⟩ = some (.slice A0_2 l0_2.length c0_2) := (blk_cell BK502.out 2).trans rfl; have hfz14_0 := blk_frozen BK502.out 0; have hfz14_1 := blk_frozen BK502.out 1; have hfz14_2 := blk_frozen BK502.out 2) | (go_at_call 55; (with_reducible refine (spec_l04Is.calls k _ _ l0_0 _ _ l0_1 _ _ l0_2 false _ ?side1 ?side2 ?side3 ?side4 ?side5 ?side6 A2.out).mono ?_); (case side1 => skip); (case side2 => exact HC0_0.out); (case side3 => skip); (case side4 => exact HC0_1.out); (case side5 => skip); (case side6 => exact HC0_2.out); rintro e w15 ⟨rfl, hb⟩; have n0_ := Aside0.mk (blk_below (g := gb502) (o := .cells #[.slice A0_0 l0_0.length c0_0, .slice A0_1 l0_1.length c0_1, .slice A0_2 l0_2.length c0_2] 33 (0, 0)) BK502.out hb); have n1_ := Aside0.mk (below_step (by skip) hb); clear BK502; clear HB; have BK502 := n0_; have HB := n1_; clear n0_ n1_; (try clear hb); (try clear hb2); (try clear hk); (try clear hi))); try go_wp2_with (first | ((with_reducible refine gate_dst (N := 1) rfl ?_); refine box_event ?hg (N := 1) ?hd (cs := #[.slice A0_0 l0_0.length c0_0, .slice A0_1 l0_1.length c0_1, .slice A0_2 l0_2.length c0_2]) (t := 33) ?hr ?_; (case hd => rfl); (case hg => rfl); (case hr => first | (go_simp; done) | (go_simp; rfl)); intro gb502 hg w13 hbox hb; have n0_ := Aside0.mk (below_step (by skip) hb); have n1_ := Aside0.mk (hbox); have n2_ := Aside0.mk ((by rw [hg]; exact (below_size (by skip)) : w.heap.size ≤ gb502)); have n3_ := Aside0.mk ((by rw [hg]; exact (below_size (by skip)) : w.heap.size ≤ gb502)); clear HB; have HB := n0_; have BK502 := n1_; have GW502 := n2_; have GE502 := n3_; clear n0_ n1_ n2_ n3_; clear hb hbox hg; have hcz14_0 : w13.cell? ⟨gb502, 0, none⟩ = some (.slice A0_0 l0_0.length c0_0) := (blk_cell BK502.out 0).trans rfl; have hcz14_1 : w13.cell? ⟨gb502, 1, none⟩ = some (.slice A0_1 l0_1.length c0_1) := (blk_cell BK502.out 1).trans rfl; have hcz14_2 : w13.cell? ⟨gb502, 2, none⟩ = some (.slice A0_2 l0_2.length c0_2) := (blk_cell BK502.out 2).trans rfl; have hfz14_0 := blk_frozen BK502.out 0; have hfz14_1 := blk_frozen BK502.out 1; have hfz14_2 := blk_frozen BK502.out 2) | (go_at_call 55; (with_reducible refine (spec_l04Is.calls k _ _ l0_0 _ _ l0_1 _ _ l0_2 false _ ?side1 ?side2 ?side3 ?side4 ?side5 ?side6 A2.out).mono ?_); (case side1 => skip); (case side2 => exact HC0_0.out); (case side3 => skip); (case side4 => exact HC0_1.out); (case side5 => skip); (case side6 => exact HC0_2.out); rintro e w15 ⟨rfl, hb⟩; have n0_ := Aside0.mk (blk_below (g := gb502) (o := .cells #[.slice A0_0 l0_0.length c0_0, .slice A0_1 l0_1.length c0_1, .slice A0_2 l0_2.length c0_2] 33 (0, 0)) BK502.out hb); have n1_ := Aside0.mk (below_step (by skip) hb); clear BK502; clear HB; have BK502 := n0_; have HB := n1_; clear n0_ n1_; (try clear hb); (try clear hb2); (try clear hk); (try clear hi))))
   go_ret3
   exact ⟨by rfl, by exact HB.out⟩
 subst c3
 have H1 : (spec_LoadOf.l0 k 0 1 0 l0_0 l0_1 l0_2) = some (r1, r2, r3) := by rw [if_pos rfl] at H; exact H
 clear H
 have H := H1
 clear H1
 have H' := Aside0.mk H
 clear H
 go_enter Try.func36, Try.ntmps36
 go_wp2_with (first | ((with_reducible refine gate_dst (N := 1) rfl ?_); refine box_event ?hg (N := 1) ?hd (cs := #[.slice A0_0 l0_0.length c0_0, .slice A0_1 l0_1.length c0_1, .slice A0_2 l0_2.length c0_2]) (t := 33) ?hr ?_; (case hd => rfl); (case hg => rfl); (case hr => (go_simp; done)); intro gb502 hg w4 hbox hb; have n0_ := Aside0.mk (below_step HB.out hb); have n1_ := Aside0.mk (hbox); have n2_ := Aside0.mk ((by rw [hg]; exact (below_size HB.out) : w.heap.size ≤ gb502)); have n3_ := Aside0.mk ((by rw [hg]; exact (below_size HB.out) : w.heap.size ≤ gb502)); clear HB; have HB := n0_; have BK502 := n1_; have GW502 := n2_; have GE502 := n3_; clear n0_ n1_ n2_ n3_; clear hb hbox hg; have hcz5_0 : w4.cell? ⟨gb502, 0, none⟩ = some (.slice A0_0 l0_0.length c0_0) := (blk_cell BK502.out 0).trans rfl; have hcz5_1 : w4.cell? ⟨gb502, 1, none⟩ = some (.slice A0_1 l0_1.length c0_1) := (blk_cell BK502.out 1).trans rfl; have hcz5_2 : w4.cell? ⟨gb502, 2, none⟩ = some (.slice A0_2 l0_2.length c0_2) := (blk_cell BK502.out 2).trans rfl; have hfz5_0 := blk_frozen BK502.out 0; have hfz5_1 := blk_frozen BK502.out 1; have hfz5_2 := blk_frozen BK502.out 2) | (go_at_call 55; (with_reducible refine (spec_l04Is.calls k _ _ l0_0 _ _ l0_1 _ _ l0_2 true _ ?side1 ?side2 ?side3 ?side4 ?side5 ?side6 A2.out).mono ?_); (case side1 => exact (Kd.C_below HR0_0.out HB.out)); (case side2 => exact HC0_0.out); (case side3 => exact (Kd.C_below HR0_1.out HB.out)); (case side4 => exact HC0_1.out); (case side5 => exact (Kd.C_below HR0_2.out HB.out)); (case side6 => exact HC0_2.out); rintro e w6 ⟨rfl, hb⟩; have n0_ := Aside0.mk (blk_below (g := gb502) (o := .cells #[.slice A0_0 l0_0.length c0_0, .slice A0_1 l0_1.length c0_1, .slice A0_2 l0_2.length c0_2] 33 (0, 0)) BK502.out hb); have n1_ := Aside0.mk (below_step HB.out hb); clear BK502; clear HB; have BK502 := n0_; have HB := n1_; clear n0_ n1_; (try clear hb); (try clear hb2); (try clear hk); (try clear hi)))
 repeat (go_quiet (first | ((with_reducible refine gate_dst (N := 1) rfl ?_); refine box_event ?hg (N := 1) ?hd (cs := #[.slice A0_0 l0_0.length c0_0, .slice A0_1 l0_1.length c0_1, .slice A0_2 l0_2.length c0_2]) (t := 33) ?hr ?_; (case hd => rfl); (case hg => rfl); (case hr => first | (go_simp; done) | (go_simp; rfl)); intro gb502 hg w4 hbox hb; have n0_ := Aside0.mk (below_step (by skip) hb); have n1_ := Aside0.mk (hbox); have n2_ := Aside0.mk ((by rw [hg]; exact (below_size (by skip)) : w.heap.size ≤ gb502)); have n3_ := Aside0.mk ((by rw [hg]; exact (below_size (by skip)) : w.heap.size ≤ gb502)); clear HB; have HB := n0_; have BK502 := n1_; have GW502 := n2_; have GE502 := n3_; clear n0_ n1_ n2_ n3_; clear hb hbox hg; have hcz5_0 : w4.cell? ⟨gb502, 0, none⟩ = some (.slice A0_0 l0_0.length c0_0) := (blk_cell BK502.out 0).trans rfl; have hcz5_1 : w4.cell? ⟨gb502, 1, none⟩ = some (.slice A0_1 l0_1.length c0_1) := (blk_cell BK502.out 1).trans rfl; have hcz5_2 : w4.cell? ⟨gb502, 2, none⟩ = some (.slice A0_2 l0_2.length c0_2) := (blk_cell BK502.out 2).trans rfl; have hfz5_0 := blk_frozen BK502.out 0; have hfz5_1 := blk_frozen BK502.out 1; have hfz5_2 := blk_frozen BK502.out 2) | (go_at_call 55; (with_reducible refine (spec_l04Is.calls k _ _ l0_0 _ _ l0_1 _ _ l0_2 true _ ?side1 ?side2 ?side3 ?side4 ?side5 ?side6 A2.out).mono ?_); (case side1 => skip); (case side2 => exact HC0_0.out); (case side3 => skip); (case side4 => exact HC0_1.out); (case side5 => skip); (case side6 => exact HC0_2.out); rintro e w6 ⟨rfl, hb⟩; have n0_ := Aside0.mk (blk_below (g := gb502) (o := .cells #[.slice A0_0 l0_0.length c0_0, .slice A0_1 l0_1.length c0_1, .slice A0_2 l0_2.length c0_2] 33 (0, 0)) BK502.out hb); have n1_ := Aside0.mk (below_step (by skip) hb); clear BK502; clear HB; have BK502 := n0_; have HB := n1_; clear n0_ n1_; (try clear hb); (try clear hb2); (try clear hk); (try clear hi))); try go_wp2_with (first | ((with_reducible refine gate_dst (N := 1) rfl ?_); refine box_event ?hg (N := 1) ?hd (cs := #[.slice A0_0 l0_0.length c0_0, .slice A0_1 l0_1.length c0_1, .slice A0_2 l0_2.length c0_2]) (t := 33) ?hr ?_; (case hd => rfl); (case hg => rfl); (case hr => first | (go_simp; done) | (go_simp; rfl)); intro gb502 hg w4 hbox hb; have n0_ := Aside0.mk (below_step (by skip) hb); have n1_ := Aside0.mk (hbox); have n2_ := Aside0.mk ((by rw [hg]; exact (below_size (by skip)) : w.heap.size ≤ gb502)); have n3_ := Aside0.mk ((by rw [hg]; exact (below_size (by skip)) : w.heap.size ≤ gb502)); clear HB; have HB := n0_; have BK502 := n1_; have GW502 := n2_; have GE502 := n3_; clear n0_ n1_ n2_ n3_; clear hb hbox hg; have hcz5_0 : w4.cell? ⟨gb502, 0, none⟩ = some (.slice A0_0 l0_0.length c0_0) := (blk_cell BK502.out 0).trans rfl; have hcz5_1 : w4.cell? ⟨gb502, 1, none⟩ = some (.slice A0_1 l0_1.length c0_1) := (blk_cell BK502.out 1).trans rfl; have hcz5_2 : w4.cell? ⟨gb502, 2, none⟩ = some (.slice A0_2 l0_2.length c0_2) := (blk_cell BK502.out 2).trans rfl; have hfz5_0 := blk_frozen BK502.out 0; have hfz5_1 := blk_frozen BK502.out 1; have hfz5_2 := blk_frozen BK502.out 2) | (go_at_call 55; (with_reducible refine (spec_l04Is.calls k _ _ l0_0 _ _ l0_1 _ _ l0_2 true _ ?side1 ?side2 ?side3 ?side4 ?side5 ?side6 A2.out).mono ?_); (case side1 => skip); (case side2 => exact HC0_0.out); (case side3 => skip); (case side4 => exact HC0_1.out); (case side5 => skip); (case side6 => exact HC0_2.out); rintro e w6 ⟨rfl, hb⟩; have n0_ := Aside0.mk (blk_below (g := gb502) (o := .cells #[.slice A0_0 l0_0.length c0_0, .slice A0_1 l0_1.length c0_1, .slice A0_2 l0_2.length c0_2] 33 (0, 0)) BK502.out hb); have n1_ := Aside0.mk (below_step (by skip) hb); clear BK502; clear HB; have BK502 := n0_; have HB := n1_; clear n0_ n1_; (try clear hb); (try clear hb2); (try clear hk); (try clear hi))))
 go_loopg [5, 6, 7] k (fun kq v5 v6 v7 w' => ∃ (x5_1 : Int) (x6_1 : Int) (x7_1 : Int), v5 = .int .i64 x5_1 ∧ v6 = .int .i64 x6_1 ∧ v7 = .int .i64 x7_1 ∧ Aside0 (spec_LoadOf.l0 kq x5_1 x6_1 x7_1 l0_0 l0_1 l0_2 = some (r1, r2, r3)) ∧ Aside0 (kq ≤ k) ∧ Aside0 (w'.heap[gb502]? = some (.cells #[(.slice A0_0 l0_0.length c0_0), (.slice A0_1 l0_1.length c0_1), (.slice A0_2 l0_2.length c0_2)] 33 (0, 0))) ∧ Aside0 (Below w.heap.size w w'))
 case atStart => exact ⟨(0), (1), (0), (by rfl), (by rfl), (by rfl), H', ⟨Nat.le_refl _⟩, ⟨by exact BK502.out⟩, ⟨by exact HB.out⟩⟩
 clear H'
 clear hcz5_0 hcz5_1 hcz5_2 hfz5_0 hfz5_1 hfz5_2
 obtain ⟨x5_1, x6_1, x7_1, rfl, rfl, rfl, HA, HK1, BK502, HB⟩ := hrel
 cases gk with
 | zero => exact absurd HA.out (by simp [spec_LoadOf.l0])
 | succ k1 =>
  have H := HA.out
  clear HA
  simp only [spec_LoadOf.l0] at H
  by_cases c7 : x7_1 < (l0_0.length : Int)
  rotate_left
  · rw [if_neg c7] at H
    have c7b0 : decide (x7_1 < (l0_0.length : Int)) = false := decide_eq_false c7
    clear c7
    simp only [Option.some.injEq, Prod.mk.injEq] at H
    obtain ⟨rfl, rfl, rfl⟩ := H
    have hcz12_0 : wr.cell? ⟨gb502, 0, none⟩ = some (.slice A0_0 l0_0.length c0_0) := (blk_cell BK502.out 0).trans rfl
    have hcz12_1 : wr.cell? ⟨gb502, 1, none⟩ = some (.slice A0_1 l0_1.length c0_1) := (blk_cell BK502.out 1).trans rfl
    have hcz12_2 : wr.cell? ⟨gb502, 2, none⟩ = some (.slice A0_2 l0_2.length c0_2) := (blk_cell BK502.out 2).trans rfl
    have hfz12_0 := blk_frozen BK502.out 0
    have hfz12_1 := blk_frozen BK502.out 1
    have hfz12_2 := blk_frozen BK502.out 2
    go_wp2
    repeat (go_quiet (fail); try go_wp2)
    go_ret3
    exact ⟨by rfl, by exact HB.out⟩
  rw [if_pos c7] at H
  have c7b0 : decide (x7_1 < (l0_0.length : Int)) = true := decide_eq_true c7
  clear c7
  by_cases c8 : 0 ≤ x7_1
  rotate_left
  · rw [if_neg c8] at H
    exact absurd H (by simp)
  rw [if_pos c8] at H
  have c8b0 : decide (0 ≤ x7_1) = true := decide_eq_true c8
  clear c8
  by_cases c9 : x7_1 < (l0_1.length : Int)
  rotate_left
  · rw [if_neg c9] at H
    exact absurd H (by simp)
  rw [if_pos c9] at H
  have c9b0 : decide (x7_1 < (l0_1.length : Int)) = true := decide_eq_true c9
  clear c9
  replace H := Option.bind_eq_some_iff.mp H
  obtain ⟨⟨t507, t508⟩, A100, H⟩ := H
  replace H : (spec_LoadOf.l0 k1 t507 t508 (wrap64 (x7_1 + 1)) l0_0 l0_1 l0_2) = some (r1, r2, r3) := H
  have A10 := Aside0.mk A100
  clear A100
  have H' := Aside0.mk H
  clear H
  have hcz11_0 : wr.cell? ⟨gb502, 0, none⟩ = some (.slice A0_0 l0_0.length c0_0) := (blk_cell BK502.out 0).trans rfl
  have hcz11_1 : wr.cell? ⟨gb502, 1, none⟩ = some (.slice A0_1 l0_1.length c0_1) := (blk_cell BK502.out 1).trans rfl
  have hcz11_2 : wr.cell? ⟨gb502, 2, none⟩ = some (.slice A0_2 l0_2.length c0_2) := (blk_cell BK502.out 2).trans rfl
  have hfz11_0 := blk_frozen BK502.out 0
  have hfz11_1 := blk_frozen BK502.out 1
  have hfz11_2 := blk_frozen BK502.out 2
  have p504 : 0 ≤ (x7_1 : Int) := of_decide_eq_true (by (with_reducible assumption))
  have q504 : x7_1 < (l0_1.length : Int) := of_decide_eq_true (by (with_reducible assumption))
  obtain ⟨ad504, e504, hx504_0⟩ := Kd.at_int HR0_1.out x7_1 p504 q504
  cases e504
  replace hx504_0 := (HB.out.cell (World.block_lt_of_cell? w _ hx504_0)).trans hx504_0
  replace p504 := eq_true p504
  replace q504 := eq_true q504
  have p505 : 0 ≤ (x7_1 : Int) := of_decide_eq_true (by (with_reducible assumption))
  have q505 : x7_1 < (l0_0.length : Int) := of_decide_eq_true (by (with_reducible assumption))
  obtain ⟨ad505, e505, hx505_0⟩ := Kd.at_int HR0_0.out x7_1 p505 q505
  cases e505
  replace hx505_0 := (HB.out.cell (World.block_lt_of_cell? w _ hx505_0)).trans hx505_0
  replace p505 := eq_true p505
  replace q505 := eq_true q505
  have p506 : 0 ≤ (x7_1 : Int) := of_decide_eq_true (by (with_reducible assumption))
  have q506 : x7_1 < (l0_1.length : Int) := of_decide_eq_true (by (with_reducible assumption))
  obtain ⟨ad506, e506, hx506_0⟩ := Kd.at_int HR0_1.out x7_1 p506 q506
  obtain rfl : ad504 = ad506 := (by injection e506)
  replace hx506_0 := (HB.out.cell (World.block_lt_of_cell? w _ hx506_0)).trans hx506_0
  replace p506 := eq_true p506
  replace q506 := eq_true q506
  go_wp2
  repeat (go_quiet ((go_at_call 75; (with_reducible refine (spec_l01Lowest.calls k1 (wrap64 ((wrap64 (x5_1 * (rd l0_1 x7_1))) + (wrap64 ((rd l0_0 x7_1) * x6_1)))) (wrap64 (x6_1 * (rd l0_1 x7_1))) t507 t508 _ A10.out).mono ?_); rintro e w' ⟨rfl, ⟨nd, rfl⟩⟩; (try exact ⟨rfl, _, World.drewN_drewN _ _ _⟩))); try go_wp2_with (first | (go_at_call 75; (with_reducible refine (spec_l01Lowest.calls k1 (wrap64 ((wrap64 (x5_1 * (rd l0_1 x7_1))) + (wrap64 ((rd l0_0 x7_1) * x6_1)))) (wrap64 (x6_1 * (rd l0_1 x7_1))) t507 t508 _ A10.out).mono ?_); rintro e w' ⟨rfl, ⟨nd, rfl⟩⟩; (try first | exact ⟨rfl, _, World.drewN_drewN _ _ _⟩ | exact ⟨rfl, _, Eq.trans (World.drewN_drewN _ _ _) (congrArg (World.drewN _) (Nat.add_assoc _ _ _))⟩))))
  go_roundg k1
  case measure => have := HK1.out; omega
  case rel => exact ⟨(t507), (t508), (wrap64 (x7_1 + 1)), (by rfl), (by rfl), (by rfl), H', ⟨by have := HK1.out; omega⟩, ⟨by (with_reducible repeat (refine blk_drewN ?_ _)); exact BK502.out⟩, ⟨by repeat (with_reducible first | exact HB.out | apply pw_below_drewN)⟩⟩
end Go.Proofs.Ytoakdilhljnjfaa.Q
namespace Go.Proofs.Ytoakdilhljnjfaa.Pure
open Go.RowKit Go.Proofs.Ytoakdilhljnjfaa.Q Go.Proofs.YtoakdilhljnjfaaW.PrintWords Go.Proofs.YtoakdilhljnjfaaW.PrintLast Go.Proofs.YtoakdilhljnjfaaW.PrintMore Go.Proofs.Ytoakdilhljnjfaa.Edf
set_option linter.unusedVariables false
set_option linter.unusedSimpArgs false
structure JL (l0 l1 l2 : List Int) : Prop where
  h1 : 1 ≤ l0.length
  h8 : l0.length ≤ 8
  e1 : l1.length = l0.length
  e2 : l2.length = l0.length
  ok : ∀ j : Nat, j < l0.length → (1 ≤ rd l0 j ∧ rd l0 j ≤ 20) ∧ (1 ≤ rd l1 j ∧ rd l1 j ≤ 60) ∧ 1 ≤ rd l2 j ∧ rd l2 j ≤ rd l1 j
theorem JL.of {l0 l1 l2 : List Int} (h : jobsB l0 l1 l2 = true) : JL l0 l1 l2 := by
  obtain ⟨a, b, c, d, e⟩ := jobsB_spec _ _ _ h
  exact ⟨a, b, c, d, e⟩
section
variable {l0 l1 l2 : List Int}
def rf (l : List Int) (i : Nat) : Int := rd l (i : Int)
theorem JL.jok (h : JL l0 l1 l2) : JOk l0.length (rf l0) (rf l1) (rf l2) := ⟨fun i hi => by have := h.ok i hi; unfold rf; omega⟩
theorem JL.ok60 (h : JL l0 l1 l2) : Ok60 l1 := fun p hp => by
  obtain ⟨i, hi, e⟩ := List.getElem_of_mem hp
  have := h.ok i (by have := h.e1; omega)
  rw [rd_get l1 i hi, e] at this
  omega
def wholeN (l1 : List Int) : Nat := lcmF 1 l1
theorem JL.whole_pos (h : JL l0 l1 l2) : 1 ≤ wholeN l1 := lcmF_ge l1 1 h.ok60 (by omega)
theorem JL.whole_le (h : JL l0 l1 l2) : wholeN l1 ≤ 167961600000000 := by
  have h1 := lcmF_le l1 1 h.ok60
  have h2 : 60 ^ l1.length ≤ 60 ^ 8 := Nat.pow_le_pow_right (by omega) (by have := h.e1; have := h.h8; omega)
  unfold wholeN; omega
theorem JL.whole_dvd (h : JL l0 l1 l2) (i : Nat) (hi : i < l0.length) : (rd l1 i).toNat ∣ wholeN l1 := (lcmF_dvd l1 1).2 _ (rd_memP l1 i (by have := h.e1; omega))
theorem whole_ev (h : JL l0 l1 l2) : Ev (fun k => impl_Jobs_whole.f k l0 l1 l2) ((wholeN l1 : Nat) : Int) := by
  unfold impl_Jobs_whole.f
  exact Ev.bind (multiple_ev l1 h.ok60 (by have := h.e1; have := h.h8; omega)) (Ev.now _)
theorem l04Whole_l (h : JL l0 l1 l2) (d : Nat) : ∀ (i a : Nat), i + d = l1.length → 0 < a → a ≤ 14400 → ∃ r : Nat, Ev (fun k => spec_l04Whole.l0 k (a : Int) (i : Int) l0 l1 l2) (r : Int) ∧ (240 < r ↔ 240 < lcmF a (l1.drop i)) ∧ (lcmF a (l1.drop i) ≤ 240 → r = lcmF a (l1.drop i)) := by
  have h8 := h.h8
  have he := h.e1
  induction d with
  | zero =>
    intro i a hi ha hb
    refine ⟨a, Ev.step (fun k => by rw [spec_l04Whole.l0]) (Ev.neg (by omega) (Ev.now _)), ?_⟩
    rw [List.drop_of_length_le (by omega), lcmF]
    exact ⟨Iff.rfl, fun _ => rfl⟩
  | succ d ih =>
    intro i a hi ha hb
    have hp := h.ok60 _ (rd_memP l1 i (by omega))
    by_cases hc : a ≤ 240
    · have hm : a * (rd l1 i).toNat ≤ 240 * 60 := Nat.mul_le_mul hc (by omega)
      have hlc := lcm_le a (rd l1 i).toNat
      obtain ⟨r, r1, r2, r3⟩ := ih (i + 1) (Nat.lcm a (rd l1 i).toNat) (by omega) (Nat.lcm_pos ha (by omega)) (by omega)
      refine ⟨r, Ev.step (fun k => by rw [spec_l04Whole.l0]) ?_, ?_⟩
      · refine Ev.pos (by omega) (Ev.pos (by omega) (Ev.pos (by omega) ?_))
        have hl := l01Lcm_ev a (rd l1 i).toNat ha (by omega) (by omega)
        rw [show (((rd l1 i).toNat : Nat) : Int) = rd l1 i by omega] at hl
        rw [wrap64_id (x := (i : Int) + 1) (by omega) (by omega)]
        exact Ev.bind hl r1
      · rw [dropC l1 i (by omega), lcmF]; exact ⟨r2, r3⟩
    · have hge := lcmF_ge (l1.drop i) a (fun x hx => h.ok60 x (List.mem_of_mem_drop hx)) ha
      refine ⟨a, Ev.step (fun k => by rw [spec_l04Whole.l0]) (Ev.pos (by omega) (Ev.neg (by omega) (Ev.now _))), ?_⟩
      exact ⟨⟨fun _ => by omega, fun _ => by omega⟩, fun hle => by omega⟩
theorem l04Whole_ev (h : JL l0 l1 l2) : ∃ r : Nat, Ev (fun k => spec_l04Whole.f k l0 l1 l2) (r : Int) ∧ (240 < r ↔ 240 < wholeN l1) ∧ (wholeN l1 ≤ 240 → r = wholeN l1) := by
  unfold spec_l04Whole.f wholeN
  simpa using l04Whole_l h l1.length 0 1 (by omega) (by omega) (by omega)
theorem l04Whole_w (h : JL l0 l1 l2) (hw : wholeN l1 ≤ 240) : Ev (fun k => spec_l04Whole.f k l0 l1 l2) ((wholeN l1 : Nat) : Int) := by
  obtain ⟨r, r1, r2, r3⟩ := l04Whole_ev h
  rw [← r3 hw]; exact r1
end
def codeJ (l0 l1 l2 : List Int) (short : Bool) : Int := if jobsB l0 l1 l2 = true then (if short = true ∧ 240 < wholeN l1 then 3 else 0) else 1
theorem codeJ_bad {l0 l1 l2 : List Int} {short : Bool} (hj : jobsB l0 l1 l2 = false) : codeJ l0 l1 l2 short = 1 := by unfold codeJ; rw [hj]; rfl
theorem codeJ_any {l0 l1 l2 : List Int} (hj : jobsB l0 l1 l2 = true) : codeJ l0 l1 l2 false = 0 := by unfold codeJ; rw [hj]; simp
theorem codeJ_great {l0 l1 l2 : List Int} (hj : jobsB l0 l1 l2 = true) (hw : 240 < wholeN l1) : codeJ l0 l1 l2 true = 3 := by unfold codeJ; rw [hj]; simp [hw]
theorem codeJ_good {l0 l1 l2 : List Int} (hj : jobsB l0 l1 l2 = true) (hw : ¬ 240 < wholeN l1) : codeJ l0 l1 l2 true = 0 := by unfold codeJ; rw [hj]; simp [hw]
theorem jobsCode_ev (l0 l1 l2 : List Int) (short : Bool) : Ev (fun k => impl_jobsCode.f k l0 l1 l2 true short) (codeJ l0 l1 l2 short) := by
  unfold impl_jobsCode.f
  refine Ev.bind (AreJobs_ev l0 l1 l2) ?_
  cases hj : jobsB l0 l1 l2 with
  | false => rw [codeJ_bad hj]; exact Ev.neg (by simp) (Ev.now _)
  | true =>
    have h := JL.of hj
    refine Ev.pos rfl (Ev.pos rfl ?_)
    cases short with
    | false => rw [codeJ_any hj]; exact Ev.neg (by simp) (Ev.now _)
    | true =>
      refine Ev.pos rfl (Ev.bind (whole_ev h) ?_)
      by_cases hw : 240 < wholeN l1
      · rw [codeJ_great hj hw]; exact Ev.pos (by omega) (Ev.now _)
      · rw [codeJ_good hj hw]; exact Ev.neg (by omega) (Ev.now _)
theorem l04Code_ev (l0 l1 l2 : List Int) : Ev (fun k => spec_l04Code.f k l0 l1 l2) (codeJ l0 l1 l2 true) := by
  unfold spec_l04Code.f
  refine Ev.bind (l04Is_ev l0 l1 l2) ?_
  cases hj : jobsB l0 l1 l2 with
  | false => rw [codeJ_bad hj]; exact Ev.neg (by simp) (Ev.now _)
  | true =>
    have h := JL.of hj
    obtain ⟨r, r1, r2, r3⟩ := l04Whole_ev h
    refine Ev.pos rfl (Ev.bind r1 ?_)
    by_cases hw : 240 < wholeN l1
    · rw [codeJ_great hj hw]; have := r2.2 hw; exact Ev.pos (by omega) (Ev.now _)
    · rw [codeJ_good hj hw]; have := mt r2.1 hw; exact Ev.neg (by omega) (Ev.now _)
theorem codeJ_zero {l0 l1 l2 : List Int} (h : codeJ l0 l1 l2 true = 0) : JL l0 l1 l2 ∧ wholeN l1 ≤ 240 ∧ jobsB l0 l1 l2 = true := by
  cases hj : jobsB l0 l1 l2 with
  | false => rw [codeJ_bad hj] at h; omega
  | true =>
    by_cases hw : 240 < wholeN l1
    · rw [codeJ_great hj hw] at h; omega
    · exact ⟨JL.of hj, by omega, rfl⟩
section
variable {l0 l1 l2 : List Int}
theorem dm_bd {P D n : Int} (hP : 1 ≤ P) (hD : 1 ≤ D) (hn : n ≤ 1000) : 0 ≤ dm P D n ∧ dm P D n ≤ 1000 := by
  unfold dm
  by_cases h : n ≥ D
  · rw [if_pos h]
    have h1 : 0 ≤ (n - D) / P := Int.ediv_nonneg (by omega) (by omega)
    have h2 : (n - D) / P ≤ n - D := Int.ediv_le_self _ (by omega)
    omega
  · rw [if_neg h]; omega
theorem term_bd (h : JL l0 l1 l2) (m : Int) (hm : m ≤ 1000) (i : Nat) (hi : i < l0.length) : 0 ≤ rf l0 i * dm (rf l1 i) (rf l2 i) m ∧ rf l0 i * dm (rf l1 i) (rf l2 i) m ≤ 20000 := by
  have ho := h.ok i hi
  obtain ⟨a, b⟩ := dm_bd (P := rf l1 i) (D := rf l2 i) (n := m) (by unfold rf; omega) (by unfold rf; omega) hm
  have h1 : 0 ≤ rf l0 i := by unfold rf; omega
  have h2 : rf l0 i ≤ 20 := by unfold rf; omega
  refine ⟨Int.mul_nonneg h1 a, ?_⟩
  have := Int.mul_le_mul h2 b a (by omega)
  omega
theorem part_bd (h : JL l0 l1 l2) (m : Int) (hm : m ≤ 1000) : ∀ i : Nat, i ≤ l0.length → 0 ≤ sumN (fun i => rf l0 i * dm (rf l1 i) (rf l2 i) m) i ∧ sumN (fun i => rf l0 i * dm (rf l1 i) (rf l2 i) m) i ≤ 20000 * i
  | 0, _ => by simp [sumN]
  | i + 1, hi => by
    have h1 := part_bd h m hm i (by omega)
    have h2 := term_bd h m hm i (by omega)
    rw [sumN]; omega
theorem demand_bd (h : JL l0 l1 l2) (m : Int) (hm : m ≤ 1000) : 0 ≤ demand l0.length (rf l0) (rf l1) (rf l2) m ∧ demand l0.length (rf l0) (rf l1) (rf l2) m ≤ 160000 := by
  have := part_bd h m hm l0.length (Nat.le_refl _)
  have := h.h8
  unfold demand; omega
theorem wrap_t {m d p : Int} (h0 : 0 ≤ m) (hm : m ≤ 1000) (hd : 1 ≤ d) (hp : 1 ≤ p) (hc : m ≥ d) : wrap64 ((wrap64 (Int.tdiv (wrap64 (m - d)) p)) + 1) = (m - d) / p + 1 := by
  have hq0 : 0 ≤ (m - d) / p := Int.ediv_nonneg (by omega) (by omega)
  have hq1 : (m - d) / p ≤ m - d := Int.ediv_le_self _ (by omega)
  rw [wrap64_id (x := m - d) (by omega) (by omega), Int.tdiv_eq_ediv_of_nonneg (by omega)]
  generalize (m - d) / p = q at *
  rw [wrap64_id (x := q) (by omega) (by omega), wrap64_id (by omega) (by omega)]
theorem wrap_eq {a t : Int} (h : a = t) (h0 : 0 ≤ t) (h1 : t ≤ 1000000) : wrap64 a = t := by subst h; exact wrap64_id (by omega) (by omega)
theorem wrap_succ {i : Nat} (h : i ≤ 1000000) : wrap64 ((i : Int) + 1) = ((i + 1 : Nat) : Int) := by rw [wrap64_id (by omega) (by omega)]; omega
theorem demand_r (m x : Int) (l0 l1 l2 : List Int) (n i : Nat) (res : Int) (h0 : 0 ≤ m) (hm : m ≤ 1000) (hn : n ≤ 8) (hi : i < n) (e0 : l0.length = n) (e1 : l1.length = n) (e2 : l2.length = n) (hx : 0 ≤ x ∧ x ≤ 20000 * i)
    (a0 : 1 ≤ rd l0 i ∧ rd l0 i ≤ 20) (a1 : 1 ≤ rd l1 i) (a2 : 1 ≤ rd l2 i) (t : Int) (ht : 0 ≤ t ∧ t ≤ 20000) (hp : m ≥ rd l2 i → t = rd l0 i * ((m - rd l2 i) / rd l1 i + 1)) (hq : ¬ m ≥ rd l2 i → t = 0) :
    (Ev (fun k => impl_Jobs_demand.l0 k m (x + t) l2 (n : Int) ((i + 1 : Nat) : Int) l0 l1 l2) res → Ev (fun k => impl_Jobs_demand.l0 k m x l2 (n : Int) (i : Int) l0 l1 l2) res) ∧
    (Ev (fun k => spec_l04Demand.l0 k m (x + t) ((i + 1 : Nat) : Int) l0 l1 l2) res → Ev (fun k => spec_l04Demand.l0 k m x (i : Int) l0 l1 l2) res) := by
  have hi' : i ≤ 1000000 := by omega
  have hx0 : 0 ≤ x + t := by omega
  have hx1 : x + t ≤ 1000000 := by omega
  by_cases hc : m ≥ rd l2 i
  · have hp' := hp hc
    clear hp hq
    refine ⟨fun hE => Ev.step (fun k => by rw [impl_Jobs_demand.l0]) ?_, fun hE => Ev.step (fun k => by rw [spec_l04Demand.l0]) ?_⟩
    · refine Ev.pos (by omega) ?_
      refine Ev.pos (by omega) ?_
      refine Ev.pos (by omega) ?_
      refine Ev.pos hc ?_
      refine Ev.pos (by omega) ?_
      refine Ev.pos (by omega) ?_
      refine Ev.neg (by omega) ?_
      rw [wrap_t h0 hm a2 a1 hc, wrap_eq hp'.symm ht.1 (by omega), wrap_eq rfl hx0 hx1, wrap_succ hi']
      exact hE
    · refine Ev.pos (by omega) ?_
      refine Ev.pos (by omega) ?_
      refine Ev.pos (by omega) ?_
      refine Ev.pos hc ?_
      refine Ev.pos (by omega) ?_
      refine Ev.neg (by omega) ?_
      rw [wrap_t h0 hm a2 a1 hc, Int.mul_comm _ (rd l0 i), wrap_eq hp'.symm ht.1 (by omega), wrap_eq rfl hx0 hx1, wrap_succ hi']
      exact hE
  · rw [hq hc, Int.add_zero]
    clear hp hq
    refine ⟨fun hE => Ev.step (fun k => by rw [impl_Jobs_demand.l0]) ?_, fun hE => Ev.step (fun k => by rw [spec_l04Demand.l0]) ?_⟩
    · refine Ev.pos (by omega) ?_
      refine Ev.pos (by omega) ?_
      refine Ev.pos (by omega) ?_
      refine Ev.neg hc ?_
      rw [wrap_succ hi']; exact hE
    · refine Ev.pos (by omega) ?_
      refine Ev.pos (by omega) ?_
      refine Ev.pos (by omega) ?_
      refine Ev.neg hc ?_
      rw [wrap_succ hi']; exact hE
theorem demand_l (h : JL l0 l1 l2) (m : Int) (h0 : 0 ≤ m) (hm : m ≤ 1000) (d : Nat) : ∀ (i : Nat), i + d = l0.length → Ev (fun k => impl_Jobs_demand.l0 k m (sumN (fun i => rf l0 i * dm (rf l1 i) (rf l2 i) m) i) l2 (l0.length : Int) (i : Int) l0 l1 l2) (sumN (fun i => rf l0 i * dm (rf l1 i) (rf l2 i) m) l0.length) ∧ Ev (fun k => spec_l04Demand.l0 k m (sumN (fun i => rf l0 i * dm (rf l1 i) (rf l2 i) m) i) (i : Int) l0 l1 l2) (sumN (fun i => rf l0 i * dm (rf l1 i) (rf l2 i) m) l0.length) := by
  induction d with
  | zero =>
    intro i hi
    obtain rfl : i = l0.length := by omega
    exact ⟨Ev.step (fun k => by rw [impl_Jobs_demand.l0]) (Ev.neg (Int.lt_irrefl _) (Ev.now _)), Ev.step (fun k => by rw [spec_l04Demand.l0]) (Ev.neg (Int.lt_irrefl _) (Ev.now _))⟩
  | succ d ih =>
    intro i hi
    have ho := h.ok i (by omega)
    obtain ⟨ih1, ih2⟩ := ih (i + 1) (by omega)
    have hs : sumN (fun i => rf l0 i * dm (rf l1 i) (rf l2 i) m) (i + 1) = sumN (fun i => rf l0 i * dm (rf l1 i) (rf l2 i) m) i + rf l0 i * dm (rf l1 i) (rf l2 i) m := rfl
    rw [hs] at ih1 ih2
    obtain ⟨f1, f2⟩ := demand_r m (sumN (fun i => rf l0 i * dm (rf l1 i) (rf l2 i) m) i) l0 l1 l2 l0.length i (sumN (fun i => rf l0 i * dm (rf l1 i) (rf l2 i) m) l0.length) h0 hm h.h8 (by omega) rfl h.e1 h.e2 (part_bd h m hm i (by omega)) ho.1 ho.2.1.1 ho.2.2.1 (rf l0 i * dm (rf l1 i) (rf l2 i) m) (term_bd h m hm i (by omega)) (fun hc => by unfold dm rf; rw [if_pos hc]) (fun hc => by unfold dm rf; rw [if_neg hc, Int.mul_zero])
    exact ⟨f1 ih1, f2 ih2⟩
theorem demand_ev (h : JL l0 l1 l2) (m : Int) (h0 : 0 ≤ m) (hm : m ≤ 1000) : Ev (fun k => impl_Jobs_demand.f k l0 l1 l2 m) (demand l0.length (rf l0) (rf l1) (rf l2) m) ∧ Ev (fun k => spec_l04Demand.f k l0 l1 l2 m) (demand l0.length (rf l0) (rf l1) (rf l2) m) := by
  unfold impl_Jobs_demand.f spec_l04Demand.f demand
  rw [h.e2]
  exact demand_l h m h0 hm l0.length 0 (Nat.zero_add _)
theorem room_l (h : JL l0 l1 l2) (hw : wholeN l1 ≤ 240) (d : Nat) : ∀ (i : Nat) (x : Int), i + d = wholeN l1 + 1 → 1 ≤ i → -1000000 ≤ x → x ≤ 1000000 →
    ∃ r : Int, Ev (fun k => impl_Jobs_room.l0 k x (i : Int) l0 l1 l2) r ∧ Ev (fun k => spec_l04Room.l0 k x (i : Int) l0 l1 l2) r ∧ (0 ≤ r ↔ 0 ≤ x ∧ ∀ m : Nat, i ≤ m → m ≤ wholeN l1 → demand l0.length (rf l0) (rf l1) (rf l2) m ≤ m) := by
  induction d with
  | zero =>
    intro i x hi h1 hx hx'
    refine ⟨x, Ev.step (fun k => by rw [impl_Jobs_room.l0]) ?_, Ev.step (fun k => by rw [spec_l04Room.l0]) ?_, ?_⟩
    · refine Ev.bind (whole_ev h) ?_
      exact Ev.neg (by omega) (Ev.now _)
    · refine Ev.bind (l04Whole_w h hw) ?_
      exact Ev.neg (by omega) (Ev.now _)
    exact ⟨fun h' => ⟨h', fun m h2 h3 => by omega⟩, fun h' => h'.1⟩
  | succ d ih =>
    intro i x hi h1 hx hx'
    obtain ⟨b1, b2⟩ := demand_bd h (i : Int) (by omega)
    obtain ⟨d1, d2⟩ := demand_ev h (i : Int) (by omega) (by omega)
    have hmn : mn x ((i : Int) - demand l0.length (rf l0) (rf l1) (rf l2) i) ≤ x ∧ mn x ((i : Int) - demand l0.length (rf l0) (rf l1) (rf l2) i) ≤ (i : Int) - demand l0.length (rf l0) (rf l1) (rf l2) i ∧ (mn x ((i : Int) - demand l0.length (rf l0) (rf l1) (rf l2) i) = x ∨ mn x ((i : Int) - demand l0.length (rf l0) (rf l1) (rf l2) i) = (i : Int) - demand l0.length (rf l0) (rf l1) (rf l2) i) := by unfold mn; split <;> omega
    obtain ⟨r, r1, r2, r3⟩ := ih (i + 1) (mn x ((i : Int) - demand l0.length (rf l0) (rf l1) (rf l2) i)) (by omega) (by omega) (by omega) (by omega)
    have hwp : wrap64 ((i : Int) + 1) = ((i + 1 : Nat) : Int) := by rw [wrap64_id (by omega) (by omega)]; omega
    refine ⟨r, Ev.step (fun k => by rw [impl_Jobs_room.l0]) ?_, Ev.step (fun k => by rw [spec_l04Room.l0]) ?_, ?_⟩
    · refine Ev.bind (whole_ev h) ?_
      refine Ev.pos (by omega) ?_
      refine Ev.bind d1 ?_
      rw [hwp, wrap64_id (x := (i : Int) - _) (by omega) (by omega)]; exact r1
    · refine Ev.bind (l04Whole_w h hw) ?_
      refine Ev.pos (by omega) ?_
      refine Ev.bind d2 ?_
      rw [hwp, wrap64_id (x := (i : Int) - _) (by omega) (by omega)]; exact r2
    · rw [r3]
      constructor
      · rintro ⟨ha, hb⟩
        refine ⟨by omega, fun m h2 h3 => ?_⟩
        by_cases e : m = i
        · subst e; omega
        · exact hb m (by omega) h3
      · rintro ⟨ha, hb⟩
        have := hb i (Nat.le_refl _) (by omega)
        exact ⟨by omega, fun m h2 h3 => hb m (by omega) h3⟩
theorem room_ev (h : JL l0 l1 l2) (hw : wholeN l1 ≤ 240) : ∃ r : Int, Ev (fun k => impl_Jobs_room.f k l0 l1 l2) r ∧ Ev (fun k => spec_l04Room.f k l0 l1 l2) r ∧ (0 ≤ r ↔ ∀ m : Nat, 1 ≤ m → m ≤ wholeN l1 → demand l0.length (rf l0) (rf l1) (rf l2) m ≤ m) := by
  obtain ⟨b1, b2⟩ := demand_bd h 1 (by omega)
  obtain ⟨d1, d2⟩ := demand_ev h 1 (by omega) (by omega)
  have hp := h.whole_pos
  obtain ⟨r, r1, r2, r3⟩ := room_l h hw (wholeN l1 - 1) 2 (1 - demand l0.length (rf l0) (rf l1) (rf l2) 1) (by omega) (by omega) (by omega) (by omega)
  refine ⟨r, ?_, ?_, ?_⟩
  · unfold impl_Jobs_room.f; refine Ev.bind d1 ?_; rw [wrap64_id (x := 1 - _) (by omega) (by omega)]; exact r1
  · unfold spec_l04Room.f; refine Ev.bind d2 ?_; rw [wrap64_id (x := 1 - _) (by omega) (by omega)]; exact r2
  · rw [r3]
    constructor
    · rintro ⟨ha, hb⟩ m h1 h2
      by_cases e : m = 1
      · subst e; show demand _ _ _ _ 1 ≤ 1; omega
      · exact hb m (by omega) h2
    · intro hb
      have := hb 1 (Nat.le_refl _) hp
      exact ⟨by have h' : demand l0.length (rf l0) (rf l1) (rf l2) 1 ≤ 1 := this; omega, fun m h1 h2 => hb m (by omega) h2⟩
end
end Go.Proofs.Ytoakdilhljnjfaa.Pure
namespace Go.Proofs.Ytoakdilhljnjfaa.Pure
open Go.RowKit Go.Proofs.Ytoakdilhljnjfaa.Q Go.Proofs.YtoakdilhljnjfaaW.PrintWords Go.Proofs.YtoakdilhljnjfaaW.PrintLast Go.Proofs.YtoakdilhljnjfaaW.PrintMore Go.Proofs.Ytoakdilhljnjfaa.Edf
set_option linter.unusedVariables false
set_option linter.unusedSimpArgs false
def workN (l0 l1 : List Int) (w : Nat) : Nat → Nat
  | 0 => 0
  | i + 1 => workN l0 l1 w i + (rd l0 i).toNat * (w / (rd l1 i).toNat)
theorem natOf {x : Int} (h : 0 ≤ x) : ((x.toNat : Nat) : Int) = x := by omega
theorem workN_le {l0 l1 : List Int} (n w : Nat) (h : ∀ j : Nat, j < n → rd l0 j ≤ 20) : ∀ i, i ≤ n → workN l0 l1 w i ≤ 20 * i * w
  | 0, _ => by simp [workN]
  | i + 1, hi => by
    have h1 := workN_le (l1 := l1) n w h i (by omega)
    have h2 := h i (by omega)
    have h3 : (rd l0 i).toNat * (w / (rd l1 i).toNat) ≤ 20 * w := Nat.mul_le_mul (by omega) (Nat.div_le_self _ _)
    have h4 : 20 * (i + 1) * w = 20 * i * w + 20 * w := by rw [Nat.mul_add, Nat.add_mul]
    rw [workN, h4]; omega
theorem load_term {a b w : Nat} (ha : 1 ≤ a ∧ a ≤ 20) (hb : 1 ≤ b) (hw : w ≤ 167961600000000) : wrap64 ((a : Int) * wrap64 (Int.tdiv (w : Int) (b : Int))) = ((a * (w / b) : Nat) : Int) := by
  have h1 := Nat.div_le_self w b
  rw [tdivN, wrapN (n := w / b) (by omega)]
  have h2 : a * (w / b) ≤ 20 * w := Nat.mul_le_mul ha.2 h1
  rw [show ((a : Int) * ((w / b : Nat) : Int)) = ((a * (w / b) : Nat) : Int) by simp]
  exact wrapN (by omega)
section
variable {l0 l1 l2 : List Int}
theorem impl_load_l (h : JL l0 l1 l2) (d : Nat) : ∀ i : Nat, i + d = l0.length → Ev (fun k => impl_Jobs_load.l0 k ((wholeN l1 : Nat) : Int) ((workN l0 l1 (wholeN l1) i : Nat) : Int) l1 (l0.length : Int) (i : Int) l0 l1 l2) (((workN l0 l1 (wholeN l1) l0.length / Nat.gcd (workN l0 l1 (wholeN l1) l0.length) (wholeN l1) : Nat) : Int), ((wholeN l1 / Nat.gcd (workN l0 l1 (wholeN l1) l0.length) (wholeN l1) : Nat) : Int)) := by
  have hw := h.whole_le
  have hw1 := h.whole_pos
  have h8 := h.h8
  have e1 := h.e1
  have hwk := fun i hi => workN_le (l0 := l0) (l1 := l1) l0.length (wholeN l1) (fun j hj => (h.ok j hj).1.2) i hi
  induction d with
  | zero =>
    intro i hi
    obtain rfl : i = l0.length := by omega
    refine Ev.step (fun k => by rw [impl_Jobs_load.l0]) (Ev.neg (Int.lt_irrefl _) ?_)
    have hk := hwk l0.length (Nat.le_refl _)
    have hk2 : 20 * l0.length * wholeN l1 ≤ 160 * wholeN l1 := Nat.mul_le_mul (by omega) (Nat.le_refl _)
    generalize workN l0 l1 (wholeN l1) l0.length = a at *
    generalize wholeN l1 = b at *
    have hg := Nat.gcd_pos_of_pos_right a (show 0 < b by omega)
    refine Ev.bind (divisor_ev a b) (Ev.neg (by omega) ?_)
    rw [tdivN, tdivN, wrapN (n := a / Nat.gcd a b) (Nat.le_trans (Nat.div_le_self _ _) (by omega)), wrapN (n := b / Nat.gcd a b) (Nat.le_trans (Nat.div_le_self _ _) (by omega))]
    exact Ev.now _
  | succ d ih =>
    intro i hi
    have ho := h.ok i (by omega)
    have ih' := ih (i + 1) (by omega)
    have hk := hwk (i + 1) (by omega)
    have hk2 : 20 * (i + 1) * wholeN l1 ≤ 160 * wholeN l1 := Nat.mul_le_mul (by omega) (Nat.le_refl _)
    refine Ev.step (fun k => by rw [impl_Jobs_load.l0]) ?_
    refine Ev.pos (by omega) ?_
    refine Ev.pos (by omega) ?_
    refine Ev.pos (by omega) ?_
    refine Ev.pos (by omega) ?_
    refine Ev.neg (by omega) ?_
    have e : wrap64 (rd l0 i * wrap64 (Int.tdiv ((wholeN l1 : Nat) : Int) (rd l1 i))) = (((rd l0 i).toNat * (wholeN l1 / (rd l1 i).toNat) : Nat) : Int) := by
      have := load_term (a := (rd l0 i).toNat) (b := (rd l1 i).toNat) (w := wholeN l1) (by omega) (by omega) hw
      rwa [natOf (by omega), natOf (by omega)] at this
    rw [e, ← Int.natCast_add, wrapN (n := workN l0 l1 (wholeN l1) i + _) (by rw [workN] at hk; omega), wrap_succ (by omega)]
    exact ih'
theorem impl_load_ev (h : JL l0 l1 l2) : Ev (fun k => impl_Jobs_load.f k l0 l1 l2) (((workN l0 l1 (wholeN l1) l0.length / Nat.gcd (workN l0 l1 (wholeN l1) l0.length) (wholeN l1) : Nat) : Int), ((wholeN l1 / Nat.gcd (workN l0 l1 (wholeN l1) l0.length) (wholeN l1) : Nat) : Int)) := by
  unfold impl_Jobs_load.f
  refine Ev.bind (whole_ev h) ?_
  rw [h.e1]
  exact impl_load_l h l0.length 0 (Nat.zero_add _)
theorem spec_load_l (h : JL l0 l1 l2) (d : Nat) : ∀ (i t b : Nat), i + d = l0.length → 0 < b → b ≤ 60 ^ i → Nat.Coprime t b → t * wholeN l1 = workN l0 l1 (wholeN l1) i * b →
    ∃ t' b' : Nat, Ev (fun k => spec_LoadOf.l0 k (t : Int) (b : Int) (i : Int) l0 l1 l2) ((t' : Int), (b' : Int), 0) ∧ 0 < b' ∧ Nat.Coprime t' b' ∧ t' * wholeN l1 = workN l0 l1 (wholeN l1) l0.length * b' := by
  have hw := h.whole_le
  have hw1 := h.whole_pos
  have h8 := h.h8
  have e1 := h.e1
  have hwk := fun i hi => workN_le (l0 := l0) (l1 := l1) l0.length (wholeN l1) (fun j hj => (h.ok j hj).1.2) i hi
  induction d with
  | zero =>
    intro i t b hi hb _ hco hv
    obtain rfl : i = l0.length := by omega
    exact ⟨t, b, Ev.step (fun k => by rw [spec_LoadOf.l0]) (Ev.neg (Int.lt_irrefl _) (Ev.now _)), hb, hco, hv⟩
  | succ d ih =>
    intro i t b hi hb hb6 hco hv
    have ho := h.ok i (by omega)
    have hdv := h.whole_dvd i (by omega)
    have hb7 : b ≤ 60 ^ 7 := Nat.le_trans hb6 (Nat.pow_le_pow_right (by omega) (by omega))
    have hk := hwk i (by omega)
    have hk2 : 20 * i * wholeN l1 ≤ 140 * wholeN l1 := Nat.mul_le_mul (by omega) (Nat.le_refl _)
    have ht : t ≤ 140 * b := by
      have h1 : t * wholeN l1 ≤ 140 * wholeN l1 * b := by rw [hv]; exact Nat.mul_le_mul (Nat.le_trans hk hk2) (Nat.le_refl _)
      have h2 : 140 * wholeN l1 * b = 140 * b * wholeN l1 := by rw [Nat.mul_assoc, Nat.mul_comm (wholeN l1), Nat.mul_assoc]
      rw [h2] at h1
      exact Nat.le_of_mul_le_mul_right h1 (by omega)
    obtain ⟨a, ha⟩ : ∃ a, a = (rd l0 i).toNat := ⟨_, rfl⟩
    obtain ⟨p, hp⟩ : ∃ p, p = (rd l1 i).toNat := ⟨_, rfl⟩
    have era : rd l0 i = (a : Int) := by omega
    have erp : rd l1 i = (p : Int) := by omega
    have hp1 : 1 ≤ p ∧ p ≤ 60 := by omega
    have ha1 : 1 ≤ a ∧ a ≤ 20 := by omega
    have m1 : t * p ≤ 140 * 60 ^ 7 * 60 := Nat.mul_le_mul (Nat.le_trans ht (by omega)) hp1.2
    have m2 : a * b ≤ 20 * 60 ^ 7 := Nat.mul_le_mul ha1.2 hb7
    have m3 : b * p ≤ 60 ^ i * 60 := Nat.mul_le_mul hb6 hp1.2
    have m4 : b * p ≤ 60 ^ 7 * 60 := Nat.mul_le_mul hb7 hp1.2
    have m5 : t * p + a * b ≤ 9223372036854775807 := by omega
    have m6 : t * p ≤ 9223372036854775807 := by omega
    have m7 : a * b ≤ 9223372036854775807 := by omega
    have m8 : b * p ≤ 9223372036854775807 := by omega
    have hi6 : i ≤ 1000000 := by omega
    have g1 : (i : Int) < (l0.length : Int) := by omega
    have g2 : (i : Int) < (l1.length : Int) := by omega
    have g0 : (0 : Int) ≤ (i : Int) := by omega
    have hbp : 0 < b * p := Nat.mul_pos hb hp1.1
    have hg := Nat.gcd_pos_of_pos_right (t * p + a * b) hbp
    rw [← hp] at hdv
    have hq : p * (wholeN l1 / p) = wholeN l1 := Nat.mul_div_cancel' hdv
    have hwn : workN l0 l1 (wholeN l1) (i + 1) = workN l0 l1 (wholeN l1) i + a * (wholeN l1 / p) := by rw [workN, ← ha, ← hp]
    have hv2 : (t * p + a * b) * wholeN l1 = workN l0 l1 (wholeN l1) (i + 1) * (b * p) := by
      rw [hwn, Nat.add_mul, Nat.add_mul]
      have c1 : t * p * wholeN l1 = workN l0 l1 (wholeN l1) i * (b * p) := by rw [Nat.mul_assoc, Nat.mul_comm p, ← Nat.mul_assoc, hv, Nat.mul_assoc]
      have c2 : a * b * wholeN l1 = a * (wholeN l1 / p) * (b * p) := by
        rw [← hq]
        rw [Nat.mul_div_cancel_left _ hp1.1]
        rw [Nat.mul_assoc a (wholeN l1 / p), Nat.mul_left_comm (wholeN l1 / p) b p, Nat.mul_comm (wholeN l1 / p) p, Nat.mul_assoc]
      rw [c1, c2]
    have hd1 : (t * p + a * b) / Nat.gcd (t * p + a * b) (b * p) * Nat.gcd (t * p + a * b) (b * p) = t * p + a * b := Nat.div_mul_cancel (Nat.gcd_dvd_left _ _)
    have hd2 : (b * p) / Nat.gcd (t * p + a * b) (b * p) * Nat.gcd (t * p + a * b) (b * p) = b * p := Nat.div_mul_cancel (Nat.gcd_dvd_right _ _)
    have hc2 : Nat.Coprime ((t * p + a * b) / Nat.gcd (t * p + a * b) (b * p)) ((b * p) / Nat.gcd (t * p + a * b) (b * p)) := Nat.coprime_div_gcd_div_gcd hg
    have hev := l01Lowest_ev (t * p + a * b) (b * p) hbp (by omega) (by omega)
    have hle : (b * p) / Nat.gcd (t * p + a * b) (b * p) ≤ b * p := Nat.div_le_self _ _
    have hpos : 0 < (b * p) / Nat.gcd (t * p + a * b) (b * p) := Nat.div_pos (Nat.le_of_dvd hbp (Nat.gcd_dvd_right _ _)) hg
    generalize (t * p + a * b) / Nat.gcd (t * p + a * b) (b * p) = t2 at *
    generalize (b * p) / Nat.gcd (t * p + a * b) (b * p) = b2 at *
    have hv3 : t2 * wholeN l1 = workN l0 l1 (wholeN l1) (i + 1) * b2 := by
      refine Nat.eq_of_mul_eq_mul_right hg ?_
      rw [Nat.mul_right_comm, hd1, hv2, Nat.mul_assoc _ b2, hd2]
    obtain ⟨t', b', r1, r2, r3, r4⟩ := ih (i + 1) t2 b2 (by omega) hpos (by rw [Nat.pow_succ]; omega) hc2 hv3
    refine ⟨t', b', Ev.step (fun k => by rw [spec_LoadOf.l0]) ?_, r2, r3, r4⟩
    refine Ev.pos g1 ?_
    refine Ev.pos g0 ?_
    refine Ev.pos g2 ?_
    rw [era, erp]
    have w1 : wrap64 ((t : Int) * (p : Int)) = ((t * p : Nat) : Int) := by rw [← Int.natCast_mul]; exact wrapN m6
    have w2 : wrap64 ((a : Int) * (b : Int)) = ((a * b : Nat) : Int) := by rw [← Int.natCast_mul]; exact wrapN m7
    have w3 : wrap64 ((b : Int) * (p : Int)) = ((b * p : Nat) : Int) := by rw [← Int.natCast_mul]; exact wrapN m8
    rw [w1, w2, w3, ← Int.natCast_add, wrapN m5, wrap_succ hi6]
    exact Ev.bind hev r1
theorem load_both (h : JL l0 l1 l2) (hj : jobsB l0 l1 l2 = true) : ∃ t b : Nat, Ev (fun k => impl_Jobs_load.f k l0 l1 l2) ((t : Int), (b : Int)) ∧ Ev (fun k => spec_LoadOf.f k l0 l1 l2) ((t : Int), (b : Int), 0) ∧ (t ≤ b ↔ workN l0 l1 (wholeN l1) l0.length ≤ wholeN l1) := by
  have hw1 := h.whole_pos
  obtain ⟨t', b', r1, r2, r3, r4⟩ := spec_load_l h l0.length 0 0 1 (Nat.zero_add _) (by omega) (by simp) (Nat.coprime_one_right 0) (by simp [workN])
  have hi := impl_load_ev h
  have hg := Nat.gcd_pos_of_pos_right (workN l0 l1 (wholeN l1) l0.length) (show 0 < wholeN l1 by omega)
  have hd1 := Nat.div_mul_cancel (Nat.gcd_dvd_left (workN l0 l1 (wholeN l1) l0.length) (wholeN l1))
  have hd2 := Nat.div_mul_cancel (Nat.gcd_dvd_right (workN l0 l1 (wholeN l1) l0.length) (wholeN l1))
  have hc := Nat.coprime_div_gcd_div_gcd hg
  generalize hA : workN l0 l1 (wholeN l1) l0.length / Nat.gcd (workN l0 l1 (wholeN l1) l0.length) (wholeN l1) = A at *
  generalize hB : wholeN l1 / Nat.gcd (workN l0 l1 (wholeN l1) l0.length) (wholeN l1) = B at *
  have hx : t' * B = A * b' := by
    refine Nat.eq_of_mul_eq_mul_right hg ?_
    rw [Nat.mul_assoc, hd2, r4, Nat.mul_right_comm, hd1]
  obtain ⟨e1, e2⟩ := lowest_same r2 r3 hc hx
  subst e1 e2
  refine ⟨t', b', hi, ?_, ?_⟩
  · unfold spec_LoadOf.f
    refine Ev.bind (l04Is_ev l0 l1 l2) ?_
    rw [hj]
    exact Ev.pos rfl r1
  · constructor
    · intro hle
      have := Nat.mul_le_mul_right (wholeN l1) hle
      rw [r4] at this
      have h2 : workN l0 l1 (wholeN l1) l0.length * b' ≤ wholeN l1 * b' := by rw [Nat.mul_comm (wholeN l1)]; exact this
      exact Nat.le_of_mul_le_mul_right h2 r2
    · intro hle
      have := Nat.mul_le_mul_right b' hle
      rw [← r4] at this
      rw [Nat.mul_comm (wholeN l1)] at this
      exact Nat.le_of_mul_le_mul_right this (by omega)
theorem demand_whole (h : JL l0 l1 l2) : demand l0.length (rf l0) (rf l1) (rf l2) (wholeN l1 : Nat) = (workN l0 l1 (wholeN l1) l0.length : Nat) := by
  have hw1 := h.whole_pos
  have hP : ∀ i : Nat, i ≤ l0.length → sumN (fun i => rf l0 i * dm (rf l1 i) (rf l2 i) (wholeN l1 : Nat)) i = (workN l0 l1 (wholeN l1) i : Nat) := by
    intro i
    induction i with
    | zero => intro _; rfl
    | succ i ih =>
      intro hi
      have ho := h.ok i (by omega)
      obtain ⟨q, hq⟩ := h.whole_dvd i (by omega)
      rw [sumN, ih (by omega), workN]
      have hq1 : 1 ≤ q := by
        cases q with
        | zero => rw [Nat.mul_zero] at hq; omega
        | succ q => omega
      have e : dm (rf l1 i) (rf l2 i) (wholeN l1 : Nat) = (q : Int) := by
        have hx : ((wholeN l1 : Nat) : Int) = rd l1 i * (q : Int) := by
          rw [hq, Int.natCast_mul, natOf (by omega)]
        have hx2 : rd l1 i * 1 ≤ rd l1 i * (q : Int) := Int.mul_le_mul_of_nonneg_left (by omega) (by omega)
        unfold dm rf
        rw [hx, if_pos (by omega), div_of (P := rd l1 i) (q := (q : Int) - 1) (by omega) (by rw [Int.mul_sub]; omega) (by rw [Int.mul_sub]; omega)]
        omega
      have e2 : wholeN l1 / (rd l1 i).toNat = q := by rw [hq]; exact Nat.mul_div_cancel_left q (by omega)
      rw [e, e2, Int.natCast_add, Int.natCast_mul, natOf (by omega)]; rfl
  unfold demand
  exact hP l0.length (Nat.le_refl _)
end
end Go.Proofs.Ytoakdilhljnjfaa.Pure
namespace Go.Proofs.Ytoakdilhljnjfaa.Q
open Go.RowKit Go.Proofs.YtoakdilhljnjfaaW.PrintWords Go.Proofs.YtoakdilhljnjfaaW.PrintLast Go.Proofs.YtoakdilhljnjfaaW.PrintMore
attribute [local go_sem] max2_int min2_int max_two min_two max_three min_three max_four min_four   -- for this text's walks alone
set_option linter.unusedVariables false
set_option linter.unusedSimpArgs false
abbrev bQ67_0 : Array Bool := #[false, false, false, false, false, false, false, false]
abbrev bQ67_1 : Array Bool := #[true, false, false, false, false, false, false, false]
abbrev bQ67_2 : Array Bool := #[true, false, false, true, false, false, false, false]
abbrev bQ67_3 : Array Bool := #[true, true, false, true, false, false, false, false]
abbrev bQ67_4 : Array Bool := #[true, true, true, true, true, true, true, false]
abbrev bQ67_5 : Array Bool := #[true, true, true, true, false, false, false, false]
abbrev bQ67_6 : Array Bool := #[true, true, false, true, true, false, false, false]
abbrev bQ67_7 : Array Bool := #[true, true, true, true, true, false, false, false]
abbrev bQ67_8 : Array Bool := #[true, true, true, true, true, false, true, false]
abbrev bQ67_9 : Array Bool := #[true, true, false, true, true, true, false, false]
abbrev bQ67_10 : Array Bool := #[true, true, true, true, true, true, false, false]
abbrev bQ67_11 : Array Bool := #[true, true, true, true, true, true, true, true]
abbrev bQ67_12 : Array Bool := #[false, false, false, false, false, false, false, false, false, false, false, false, false, false, false, false, false, false, false, false]
abbrev bQ67_13 : Array Bool := #[true, false, false, false, false, false, false, false, false, false, false, false, false, false, false, false, false, false, false, false]
abbrev bQ67_14 : Array Bool := #[true, true, false, false, false, false, false, false, false, false, false, false, false, false, false, false, false, false, false, false]
abbrev bQ67_15 : Array Bool := #[true, true, true, false, false, false, false, false, false, false, false, false, false, false, false, false, false, false, false, false]
abbrev bQ67_16 : Array Bool := #[true, true, true, true, false, false, false, false, false, false, false, false, false, false, false, false, false, false, false, false]
abbrev bQ67_17 : Array Bool := #[true, true, true, true, true, false, false, false, false, false, false, false, false, false, false, false, false, false, false, false]
abbrev bQ67_18 : Array Bool := #[true, true, true, true, true, true, false, false, false, false, false, false, false, false, false, false, false, false, false, false]
abbrev bQ67_19 : Array Bool := #[true, true, true, true, true, true, true, false, false, false, false, false, false, false, false, false, false, false, false, false]
abbrev bQ67_20 : Array Bool := #[true, true, true, true, true, true, true, true, false, false, false, false, false, false, false, false, false, false, false, false]
abbrev bQ67_21 : Array Bool := #[true, true, true, true, true, true, true, true, true, false, false, false, false, false, false, false, false, false, false, false]
abbrev bQ67_22 : Array Bool := #[true, true, true, true, true, true, true, true, true, true, false, false, false, false, false, false, false, false, false, false]
abbrev bQ67_23 : Array Bool := #[true, true, true, true, true, true, true, true, true, true, true, false, false, false, false, false, false, false, false, false]
abbrev bQ67_24 : Array Bool := #[true, true, true, true, true, true, true, true, true, true, true, true, false, false, false, false, false, false, false, false]
abbrev bQ67_25 : Array Bool := #[true, true, true, true, true, true, true, true, true, true, true, true, true, false, false, false, false, false, false, false]
abbrev bQ67_26 : Array Bool := #[true, true, true, true, true, true, true, true, true, true, true, true, true, true, false, false, false, false, false, false]
abbrev bQ67_27 : Array Bool := #[true, true, true, true, true, true, true, true, true, true, true, true, true, true, true, false, false, false, false, false]
abbrev bQ67_28 : Array Bool := #[true, true, true, true, true, true, true, true, true, true, true, true, true, true, true, true, false, false, false, false]
abbrev bQ67_29 : Array Bool := #[true, true, true, true, true, true, true, true, true, true, true, true, true, true, true, true, true, false, false, false]
abbrev bQ67_30 : Array Bool := #[true, true, true, true, true, true, true, true, true, true, true, true, true, true, true, true, true, true, false, false]
abbrev bQ67_31 : Array Bool := #[true, true, true, true, true, true, true, true, true, true, true, true, true, true, true, true, true, true, true, false]
abbrev bQ67_32 : Array Bool := #[true, true, true, true, true, true, true, true, true, true, true, true, true, true, true, true, true, true, true, true]
abbrev bQ67_33 : Array Bool := #[true, true, true, true, true, true, true, true, true, true, true, true, false, true, false, false, false, false, false, false]
abbrev bQ67_34 : Array Bool := #[true, true, true, true, true, true, true, true, true, true, true, true, false, true, true, false, false, false, false, false]
abbrev bQ67_35 : Array Bool := #[true, true, true, true, true, true, true, true, true, true, true, true, false, true, true, true, false, false, false, false]
abbrev bQ67_36 : Array Bool := #[true, true, true, true, true, false, true, false, false, false, false, false, false, false, false, false, false, false, false, false]
abbrev bQ67_37 : Array Bool := #[true, true, true, true, true, false, true, false, false, true, false, false, false, false, false, false, false, false, false, false]
abbrev bQ67_38 : Array Bool := #[true, true, true, true, true, false, true, false, false, true, true, false, false, false, false, false, false, false, false, false]
abbrev bQ67_39 : Array Bool := #[true, true, true, true, true, false, true, false, false, true, true, false, true, false, false, false, false, false, false, false]
abbrev bQ67_40 : Array Bool := #[true, true, true, true, true, true, true, false, false, true, true, false, true, false, false, false, false, false, false, false]
abbrev bQ67_41 : Array Bool := #[true, true, true, true, true, true, true, true, false, true, true, false, true, false, false, false, false, false, false, false]
abbrev bQ67_42 : Array Bool := #[true, true, true, true, true, true, true, true, true, true, true, false, true, false, false, false, false, false, false, false]
mutual
def impl_Jobs_earliest.l0 : Nat → List Int → List Int → List Int → Int → List Int → List Int → List Int → Option (List Int × Int)
 | 0, _, _, _, _, _, _, _ => none
 | k + 1, x4, x5, x6, x7, x345000, x345001, x345002 => impl_Jobs_earliest.l1 k x4 x5 x6 x7 (x4.length : Int) 0 x345000 x345001 x345002
def impl_Jobs_earliest.l1 : Nat → List Int → List Int → List Int → Int → Int → Int → List Int → List Int → List Int → Option (List Int × Int)
 | 0, _, _, _, _, _, _, _, _, _ => none
 | k + 1, x4, x5, x6, x7, x21, x22, x345000, x345001, x345002 => if x22 < x21 then (if 0 ≤ x22 then (if x22 < (x4.length : Int) then (if (rd x4 x22) > 0 then (if x22 < (x5.length : Int) then (if (rd x5 x22) ≤ x7 then (some (x6, x22)) else (impl_Jobs_earliest.l1 k x4 x5 x6 x7 x21 (wrap64 (x22 + 1)) x345000 x345001 x345002)) else (none)) else (impl_Jobs_earliest.l1 k x4 x5 x6 x7 x21 (wrap64 (x22 + 1)) x345000 x345001 x345002)) else (none)) else (none)) else ((impl_Jobs_whole.f k x345000 x345001 x345002).bind fun t355 => (if x7 = t355 then (some (x6, (-1))) else (impl_Jobs_earliest.l2 k x4 x5 x6 x7 (-1) x345001 (x345001.length : Int) 0 x345000 x345001 x345002)))
def impl_Jobs_earliest.l2 : Nat → List Int → List Int → List Int → Int → Int → List Int → Int → Int → List Int → List Int → List Int → Option (List Int × Int)
 | 0, _, _, _, _, _, _, _, _, _, _, _ => none
 | k + 1, x4, x5, x6, x7, x9, x47, x48, x49, x345000, x345001, x345002 => if x49 < x48 then (if 0 ≤ x49 then (if x49 < (x47.length : Int) then (if (rd x47 x49) = 0 then (none) else (if (Int.tmod x7 (rd x47 x49)) = 0 then (if x49 < (x345000.length : Int) then (if x49 < (x345002.length : Int) then (if x49 < (x4.length : Int) then ((some (x4.set (x49 : Int).toNat (rd x345000 x49) : List Int)).bind fun y367 => (if x49 < (x5.length : Int) then ((some (x5.set (x49 : Int).toNat (wrap64 (x7 + (rd x345002 x49))) : List Int)).bind fun y368 => (if (rd y367 x49) > 0 then (if x9 = (-1) then (impl_Jobs_earliest.l2 k y367 y368 x6 x7 x49 x47 x48 (wrap64 (x49 + 1)) x345000 x345001 x345002) else (if 0 ≤ x9 then (if x9 < (x5.length : Int) then (if (rd y368 x49) < (rd y368 x9) then (impl_Jobs_earliest.l2 k y367 y368 x6 x7 x49 x47 x48 (wrap64 (x49 + 1)) x345000 x345001 x345002) else (impl_Jobs_earliest.l2 k y367 y368 x6 x7 x9 x47 x48 (wrap64 (x49 + 1)) x345000 x345001 x345002)) else (none)) else (none))) else (impl_Jobs_earliest.l2 k y367 y368 x6 x7 x9 x47 x48 (wrap64 (x49 + 1)) x345000 x345001 x345002))) else (none))) else (none)) else (none)) else (none)) else (if x49 < (x4.length : Int) then (if (rd x4 x49) > 0 then (if x9 = (-1) then (impl_Jobs_earliest.l2 k x4 x5 x6 x7 x49 x47 x48 (wrap64 (x49 + 1)) x345000 x345001 x345002) else (if x49 < (x5.length : Int) then (if 0 ≤ x9 then (if x9 < (x5.length : Int) then (if (rd x5 x49) < (rd x5 x9) then (impl_Jobs_earliest.l2 k x4 x5 x6 x7 x49 x47 x48 (wrap64 (x49 + 1)) x345000 x345001 x345002) else (impl_Jobs_earliest.l2 k x4 x5 x6 x7 x9 x47 x48 (wrap64 (x49 + 1)) x345000 x345001 x345002)) else (none)) else (none)) else (none))) else (impl_Jobs_earliest.l2 k x4 x5 x6 x7 x9 x47 x48 (wrap64 (x49 + 1)) x345000 x345001 x345002)) else (none)))) else (none)) else (none)) else (if x9 = (-1) then (if x6.length < 17592186044416 then (impl_Jobs_earliest.l0 k x4 x5 (x6 ++ [x9]) (wrap64 (x7 + 1)) x345000 x345001 x345002) else (none)) else (if 0 ≤ x9 then (if x9 < (x4.length : Int) then (if x6.length < 17592186044416 then (impl_Jobs_earliest.l0 k (x4.set (x9 : Int).toNat (wrap64 ((rd x4 x9) - 1))) x5 (x6 ++ [x9]) (wrap64 (x7 + 1)) x345000 x345001 x345002) else (none)) else (none)) else (none)))
end
def impl_Jobs_earliest.f (k : Nat) (l0_0 : List Int) (l0_1 : List Int) (l0_2 : List Int) : Option (List Int × Int) := (impl_Jobs_many.f l0_0 l0_1 l0_2).bind fun t345 => (if 0 ≤ t345 then (if (t345 : Int).toNat ≤ 35184372088832 then ((impl_Jobs_many.f l0_0 l0_1 l0_2).bind fun t349 => (if 0 ≤ t349 then (if (t349 : Int).toNat ≤ 35184372088832 then (impl_Jobs_earliest.l0 k (List.replicate (t345 : Int).toNat 0) (List.replicate (t349 : Int).toNat 0) ([] : List Int) 0 l0_0 l0_1 l0_2) else (none)) else (none))) else (none)) else (none))
def impl_Jobs_earliest.T1 : Bool × List (List Nat × List Nat) := (true, [([], []), ([0], [0]), ([1, 1], [1]), ([], []), ([3, 1], [3]), ([4, 4], [4]), ([2, 4, 0, 1, 2], [2]), ([5, 6, 0, 1, 2, 3, 4, 5, 6], [5])])
def impl_Jobs_earliest.B1 : List Nat := [0, 1, 3, 0, 11, 27, 31, 127]
theorem impl_Jobs_earliest.tab1 : rtab .any (opsOf Try.f67 1) = impl_Jobs_earliest.T1 := by kernel_rfl
theorem impl_Jobs_earliest.bits1 : waitsOk impl_Jobs_earliest.T1.2 impl_Jobs_earliest.B1 = true := by kernel_rfl
def impl_Jobs_earliest.T18 : Bool × List (List Nat × List Nat) := (true, [([], []), ([], []), ([], []), ([], []), ([], []), ([4], [4]), ([], []), ([5, 6], [5, 6]), ([7], [7]), ([], []), ([], []), ([10], [10]), ([], []), ([11, 12], [11, 12]), ([13], [13]), ([9, 14], [9, 14]), ([0, 1, 0, 1, 4, 5, 6, 7, 8, 14], [0, 1]), ([16, 8, 0, 1, 4, 5, 6, 7, 8, 14], [8, 16]), ([2, 3, 0, 1, 2, 3, 4, 5, 6, 7, 8, 9, 10, 11, 12, 13, 14, 15, 16, 17], [2, 3]), ([18, 15, 17, 0, 1, 2, 3, 4, 5, 6, 7, 8, 9, 10, 11, 12, 13, 14, 15, 16, 17], [15, 18])])
def impl_Jobs_earliest.B18 : List Nat := [0, 0, 0, 0, 0, 16, 0, 112, 240, 0, 0, 1024, 0, 7168, 15360, 32256, 32243, 97779, 262143, 524287]
theorem impl_Jobs_earliest.tab18 : rtab .any (opsOf Try.f67 18) = impl_Jobs_earliest.T18 := by kernel_rfl
theorem impl_Jobs_earliest.bits18 : waitsOk impl_Jobs_earliest.T18.2 impl_Jobs_earliest.B18 = true := by kernel_rfl
def impl_Jobs_earliest.T19 : Bool × List (List Nat × List Nat) := (true, [([], []), ([], []), ([0, 1], [0, 1]), ([2], [2]), ([3], [3]), ([4], [4]), ([5], [5]), ([6, 5], [5, 6]), ([7, 5, 5], [5, 7]), ([8], [8]), ([8], [8]), ([9, 10, 8], [8, 9, 10]), ([11, 8], [8, 11]), ([8], [8]), ([8], [8]), ([13, 14, 8], [8, 13, 14]), ([15, 8], [8, 15]), ([12, 16, 8], [8, 12, 16]), ([8, 17, 5], [5, 8, 17]), ([5, 18], [5, 18])])
def impl_Jobs_earliest.B19 : List Nat := [0, 0, 3, 7, 15, 31, 63, 127, 255, 511, 511, 2047, 4095, 511, 511, 25087, 57855, 131071, 262143, 524287]
theorem impl_Jobs_earliest.tab19 : rtab .any (opsOf Try.f67 19) = impl_Jobs_earliest.T19 := by kernel_rfl
theorem impl_Jobs_earliest.bits19 : waitsOk impl_Jobs_earliest.T19.2 impl_Jobs_earliest.B19 = true := by kernel_rfl
end Go.Proofs.Ytoakdilhljnjfaa.Q
