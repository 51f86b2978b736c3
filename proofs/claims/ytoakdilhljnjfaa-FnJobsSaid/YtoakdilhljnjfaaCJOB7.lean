/- Jobs can be met exactly if no demand is too great, and none is late then. (Part 7 of 7.) No conditions beside those of the statement. -/
import Derived.Test.YtoakdilhljnjfaaCJOB6
namespace Go.Proofs.Ytoakdilhljnjfaa.Q
open Go.RowKit Go.Proofs.YtoakdilhljnjfaaW.PrintWords Go.Proofs.YtoakdilhljnjfaaW.PrintLast Go.Proofs.YtoakdilhljnjfaaW.PrintMore
attribute [local go_sem] max2_int min2_int max_two min_two max_three min_three max_four min_four   -- for this text's walks alone
set_option linter.unusedVariables false
set_option linter.unusedSimpArgs false
set_option maxHeartbeats 8000000 in
set_option maxRecDepth 100000 in
theorem impl_DeadlineSlots.calls (k : Nat) (A0_0 : Option Addr) (c0_0 : Nat) (l0_0 : List Int) (A0_1 : Option Addr) (c0_1 : Nat) (l0_1 : List Int) (A0_2 : Option Addr) (c0_2 : Nat) (l0_2 : List Int) (r1 : List Int) (r2 : Int) (w : World) (hr0_0 : Kd.C (Kd.int .i64) w A0_0 l0_0.length l0_0) (hc0_0 : l0_0.length ≤ c0_0) (hr0_1 : Kd.C (Kd.int .i64) w A0_1 l0_1.length l0_1) (hc0_1 : l0_1.length ≤ c0_1) (hr0_2 : Kd.C (Kd.int .i64) w A0_2 l0_2.length l0_2) (hc0_2 : l0_2.length ≤ c0_2) (h : impl_DeadlineSlots.f k l0_0 l0_1 l0_2 = some (r1, r2)) :
 Calls Try.prog 24 #[.agg #[.slice A0_0 l0_0.length c0_0, .slice A0_1 l0_1.length c0_1, .slice A0_2 l0_2.length c0_2]] w fun e w' => ∃ v0_ : Value, e = .returned (.tuple #[v0_, .int .i64 r2]) ∧ Kd.R (Kd.int .i64) 2 w' w.heap.size (fun _ => True) v0_ r1 ∧ Below w.heap.size w w' := by
 have hu33 := Try.underlying33
 have HR0_0 := Aside0.mk hr0_0
 have HC0_0 := Aside0.mk hc0_0
 clear hr0_0 hc0_0
 have HR0_1 := Aside0.mk hr0_1
 have HC0_1 := Aside0.mk hc0_1
 clear hr0_1 hc0_1
 have HR0_2 := Aside0.mk hr0_2
 have HC0_2 := Aside0.mk hc0_2
 clear hr0_2 hc0_2
 have HB := Aside0.mk (Below.refl w.heap.size w)
 have H : ((impl_jobsCode.f k l0_0 l0_1 l0_2 true true).bind fun t376 => (if t376 = 0 then ((impl_Jobs_earliest.f k l0_0 l0_1 l0_2).bind fun bt377 => (some (bt377.1, 0))) else (some (([] : List Int), t376)))) = some (r1, r2) := h
 clear h
 replace H := Option.bind_eq_some_iff.mp H
 obtain ⟨t376, A20, H⟩ := H
 replace H : (if t376 = 0 then ((impl_Jobs_earliest.f k l0_0 l0_1 l0_2).bind fun bt377 => (some (bt377.1, 0))) else (some (([] : List Int), t376))) = some (r1, r2) := H
 have A2 := Aside0.mk A20
 clear A20
 by_cases c3 : t376 = 0
 rotate_left
 · rw [if_neg c3] at H
   have c3b0 : (t376 == 0) = false := beq_eq_false_iff_ne.mpr c3
   have c3b1 : (t376 != 0) = true := bne_iff_ne.mpr c3
   simp only [Option.some.injEq, Prod.mk.injEq] at H
   obtain ⟨rfl, rfl⟩ := H
   go_enter Try.func24, Try.ntmps24
   go_wp2_with (first | ((with_reducible refine gate_dst (N := 1) rfl ?_); refine box_event ?hg (N := 1) ?hd (cs := #[.slice A0_0 l0_0.length c0_0, .slice A0_1 l0_1.length c0_1, .slice A0_2 l0_2.length c0_2]) (t := 33) ?hr ?_; (case hd => rfl); (case hg => rfl); (case hr => (go_simp; done)); intro gb375 hg w10 hbox hb; have n0_ := Aside0.mk (below_step HB.out hb); have n1_ := Aside0.mk (hbox); have n2_ := Aside0.mk ((by rw [hg]; exact (below_size HB.out) : w.heap.size ≤ gb375)); have n3_ := Aside0.mk ((by rw [hg]; exact (below_size HB.out) : w.heap.size ≤ gb375)); clear HB; have HB := n0_; have BK375 := n1_; have GW375 := n2_; have GE375 := n3_; clear n0_ n1_ n2_ n3_; clear hb hbox hg; have hcz11_0 : w10.cell? ⟨gb375, 0, none⟩ = some (.slice A0_0 l0_0.length c0_0) := (blk_cell BK375.out 0).trans rfl; have hcz11_1 : w10.cell? ⟨gb375, 1, none⟩ = some (.slice A0_1 l0_1.length c0_1) := (blk_cell BK375.out 1).trans rfl; have hcz11_2 : w10.cell? ⟨gb375, 2, none⟩ = some (.slice A0_2 l0_2.length c0_2) := (blk_cell BK375.out 2).trans rfl; have hfz11_0 := blk_frozen BK375.out 0; have hfz11_1 := blk_frozen BK375.out 1; have hfz11_2 := blk_frozen BK375.out 2) | ((with_reducible refine gate_callee (f := 56) rfl ?_); refine goesL_ (some 8) rfl rfl Try.func56 (by kernel_rfl) rfl #[.agg #[.slice A0_0 l0_0.length c0_0, .slice A0_1 l0_1.length c0_1, .slice A0_2 l0_2.length c0_2], .bool true, .bool true] rfl (by (try simp only [List.map_toArray, List.map_cons, List.map_nil]); rfl) ?_; (with_reducible refine (impl_jobsCode.calls k _ _ l0_0 _ _ l0_1 _ _ l0_2 true true t376 _ ?side1 ?side2 ?side3 ?side4 ?side5 ?side6 A2.out).mono ?_); (case side1 => exact (Kd.C_below HR0_0.out HB.out)); (case side2 => exact HC0_0.out); (case side3 => exact (Kd.C_below HR0_1.out HB.out)); (case side4 => exact HC0_1.out); (case side5 => exact (Kd.C_below HR0_2.out HB.out)); (case side6 => exact HC0_2.out); rintro e w12 ⟨rfl, hb⟩; refine ⟨_, rfl, ?_⟩; have n0_ := Aside0.mk (blk_below (g := gb375) (o := .cells #[.slice A0_0 l0_0.length c0_0, .slice A0_1 l0_1.length c0_1, .slice A0_2 l0_2.length c0_2] 33 (0, 0)) BK375.out hb); have n1_ := Aside0.mk (below_step HB.out hb); clear BK375; clear HB; have BK375 := n0_; have HB := n1_; clear n0_ n1_; (try clear hb); (try clear hb2); (try clear hk); (try clear hi)))
   go_ret2
   exact ⟨_, by rfl, by exact Kd.R_nil _ _ _ _ _, by exact HB.out⟩
 rw [if_pos c3] at H
 have c3b0 : (t376 == 0) = true := beq_iff_eq.mpr c3
 have c3b1 : (t376 != 0) = false := bne_eq_false_iff_eq.mpr c3
 clear c3
 replace H := Option.bind_eq_some_iff.mp H
 obtain ⟨⟨t377, t380⟩, A40, H⟩ := H
 replace H : (some (t377, 0)) = some (r1, r2) := H
 have A4 := Aside0.mk A40
 clear A40
 simp only [Option.some.injEq, Prod.mk.injEq] at H
 obtain ⟨rfl, rfl⟩ := H
 go_enter Try.func24, Try.ntmps24
 go_wp2_with (first | ((with_reducible refine gate_dst (N := 1) rfl ?_); refine box_event ?hg (N := 1) ?hd (cs := #[.slice A0_0 l0_0.length c0_0, .slice A0_1 l0_1.length c0_1, .slice A0_2 l0_2.length c0_2]) (t := 33) ?hr ?_; (case hd => rfl); (case hg => rfl); (case hr => (go_simp; done)); intro gb375 hg w5 hbox hb; have n0_ := Aside0.mk (below_step HB.out hb); have n1_ := Aside0.mk (hbox); have n2_ := Aside0.mk ((by rw [hg]; exact (below_size HB.out) : w.heap.size ≤ gb375)); have n3_ := Aside0.mk ((by rw [hg]; exact (below_size HB.out) : w.heap.size ≤ gb375)); clear HB; have HB := n0_; have BK375 := n1_; have GW375 := n2_; have GE375 := n3_; clear n0_ n1_ n2_ n3_; clear hb hbox hg; have hcz6_0 : w5.cell? ⟨gb375, 0, none⟩ = some (.slice A0_0 l0_0.length c0_0) := (blk_cell BK375.out 0).trans rfl; have hcz6_1 : w5.cell? ⟨gb375, 1, none⟩ = some (.slice A0_1 l0_1.length c0_1) := (blk_cell BK375.out 1).trans rfl; have hcz6_2 : w5.cell? ⟨gb375, 2, none⟩ = some (.slice A0_2 l0_2.length c0_2) := (blk_cell BK375.out 2).trans rfl; have hfz6_0 := blk_frozen BK375.out 0; have hfz6_1 := blk_frozen BK375.out 1; have hfz6_2 := blk_frozen BK375.out 2) | ((with_reducible refine gate_callee (f := 56) rfl ?_); refine goesL_ (some 8) rfl rfl Try.func56 (by kernel_rfl) rfl #[.agg #[.slice A0_0 l0_0.length c0_0, .slice A0_1 l0_1.length c0_1, .slice A0_2 l0_2.length c0_2], .bool true, .bool true] rfl (by (try simp only [List.map_toArray, List.map_cons, List.map_nil]); rfl) ?_; (with_reducible refine (impl_jobsCode.calls k _ _ l0_0 _ _ l0_1 _ _ l0_2 true true t376 _ ?side1 ?side2 ?side3 ?side4 ?side5 ?side6 A2.out).mono ?_); (case side1 => exact (Kd.C_below HR0_0.out HB.out)); (case side2 => exact HC0_0.out); (case side3 => exact (Kd.C_below HR0_1.out HB.out)); (case side4 => exact HC0_1.out); (case side5 => exact (Kd.C_below HR0_2.out HB.out)); (case side6 => exact HC0_2.out); rintro e w7 ⟨rfl, hb⟩; refine ⟨_, rfl, ?_⟩; have n0_ := Aside0.mk (blk_below (g := gb375) (o := .cells #[.slice A0_0 l0_0.length c0_0, .slice A0_1 l0_1.length c0_1, .slice A0_2 l0_2.length c0_2] 33 (0, 0)) BK375.out hb); have n1_ := Aside0.mk (below_step HB.out hb); clear BK375; clear HB; have BK375 := n0_; have HB := n1_; clear n0_ n1_; (try clear hb); (try clear hb2); (try clear hk); (try clear hi); have hcz8_0 : w7.cell? ⟨gb375, 0, none⟩ = some (.slice A0_0 l0_0.length c0_0) := (blk_cell BK375.out 0).trans rfl; have hcz8_1 : w7.cell? ⟨gb375, 1, none⟩ = some (.slice A0_1 l0_1.length c0_1) := (blk_cell BK375.out 1).trans rfl; have hcz8_2 : w7.cell? ⟨gb375, 2, none⟩ = some (.slice A0_2 l0_2.length c0_2) := (blk_cell BK375.out 2).trans rfl; have hfz8_0 := blk_frozen BK375.out 0; have hfz8_1 := blk_frozen BK375.out 1; have hfz8_2 := blk_frozen BK375.out 2) | ((with_reducible refine gate_callee (f := 67) rfl ?_); refine goesL_ (some 14) rfl rfl Try.func67 (by kernel_rfl) rfl #[.agg #[.slice A0_0 l0_0.length c0_0, .slice A0_1 l0_1.length c0_1, .slice A0_2 l0_2.length c0_2]] rfl (by (try simp only [List.map_toArray, List.map_cons, List.map_nil]); rfl) ?_; (with_reducible refine (impl_Jobs_earliest.calls k _ _ l0_0 _ _ l0_1 _ _ l0_2 t377 t380 _ ?side1 ?side2 ?side3 ?side4 ?side5 ?side6 A4.out).mono ?_); (case side1 => exact (Kd.C_below HR0_0.out HB.out)); (case side2 => exact HC0_0.out); (case side3 => exact (Kd.C_below HR0_1.out HB.out)); (case side4 => exact HC0_1.out); (case side5 => exact (Kd.C_below HR0_2.out HB.out)); (case side6 => exact HC0_2.out); rintro e w9 ⟨v378, rfl, ho0, hb⟩; refine ⟨_, rfl, ?_⟩; have n0_ := Aside0.mk (Kd.R_lower ho0 (below_size HB.out)); have n1_ := Aside0.mk (blk_below (g := gb375) (o := .cells #[.slice A0_0 l0_0.length c0_0, .slice A0_1 l0_1.length c0_1, .slice A0_2 l0_2.length c0_2] 33 (0, 0)) BK375.out hb); have n2_ := Aside0.mk (below_step HB.out hb); clear BK375; clear HB; have HO379 := n0_; have BK375 := n1_; have HB := n2_; clear n0_ n1_ n2_; (try clear hb); (try clear hb2); (try clear hk); (try clear hi); (try clear ho0)))
 go_ret2
 exact ⟨_, by rfl, by exact HO379.out, by exact HB.out⟩
end Go.Proofs.Ytoakdilhljnjfaa.Q
namespace Go.Proofs.Ytoakdilhljnjfaa.Q
open Go.RowKit Go.Proofs.YtoakdilhljnjfaaW.PrintWords Go.Proofs.YtoakdilhljnjfaaW.PrintLast Go.Proofs.YtoakdilhljnjfaaW.PrintMore
attribute [local go_sem] max2_int min2_int max_two min_two max_three min_three max_four min_four   -- for this text's walks alone
set_option linter.unusedVariables false
set_option linter.unusedSimpArgs false
def spec_DeadlineSlots.f (k : Nat) (l0_0 : List Int) (l0_1 : List Int) (l0_2 : List Int) : Option (List Int × Int) := (spec_l04Code.f k l0_0 l0_1 l0_2).bind fun t429 => (if t429 = 0 then ((spec_l04Slots.f k l0_0 l0_1 l0_2).bind fun bt430 => (some (bt430.1, 0))) else (some (([] : List Int), t429)))
set_option maxHeartbeats 8000000 in
set_option maxRecDepth 100000 in
theorem spec_DeadlineSlots.calls (k : Nat) (A0_0 : Option Addr) (c0_0 : Nat) (l0_0 : List Int) (A0_1 : Option Addr) (c0_1 : Nat) (l0_1 : List Int) (A0_2 : Option Addr) (c0_2 : Nat) (l0_2 : List Int) (r1 : List Int) (r2 : Int) (w : World) (hr0_0 : Kd.C (Kd.int .i64) w A0_0 l0_0.length l0_0) (hc0_0 : l0_0.length ≤ c0_0) (hr0_1 : Kd.C (Kd.int .i64) w A0_1 l0_1.length l0_1) (hc0_1 : l0_1.length ≤ c0_1) (hr0_2 : Kd.C (Kd.int .i64) w A0_2 l0_2.length l0_2) (hc0_2 : l0_2.length ≤ c0_2) (h : spec_DeadlineSlots.f k l0_0 l0_1 l0_2 = some (r1, r2)) :
 Calls Try.prog 25 #[.agg #[.slice A0_0 l0_0.length c0_0, .slice A0_1 l0_1.length c0_1, .slice A0_2 l0_2.length c0_2]] w fun e w' => ∃ v0_ : Value, e = .returned (.tuple #[v0_, .int .i64 r2]) ∧ Kd.R (Kd.int .i64) 2 w' w.heap.size (fun _ => True) v0_ r1 ∧ Below w.heap.size w w' := by
 have hu33 := Try.underlying33
 have HR0_0 := Aside0.mk hr0_0
 have HC0_0 := Aside0.mk hc0_0
 clear hr0_0 hc0_0
 have HR0_1 := Aside0.mk hr0_1
 have HC0_1 := Aside0.mk hc0_1
 clear hr0_1 hc0_1
 have HR0_2 := Aside0.mk hr0_2
 have HC0_2 := Aside0.mk hc0_2
 clear hr0_2 hc0_2
 have HB := Aside0.mk (Below.refl w.heap.size w)
 have H : ((spec_l04Code.f k l0_0 l0_1 l0_2).bind fun t429 => (if t429 = 0 then ((spec_l04Slots.f k l0_0 l0_1 l0_2).bind fun bt430 => (some (bt430.1, 0))) else (some (([] : List Int), t429)))) = some (r1, r2) := h
 clear h
 replace H := Option.bind_eq_some_iff.mp H
 obtain ⟨t429, A20, H⟩ := H
 replace H : (if t429 = 0 then ((spec_l04Slots.f k l0_0 l0_1 l0_2).bind fun bt430 => (some (bt430.1, 0))) else (some (([] : List Int), t429))) = some (r1, r2) := H
 have A2 := Aside0.mk A20
 clear A20
 by_cases c3 : t429 = 0
 rotate_left
 · rw [if_neg c3] at H
   have c3b0 : (t429 == 0) = false := beq_eq_false_iff_ne.mpr c3
   have c3b1 : (t429 != 0) = true := bne_iff_ne.mpr c3
   simp only [Option.some.injEq, Prod.mk.injEq] at H
   obtain ⟨rfl, rfl⟩ := H
   go_enter Try.func25, Try.ntmps25
   go_wp2_with (first | ((with_reducible refine gate_dst (N := 1) rfl ?_); refine box_event ?hg (N := 1) ?hd (cs := #[.slice A0_0 l0_0.length c0_0, .slice A0_1 l0_1.length c0_1, .slice A0_2 l0_2.length c0_2]) (t := 33) ?hr ?_; (case hd => rfl); (case hg => rfl); (case hr => (go_simp; done)); intro gb428 hg w10 hbox hb; have n0_ := Aside0.mk (below_step HB.out hb); have n1_ := Aside0.mk (hbox); have n2_ := Aside0.mk ((by rw [hg]; exact (below_size HB.out) : w.heap.size ≤ gb428)); have n3_ := Aside0.mk ((by rw [hg]; exact (below_size HB.out) : w.heap.size ≤ gb428)); clear HB; have HB := n0_; have BK428 := n1_; have GW428 := n2_; have GE428 := n3_; clear n0_ n1_ n2_ n3_; clear hb hbox hg; have hcz11_0 : w10.cell? ⟨gb428, 0, none⟩ = some (.slice A0_0 l0_0.length c0_0) := (blk_cell BK428.out 0).trans rfl; have hcz11_1 : w10.cell? ⟨gb428, 1, none⟩ = some (.slice A0_1 l0_1.length c0_1) := (blk_cell BK428.out 1).trans rfl; have hcz11_2 : w10.cell? ⟨gb428, 2, none⟩ = some (.slice A0_2 l0_2.length c0_2) := (blk_cell BK428.out 2).trans rfl; have hfz11_0 := blk_frozen BK428.out 0; have hfz11_1 := blk_frozen BK428.out 1; have hfz11_2 := blk_frozen BK428.out 2) | ((with_reducible refine gate_callee (f := 68) rfl ?_); refine goesL_ (some 9) rfl rfl Try.func68 (by kernel_rfl) rfl #[.agg #[.slice A0_0 l0_0.length c0_0, .slice A0_1 l0_1.length c0_1, .slice A0_2 l0_2.length c0_2]] rfl (by (try simp only [List.map_toArray, List.map_cons, List.map_nil]); rfl) ?_; (with_reducible refine (spec_l04Code.calls k _ _ l0_0 _ _ l0_1 _ _ l0_2 t429 _ ?side1 ?side2 ?side3 ?side4 ?side5 ?side6 A2.out).mono ?_); (case side1 => exact (Kd.C_below HR0_0.out HB.out)); (case side2 => exact HC0_0.out); (case side3 => exact (Kd.C_below HR0_1.out HB.out)); (case side4 => exact HC0_1.out); (case side5 => exact (Kd.C_below HR0_2.out HB.out)); (case side6 => exact HC0_2.out); rintro e w12 ⟨rfl, hb⟩; refine ⟨_, rfl, ?_⟩; have n0_ := Aside0.mk (blk_below (g := gb428) (o := .cells #[.slice A0_0 l0_0.length c0_0, .slice A0_1 l0_1.length c0_1, .slice A0_2 l0_2.length c0_2] 33 (0, 0)) BK428.out hb); have n1_ := Aside0.mk (below_step HB.out hb); clear BK428; clear HB; have BK428 := n0_; have HB := n1_; clear n0_ n1_; (try clear hb); (try clear hb2); (try clear hk); (try clear hi)))
   go_ret2
   exact ⟨_, by rfl, by exact Kd.R_nil _ _ _ _ _, by exact HB.out⟩
 rw [if_pos c3] at H
 have c3b0 : (t429 == 0) = true := beq_iff_eq.mpr c3
 have c3b1 : (t429 != 0) = false := bne_eq_false_iff_eq.mpr c3
 clear c3
 replace H := Option.bind_eq_some_iff.mp H
 obtain ⟨⟨t430, t433, t434⟩, A40, H⟩ := H
 replace H : (some (t430, 0)) = some (r1, r2) := H
 have A4 := Aside0.mk A40
 clear A40
 simp only [Option.some.injEq, Prod.mk.injEq] at H
 obtain ⟨rfl, rfl⟩ := H
 go_enter Try.func25, Try.ntmps25
 go_wp2_with (first | ((with_reducible refine gate_dst (N := 1) rfl ?_); refine box_event ?hg (N := 1) ?hd (cs := #[.slice A0_0 l0_0.length c0_0, .slice A0_1 l0_1.length c0_1, .slice A0_2 l0_2.length c0_2]) (t := 33) ?hr ?_; (case hd => rfl); (case hg => rfl); (case hr => (go_simp; done)); intro gb428 hg w5 hbox hb; have n0_ := Aside0.mk (below_step HB.out hb); have n1_ := Aside0.mk (hbox); have n2_ := Aside0.mk ((by rw [hg]; exact (below_size HB.out) : w.heap.size ≤ gb428)); have n3_ := Aside0.mk ((by rw [hg]; exact (below_size HB.out) : w.heap.size ≤ gb428)); clear HB; have HB := n0_; have BK428 := n1_; have GW428 := n2_; have GE428 := n3_; clear n0_ n1_ n2_ n3_; clear hb hbox hg; have hcz6_0 : w5.cell? ⟨gb428, 0, none⟩ = some (.slice A0_0 l0_0.length c0_0) := (blk_cell BK428.out 0).trans rfl; have hcz6_1 : w5.cell? ⟨gb428, 1, none⟩ = some (.slice A0_1 l0_1.length c0_1) := (blk_cell BK428.out 1).trans rfl; have hcz6_2 : w5.cell? ⟨gb428, 2, none⟩ = some (.slice A0_2 l0_2.length c0_2) := (blk_cell BK428.out 2).trans rfl; have hfz6_0 := blk_frozen BK428.out 0; have hfz6_1 := blk_frozen BK428.out 1; have hfz6_2 := blk_frozen BK428.out 2) | ((with_reducible refine gate_callee (f := 68) rfl ?_); refine goesL_ (some 9) rfl rfl Try.func68 (by kernel_rfl) rfl #[.agg #[.slice A0_0 l0_0.length c0_0, .slice A0_1 l0_1.length c0_1, .slice A0_2 l0_2.length c0_2]] rfl (by (try simp only [List.map_toArray, List.map_cons, List.map_nil]); rfl) ?_; (with_reducible refine (spec_l04Code.calls k _ _ l0_0 _ _ l0_1 _ _ l0_2 t429 _ ?side1 ?side2 ?side3 ?side4 ?side5 ?side6 A2.out).mono ?_); (case side1 => exact (Kd.C_below HR0_0.out HB.out)); (case side2 => exact HC0_0.out); (case side3 => exact (Kd.C_below HR0_1.out HB.out)); (case side4 => exact HC0_1.out); (case side5 => exact (Kd.C_below HR0_2.out HB.out)); (case side6 => exact HC0_2.out); rintro e w7 ⟨rfl, hb⟩; refine ⟨_, rfl, ?_⟩; have n0_ := Aside0.mk (blk_below (g := gb428) (o := .cells #[.slice A0_0 l0_0.length c0_0, .slice A0_1 l0_1.length c0_1, .slice A0_2 l0_2.length c0_2] 33 (0, 0)) BK428.out hb); have n1_ := Aside0.mk (below_step HB.out hb); clear BK428; clear HB; have BK428 := n0_; have HB := n1_; clear n0_ n1_; (try clear hb); (try clear hb2); (try clear hk); (try clear hi); have hcz8_0 : w7.cell? ⟨gb428, 0, none⟩ = some (.slice A0_0 l0_0.length c0_0) := (blk_cell BK428.out 0).trans rfl; have hcz8_1 : w7.cell? ⟨gb428, 1, none⟩ = some (.slice A0_1 l0_1.length c0_1) := (blk_cell BK428.out 1).trans rfl; have hcz8_2 : w7.cell? ⟨gb428, 2, none⟩ = some (.slice A0_2 l0_2.length c0_2) := (blk_cell BK428.out 2).trans rfl; have hfz8_0 := blk_frozen BK428.out 0; have hfz8_1 := blk_frozen BK428.out 1; have hfz8_2 := blk_frozen BK428.out 2) | ((with_reducible refine gate_callee (f := 69) rfl ?_); refine goesL_ (some 15) rfl rfl Try.func69 (by kernel_rfl) rfl #[.agg #[.slice A0_0 l0_0.length c0_0, .slice A0_1 l0_1.length c0_1, .slice A0_2 l0_2.length c0_2]] rfl (by (try simp only [List.map_toArray, List.map_cons, List.map_nil]); rfl) ?_; (with_reducible refine (spec_l04Slots.calls k _ _ l0_0 _ _ l0_1 _ _ l0_2 t430 t433 t434 _ ?side1 ?side2 ?side3 ?side4 ?side5 ?side6 A4.out).mono ?_); (case side1 => exact (Kd.C_below HR0_0.out HB.out)); (case side2 => exact HC0_0.out); (case side3 => exact (Kd.C_below HR0_1.out HB.out)); (case side4 => exact HC0_1.out); (case side5 => exact (Kd.C_below HR0_2.out HB.out)); (case side6 => exact HC0_2.out); rintro e w9 ⟨v431, rfl, ho0, hb⟩; refine ⟨_, rfl, ?_⟩; have n0_ := Aside0.mk (Kd.R_lower ho0 (below_size HB.out)); have n1_ := Aside0.mk (blk_below (g := gb428) (o := .cells #[.slice A0_0 l0_0.length c0_0, .slice A0_1 l0_1.length c0_1, .slice A0_2 l0_2.length c0_2] 33 (0, 0)) BK428.out hb); have n2_ := Aside0.mk (below_step HB.out hb); clear BK428; clear HB; have HO432 := n0_; have BK428 := n1_; have HB := n2_; clear n0_ n1_ n2_; (try clear hb); (try clear hb2); (try clear hk); (try clear hi); (try clear ho0)))
 go_ret2
 exact ⟨_, by rfl, by exact HO432.out, by exact HB.out⟩
end Go.Proofs.Ytoakdilhljnjfaa.Q
namespace Go.Proofs.Ytoakdilhljnjfaa.Q
open Go.RowKit Go.Proofs.YtoakdilhljnjfaaW.PrintWords Go.Proofs.YtoakdilhljnjfaaW.PrintLast Go.Proofs.YtoakdilhljnjfaaW.PrintMore
attribute [local go_sem] max2_int min2_int max_two min_two max_three min_three max_four min_four   -- for this text's walks alone
set_option linter.unusedVariables false
set_option linter.unusedSimpArgs false
def impl_FirstLate.f (k : Nat) (l0_0 : List Int) (l0_1 : List Int) (l0_2 : List Int) : Option (Int × Int × Int) := (impl_jobsCode.f k l0_0 l0_1 l0_2 true true).bind fun t438 => (if t438 = 0 then ((impl_Jobs_earliest.f k l0_0 l0_1 l0_2).bind fun bt439 => (if bt439.2 < 0 then (some (0, 0, 4)) else ((impl_length_int64.f bt439.1).bind fun t443 => (some (t443, bt439.2, 0))))) else (some (0, 0, t438)))
set_option maxHeartbeats 8000000 in
set_option maxRecDepth 100000 in
theorem impl_FirstLate.calls (k : Nat) (A0_0 : Option Addr) (c0_0 : Nat) (l0_0 : List Int) (A0_1 : Option Addr) (c0_1 : Nat) (l0_1 : List Int) (A0_2 : Option Addr) (c0_2 : Nat) (l0_2 : List Int) (r1 : Int) (r2 : Int) (r3 : Int) (w : World) (hr0_0 : Kd.C (Kd.int .i64) w A0_0 l0_0.length l0_0) (hc0_0 : l0_0.length ≤ c0_0) (hr0_1 : Kd.C (Kd.int .i64) w A0_1 l0_1.length l0_1) (hc0_1 : l0_1.length ≤ c0_1) (hr0_2 : Kd.C (Kd.int .i64) w A0_2 l0_2.length l0_2) (hc0_2 : l0_2.length ≤ c0_2) (h : impl_FirstLate.f k l0_0 l0_1 l0_2 = some (r1, r2, r3)) :
 Calls Try.prog 27 #[.agg #[.slice A0_0 l0_0.length c0_0, .slice A0_1 l0_1.length c0_1, .slice A0_2 l0_2.length c0_2]] w fun e w' => e = .returned (.tuple #[.int .i64 r1, .int .i64 r2, .int .i64 r3]) ∧ Below w.heap.size w w' := by
 have hu33 := Try.underlying33
 have HR0_0 := Aside0.mk hr0_0
 have HC0_0 := Aside0.mk hc0_0
 clear hr0_0 hc0_0
 have HR0_1 := Aside0.mk hr0_1
 have HC0_1 := Aside0.mk hc0_1
 clear hr0_1 hc0_1
 have HR0_2 := Aside0.mk hr0_2
 have HC0_2 := Aside0.mk hc0_2
 clear hr0_2 hc0_2
 have HB := Aside0.mk (Below.refl w.heap.size w)
 have H : ((impl_jobsCode.f k l0_0 l0_1 l0_2 true true).bind fun t438 => (if t438 = 0 then ((impl_Jobs_earliest.f k l0_0 l0_1 l0_2).bind fun bt439 => (if bt439.2 < 0 then (some (0, 0, 4)) else ((impl_length_int64.f bt439.1).bind fun t443 => (some (t443, bt439.2, 0))))) else (some (0, 0, t438)))) = some (r1, r2, r3) := h
 clear h
 replace H := Option.bind_eq_some_iff.mp H
 obtain ⟨t438, A20, H⟩ := H
 replace H : (if t438 = 0 then ((impl_Jobs_earliest.f k l0_0 l0_1 l0_2).bind fun bt439 => (if bt439.2 < 0 then (some (0, 0, 4)) else ((impl_length_int64.f bt439.1).bind fun t443 => (some (t443, bt439.2, 0))))) else (some (0, 0, t438))) = some (r1, r2, r3) := H
 have A2 := Aside0.mk A20
 clear A20
 by_cases c3 : t438 = 0
 rotate_left
 · rw [if_neg c3] at H
   have c3b0 : (t438 == 0) = false := beq_eq_false_iff_ne.mpr c3
   have c3b1 : (t438 != 0) = true := bne_iff_ne.mpr c3
   simp only [Option.some.injEq, Prod.mk.injEq] at H
   obtain ⟨rfl, rfl, rfl⟩ := H
   go_enter Try.func27, Try.ntmps27
   go_wp2_with (first | ((with_reducible refine gate_dst (N := 1) rfl ?_); refine box_event ?hg (N := 1) ?hd (cs := #[.slice A0_0 l0_0.length c0_0, .slice A0_1 l0_1.length c0_1, .slice A0_2 l0_2.length c0_2]) (t := 33) ?hr ?_; (case hd => rfl); (case hg => rfl); (case hr => (go_simp; done)); intro gb437 hg w18 hbox hb; have n0_ := Aside0.mk (below_step HB.out hb); have n1_ := Aside0.mk (hbox); have n2_ := Aside0.mk ((by rw [hg]; exact (below_size HB.out) : w.heap.size ≤ gb437)); have n3_ := Aside0.mk ((by rw [hg]; exact (below_size HB.out) : w.heap.size ≤ gb437)); clear HB; have HB := n0_; have BK437 := n1_; have GW437 := n2_; have GE437 := n3_; clear n0_ n1_ n2_ n3_; clear hb hbox hg; have hcz19_0 : w18.cell? ⟨gb437, 0, none⟩ = some (.slice A0_0 l0_0.length c0_0) := (blk_cell BK437.out 0).trans rfl; have hcz19_1 : w18.cell? ⟨gb437, 1, none⟩ = some (.slice A0_1 l0_1.length c0_1) := (blk_cell BK437.out 1).trans rfl; have hcz19_2 : w18.cell? ⟨gb437, 2, none⟩ = some (.slice A0_2 l0_2.length c0_2) := (blk_cell BK437.out 2).trans rfl; have hfz19_0 := blk_frozen BK437.out 0; have hfz19_1 := blk_frozen BK437.out 1; have hfz19_2 := blk_frozen BK437.out 2) | ((with_reducible refine gate_callee (f := 56) rfl ?_); refine goesL_ (some 9) rfl rfl Try.func56 (by kernel_rfl) rfl #[.agg #[.slice A0_0 l0_0.length c0_0, .slice A0_1 l0_1.length c0_1, .slice A0_2 l0_2.length c0_2], .bool true, .bool true] rfl (by (try simp only [List.map_toArray, List.map_cons, List.map_nil]); rfl) ?_; (with_reducible refine (impl_jobsCode.calls k _ _ l0_0 _ _ l0_1 _ _ l0_2 true true t438 _ ?side1 ?side2 ?side3 ?side4 ?side5 ?side6 A2.out).mono ?_); (case side1 => exact (Kd.C_below HR0_0.out HB.out)); (case side2 => exact HC0_0.out); (case side3 => exact (Kd.C_below HR0_1.out HB.out)); (case side4 => exact HC0_1.out); (case side5 => exact (Kd.C_below HR0_2.out HB.out)); (case side6 => exact HC0_2.out); rintro e w20 ⟨rfl, hb⟩; refine ⟨_, rfl, ?_⟩; have n0_ := Aside0.mk (blk_below (g := gb437) (o := .cells #[.slice A0_0 l0_0.length c0_0, .slice A0_1 l0_1.length c0_1, .slice A0_2 l0_2.length c0_2] 33 (0, 0)) BK437.out hb); have n1_ := Aside0.mk (below_step HB.out hb); clear BK437; clear HB; have BK437 := n0_; have HB := n1_; clear n0_ n1_; (try clear hb); (try clear hb2); (try clear hk); (try clear hi)))
   go_ret3
   exact ⟨by rfl, by exact HB.out⟩
 rw [if_pos c3] at H
 have c3b0 : (t438 == 0) = true := beq_iff_eq.mpr c3
 have c3b1 : (t438 != 0) = false := bne_eq_false_iff_eq.mpr c3
 clear c3
 replace H := Option.bind_eq_some_iff.mp H
 obtain ⟨⟨t439, t442⟩, A40, H⟩ := H
 replace H : (if t442 < 0 then (some (0, 0, 4)) else ((impl_length_int64.f t439).bind fun t443 => (some (t443, t442, 0)))) = some (r1, r2, r3) := H
 have A4 := Aside0.mk A40
 clear A40
 by_cases c5 : t442 < 0
 · rw [if_pos c5] at H
   have c5b0 : decide (t442 < 0) = true := decide_eq_true c5
   clear c5
   simp only [Option.some.injEq, Prod.mk.injEq] at H
   obtain ⟨rfl, rfl, rfl⟩ := H
   go_enter Try.func27, Try.ntmps27
   go_wp2_with (first | ((with_reducible refine gate_dst (N := 1) rfl ?_); refine box_event ?hg (N := 1) ?hd (cs := #[.slice A0_0 l0_0.length c0_0, .slice A0_1 l0_1.length c0_1, .slice A0_2 l0_2.length c0_2]) (t := 33) ?hr ?_; (case hd => rfl); (case hg => rfl); (case hr => (go_simp; done)); intro gb437 hg w6 hbox hb; have n0_ := Aside0.mk (below_step HB.out hb); have n1_ := Aside0.mk (hbox); have n2_ := Aside0.mk ((by rw [hg]; exact (below_size HB.out) : w.heap.size ≤ gb437)); have n3_ := Aside0.mk ((by rw [hg]; exact (below_size HB.out) : w.heap.size ≤ gb437)); clear HB; have HB := n0_; have BK437 := n1_; have GW437 := n2_; have GE437 := n3_; clear n0_ n1_ n2_ n3_; clear hb hbox hg; have hcz7_0 : w6.cell? ⟨gb437, 0, none⟩ = some (.slice A0_0 l0_0.length c0_0) := (blk_cell BK437.out 0).trans rfl; have hcz7_1 : w6.cell? ⟨gb437, 1, none⟩ = some (.slice A0_1 l0_1.length c0_1) := (blk_cell BK437.out 1).trans rfl; have hcz7_2 : w6.cell? ⟨gb437, 2, none⟩ = some (.slice A0_2 l0_2.length c0_2) := (blk_cell BK437.out 2).trans rfl; have hfz7_0 := blk_frozen BK437.out 0; have hfz7_1 := blk_frozen BK437.out 1; have hfz7_2 := blk_frozen BK437.out 2) | ((with_reducible refine gate_callee (f := 56) rfl ?_); refine goesL_ (some 9) rfl rfl Try.func56 (by kernel_rfl) rfl #[.agg #[.slice A0_0 l0_0.length c0_0, .slice A0_1 l0_1.length c0_1, .slice A0_2 l0_2.length c0_2], .bool true, .bool true] rfl (by (try simp only [List.map_toArray, List.map_cons, List.map_nil]); rfl) ?_; (with_reducible refine (impl_jobsCode.calls k _ _ l0_0 _ _ l0_1 _ _ l0_2 true true t438 _ ?side1 ?side2 ?side3 ?side4 ?side5 ?side6 A2.out).mono ?_); (case side1 => exact (Kd.C_below HR0_0.out HB.out)); (case side2 => exact HC0_0.out); (case side3 => exact (Kd.C_below HR0_1.out HB.out)); (case side4 => exact HC0_1.out); (case side5 => exact (Kd.C_below HR0_2.out HB.out)); (case side6 => exact HC0_2.out); rintro e w8 ⟨rfl, hb⟩; refine ⟨_, rfl, ?_⟩; have n0_ := Aside0.mk (blk_below (g := gb437) (o := .cells #[.slice A0_0 l0_0.length c0_0, .slice A0_1 l0_1.length c0_1, .slice A0_2 l0_2.length c0_2] 33 (0, 0)) BK437.out hb); have n1_ := Aside0.mk (below_step HB.out hb); clear BK437; clear HB; have BK437 := n0_; have HB := n1_; clear n0_ n1_; (try clear hb); (try clear hb2); (try clear hk); (try clear hi); have hcz9_0 : w8.cell? ⟨gb437, 0, none⟩ = some (.slice A0_0 l0_0.length c0_0) := (blk_cell BK437.out 0).trans rfl; have hcz9_1 : w8.cell? ⟨gb437, 1, none⟩ = some (.slice A0_1 l0_1.length c0_1) := (blk_cell BK437.out 1).trans rfl; have hcz9_2 : w8.cell? ⟨gb437, 2, none⟩ = some (.slice A0_2 l0_2.length c0_2) := (blk_cell BK437.out 2).trans rfl; have hfz9_0 := blk_frozen BK437.out 0; have hfz9_1 := blk_frozen BK437.out 1; have hfz9_2 := blk_frozen BK437.out 2) | ((with_reducible refine gate_callee (f := 67) rfl ?_); refine goesL_ (some 15) rfl rfl Try.func67 (by kernel_rfl) rfl #[.agg #[.slice A0_0 l0_0.length c0_0, .slice A0_1 l0_1.length c0_1, .slice A0_2 l0_2.length c0_2]] rfl (by (try simp only [List.map_toArray, List.map_cons, List.map_nil]); rfl) ?_; (with_reducible refine (impl_Jobs_earliest.calls k _ _ l0_0 _ _ l0_1 _ _ l0_2 t439 t442 _ ?side1 ?side2 ?side3 ?side4 ?side5 ?side6 A4.out).mono ?_); (case side1 => exact (Kd.C_below HR0_0.out HB.out)); (case side2 => exact HC0_0.out); (case side3 => exact (Kd.C_below HR0_1.out HB.out)); (case side4 => exact HC0_1.out); (case side5 => exact (Kd.C_below HR0_2.out HB.out)); (case side6 => exact HC0_2.out); rintro e w10 ⟨v440, rfl, ho0, hb⟩; refine ⟨_, rfl, ?_⟩; have n0_ := Aside0.mk (Kd.R_lower ho0 (below_size HB.out)); have n1_ := Aside0.mk (blk_below (g := gb437) (o := .cells #[.slice A0_0 l0_0.length c0_0, .slice A0_1 l0_1.length c0_1, .slice A0_2 l0_2.length c0_2] 33 (0, 0)) BK437.out hb); have n2_ := Aside0.mk (below_step HB.out hb); clear BK437; clear HB; have HO441 := n0_; have BK437 := n1_; have HB := n2_; clear n0_ n1_ n2_; (try clear hb); (try clear hb2); (try clear hk); (try clear hi); (try clear ho0)))
   go_ret3
   exact ⟨by rfl, by exact HB.out⟩
 rw [if_neg c5] at H
 have c5b0 : decide (t442 < 0) = false := decide_eq_false c5
 clear c5
 replace H := Option.bind_eq_some_iff.mp H
 obtain ⟨t443, A110, H⟩ := H
 replace H : (some (t443, t442, 0)) = some (r1, r2, r3) := H
 have A11 := Aside0.mk A110
 clear A110
 simp only [Option.some.injEq, Prod.mk.injEq] at H
 obtain ⟨rfl, rfl, rfl⟩ := H
 go_enter Try.func27, Try.ntmps27
 go_wp2_with (first | ((with_reducible refine gate_dst (N := 1) rfl ?_); refine box_event ?hg (N := 1) ?hd (cs := #[.slice A0_0 l0_0.length c0_0, .slice A0_1 l0_1.length c0_1, .slice A0_2 l0_2.length c0_2]) (t := 33) ?hr ?_; (case hd => rfl); (case hg => rfl); (case hr => (go_simp; done)); intro gb437 hg w12 hbox hb; have n0_ := Aside0.mk (below_step HB.out hb); have n1_ := Aside0.mk (hbox); have n2_ := Aside0.mk ((by rw [hg]; exact (below_size HB.out) : w.heap.size ≤ gb437)); have n3_ := Aside0.mk ((by rw [hg]; exact (below_size HB.out) : w.heap.size ≤ gb437)); clear HB; have HB := n0_; have BK437 := n1_; have GW437 := n2_; have GE437 := n3_; clear n0_ n1_ n2_ n3_; clear hb hbox hg; have hcz13_0 : w12.cell? ⟨gb437, 0, none⟩ = some (.slice A0_0 l0_0.length c0_0) := (blk_cell BK437.out 0).trans rfl; have hcz13_1 : w12.cell? ⟨gb437, 1, none⟩ = some (.slice A0_1 l0_1.length c0_1) := (blk_cell BK437.out 1).trans rfl; have hcz13_2 : w12.cell? ⟨gb437, 2, none⟩ = some (.slice A0_2 l0_2.length c0_2) := (blk_cell BK437.out 2).trans rfl; have hfz13_0 := blk_frozen BK437.out 0; have hfz13_1 := blk_frozen BK437.out 1; have hfz13_2 := blk_frozen BK437.out 2) | ((with_reducible refine gate_callee (f := 56) rfl ?_); refine goesL_ (some 9) rfl rfl Try.func56 (by kernel_rfl) rfl #[.agg #[.slice A0_0 l0_0.length c0_0, .slice A0_1 l0_1.length c0_1, .slice A0_2 l0_2.length c0_2], .bool true, .bool true] rfl (by (try simp only [List.map_toArray, List.map_cons, List.map_nil]); rfl) ?_; (with_reducible refine (impl_jobsCode.calls k _ _ l0_0 _ _ l0_1 _ _ l0_2 true true t438 _ ?side1 ?side2 ?side3 ?side4 ?side5 ?side6 A2.out).mono ?_); (case side1 => exact (Kd.C_below HR0_0.out HB.out)); (case side2 => exact HC0_0.out); (case side3 => exact (Kd.C_below HR0_1.out HB.out)); (case side4 => exact HC0_1.out); (case side5 => exact (Kd.C_below HR0_2.out HB.out)); (case side6 => exact HC0_2.out); rintro e w14 ⟨rfl, hb⟩; refine ⟨_, rfl, ?_⟩; have n0_ := Aside0.mk (blk_below (g := gb437) (o := .cells #[.slice A0_0 l0_0.length c0_0, .slice A0_1 l0_1.length c0_1, .slice A0_2 l0_2.length c0_2] 33 (0, 0)) BK437.out hb); have n1_ := Aside0.mk (below_step HB.out hb); clear BK437; clear HB; have BK437 := n0_; have HB := n1_; clear n0_ n1_; (try clear hb); (try clear hb2); (try clear hk); (try clear hi); have hcz15_0 : w14.cell? ⟨gb437, 0, none⟩ = some (.slice A0_0 l0_0.length c0_0) := (blk_cell BK437.out 0).trans rfl; have hcz15_1 : w14.cell? ⟨gb437, 1, none⟩ = some (.slice A0_1 l0_1.length c0_1) := (blk_cell BK437.out 1).trans rfl; have hcz15_2 : w14.cell? ⟨gb437, 2, none⟩ = some (.slice A0_2 l0_2.length c0_2) := (blk_cell BK437.out 2).trans rfl; have hfz15_0 := blk_frozen BK437.out 0; have hfz15_1 := blk_frozen BK437.out 1; have hfz15_2 := blk_frozen BK437.out 2) | ((with_reducible refine gate_callee (f := 67) rfl ?_); refine goesL_ (some 15) rfl rfl Try.func67 (by kernel_rfl) rfl #[.agg #[.slice A0_0 l0_0.length c0_0, .slice A0_1 l0_1.length c0_1, .slice A0_2 l0_2.length c0_2]] rfl (by (try simp only [List.map_toArray, List.map_cons, List.map_nil]); rfl) ?_; (with_reducible refine (impl_Jobs_earliest.calls k _ _ l0_0 _ _ l0_1 _ _ l0_2 t439 t442 _ ?side1 ?side2 ?side3 ?side4 ?side5 ?side6 A4.out).mono ?_); (case side1 => exact (Kd.C_below HR0_0.out HB.out)); (case side2 => exact HC0_0.out); (case side3 => exact (Kd.C_below HR0_1.out HB.out)); (case side4 => exact HC0_1.out); (case side5 => exact (Kd.C_below HR0_2.out HB.out)); (case side6 => exact HC0_2.out); rintro e w16 ⟨v440, rfl, ho0, hb⟩; refine ⟨_, rfl, ?_⟩; have n0_ := Aside0.mk (Kd.R_lower ho0 (below_size HB.out)); have n1_ := Aside0.mk (blk_below (g := gb437) (o := .cells #[.slice A0_0 l0_0.length c0_0, .slice A0_1 l0_1.length c0_1, .slice A0_2 l0_2.length c0_2] 33 (0, 0)) BK437.out hb); have n2_ := Aside0.mk (below_step HB.out hb); clear BK437; clear HB; have HO441 := n0_; have BK437 := n1_; have HB := n2_; clear n0_ n1_ n2_; (try clear hb); (try clear hb2); (try clear hk); (try clear hi); (try clear ho0); obtain ⟨Ao17, co17, eo17⟩ := Kd.R_slice HO441.out; subst eo17) | ((with_reducible refine gate_callee (f := 45) rfl ?_); refine goesL_ (some 21) rfl rfl Try.func45 (by kernel_rfl) rfl #[.slice Ao17 t439.length co17] rfl (by (try simp only [List.map_toArray, List.map_cons, List.map_nil]); rfl) ?_; (with_reducible refine (impl_length_int64.calls _ _ t439 t443 _ ?side1 ?side2 A11.out).mono ?_); (case side1 => exact (Kd.R_reads' HO441.out).2.2); (case side2 => exact (Kd.R_reads' HO441.out).2.1); rintro e w' ⟨rfl, ⟨nd, rfl⟩⟩; refine ⟨_, rfl, ?_⟩))
 go_ret3
 exact ⟨by rfl, by repeat (with_reducible first | exact HB.out | apply pw_below_drewN)⟩
end Go.Proofs.Ytoakdilhljnjfaa.Q
namespace Go.Proofs.Ytoakdilhljnjfaa.Q
open Go.RowKit Go.Proofs.YtoakdilhljnjfaaW.PrintWords Go.Proofs.YtoakdilhljnjfaaW.PrintLast Go.Proofs.YtoakdilhljnjfaaW.PrintMore
attribute [local go_sem] max2_int min2_int max_two min_two max_three min_three max_four min_four   -- for this text's walks alone
set_option linter.unusedVariables false
set_option linter.unusedSimpArgs false
def spec_FirstLate.f (k : Nat) (l0_0 : List Int) (l0_1 : List Int) (l0_2 : List Int) : Option (Int × Int × Int) := (spec_l04Code.f k l0_0 l0_1 l0_2).bind fun t445 => (if t445 = 0 then ((spec_l04Slots.f k l0_0 l0_1 l0_2).bind fun bt446 => (if bt446.2.2 < 0 then (some (0, 0, 4)) else (some (bt446.2.1, bt446.2.2, 0)))) else (some (0, 0, t445)))
set_option maxHeartbeats 8000000 in
set_option maxRecDepth 100000 in
theorem spec_FirstLate.calls (k : Nat) (A0_0 : Option Addr) (c0_0 : Nat) (l0_0 : List Int) (A0_1 : Option Addr) (c0_1 : Nat) (l0_1 : List Int) (A0_2 : Option Addr) (c0_2 : Nat) (l0_2 : List Int) (r1 : Int) (r2 : Int) (r3 : Int) (w : World) (hr0_0 : Kd.C (Kd.int .i64) w A0_0 l0_0.length l0_0) (hc0_0 : l0_0.length ≤ c0_0) (hr0_1 : Kd.C (Kd.int .i64) w A0_1 l0_1.length l0_1) (hc0_1 : l0_1.length ≤ c0_1) (hr0_2 : Kd.C (Kd.int .i64) w A0_2 l0_2.length l0_2) (hc0_2 : l0_2.length ≤ c0_2) (h : spec_FirstLate.f k l0_0 l0_1 l0_2 = some (r1, r2, r3)) :
 Calls Try.prog 28 #[.agg #[.slice A0_0 l0_0.length c0_0, .slice A0_1 l0_1.length c0_1, .slice A0_2 l0_2.length c0_2]] w fun e w' => e = .returned (.tuple #[.int .i64 r1, .int .i64 r2, .int .i64 r3]) ∧ Below w.heap.size w w' := by
 have hu33 := Try.underlying33
 have HR0_0 := Aside0.mk hr0_0
 have HC0_0 := Aside0.mk hc0_0
 clear hr0_0 hc0_0
 have HR0_1 := Aside0.mk hr0_1
 have HC0_1 := Aside0.mk hc0_1
 clear hr0_1 hc0_1
 have HR0_2 := Aside0.mk hr0_2
 have HC0_2 := Aside0.mk hc0_2
 clear hr0_2 hc0_2
 have HB := Aside0.mk (Below.refl w.heap.size w)
 have H : ((spec_l04Code.f k l0_0 l0_1 l0_2).bind fun t445 => (if t445 = 0 then ((spec_l04Slots.f k l0_0 l0_1 l0_2).bind fun bt446 => (if bt446.2.2 < 0 then (some (0, 0, 4)) else (some (bt446.2.1, bt446.2.2, 0)))) else (some (0, 0, t445)))) = some (r1, r2, r3) := h
 clear h
 replace H := Option.bind_eq_some_iff.mp H
 obtain ⟨t445, A20, H⟩ := H
 replace H : (if t445 = 0 then ((spec_l04Slots.f k l0_0 l0_1 l0_2).bind fun bt446 => (if bt446.2.2 < 0 then (some (0, 0, 4)) else (some (bt446.2.1, bt446.2.2, 0)))) else (some (0, 0, t445))) = some (r1, r2, r3) := H
 have A2 := Aside0.mk A20
 clear A20
 by_cases c3 : t445 = 0
 rotate_left
 · rw [if_neg c3] at H
   have c3b0 : (t445 == 0) = false := beq_eq_false_iff_ne.mpr c3
   have c3b1 : (t445 != 0) = true := bne_iff_ne.mpr c3
   simp only [Option.some.injEq, Prod.mk.injEq] at H
   obtain ⟨rfl, rfl, rfl⟩ := H
   go_enter Try.func28, Try.ntmps28
   go_wp2_with (first | ((with_reducible refine gate_dst (N := 1) rfl ?_); refine box_event ?hg (N := 1) ?hd (cs := #[.slice A0_0 l0_0.length c0_0, .slice A0_1 l0_1.length c0_1, .slice A0_2 l0_2.length c0_2]) (t := 33) ?hr ?_; (case hd => rfl); (case hg => rfl); (case hr => (go_simp; done)); intro gb444 hg w16 hbox hb; have n0_ := Aside0.mk (below_step HB.out hb); have n1_ := Aside0.mk (hbox); have n2_ := Aside0.mk ((by rw [hg]; exact (below_size HB.out) : w.heap.size ≤ gb444)); have n3_ := Aside0.mk ((by rw [hg]; exact (below_size HB.out) : w.heap.size ≤ gb444)); clear HB; have HB := n0_; have BK444 := n1_; have GW444 := n2_; have GE444 := n3_; clear n0_ n1_ n2_ n3_; clear hb hbox hg; have hcz17_0 : w16.cell? ⟨gb444, 0, none⟩ = some (.slice A0_0 l0_0.length c0_0) := (blk_cell BK444.out 0).trans rfl; have hcz17_1 : w16.cell? ⟨gb444, 1, none⟩ = some (.slice A0_1 l0_1.length c0_1) := (blk_cell BK444.out 1).trans rfl; have hcz17_2 : w16.cell? ⟨gb444, 2, none⟩ = some (.slice A0_2 l0_2.length c0_2) := (blk_cell BK444.out 2).trans rfl; have hfz17_0 := blk_frozen BK444.out 0; have hfz17_1 := blk_frozen BK444.out 1; have hfz17_2 := blk_frozen BK444.out 2) | ((with_reducible refine gate_callee (f := 68) rfl ?_); refine goesL_ (some 10) rfl rfl Try.func68 (by kernel_rfl) rfl #[.agg #[.slice A0_0 l0_0.length c0_0, .slice A0_1 l0_1.length c0_1, .slice A0_2 l0_2.length c0_2]] rfl (by (try simp only [List.map_toArray, List.map_cons, List.map_nil]); rfl) ?_; (with_reducible refine (spec_l04Code.calls k _ _ l0_0 _ _ l0_1 _ _ l0_2 t445 _ ?side1 ?side2 ?side3 ?side4 ?side5 ?side6 A2.out).mono ?_); (case side1 => exact (Kd.C_below HR0_0.out HB.out)); (case side2 => exact HC0_0.out); (case side3 => exact (Kd.C_below HR0_1.out HB.out)); (case side4 => exact HC0_1.out); (case side5 => exact (Kd.C_below HR0_2.out HB.out)); (case side6 => exact HC0_2.out); rintro e w18 ⟨rfl, hb⟩; refine ⟨_, rfl, ?_⟩; have n0_ := Aside0.mk (blk_below (g := gb444) (o := .cells #[.slice A0_0 l0_0.length c0_0, .slice A0_1 l0_1.length c0_1, .slice A0_2 l0_2.length c0_2] 33 (0, 0)) BK444.out hb); have n1_ := Aside0.mk (below_step HB.out hb); clear BK444; clear HB; have BK444 := n0_; have HB := n1_; clear n0_ n1_; (try clear hb); (try clear hb2); (try clear hk); (try clear hi)))
   go_ret3
   exact ⟨by rfl, by exact HB.out⟩
 rw [if_pos c3] at H
 have c3b0 : (t445 == 0) = true := beq_iff_eq.mpr c3
 have c3b1 : (t445 != 0) = false := bne_eq_false_iff_eq.mpr c3
 clear c3
 replace H := Option.bind_eq_some_iff.mp H
 obtain ⟨⟨t446, t449, t450⟩, A40, H⟩ := H
 replace H : (if t450 < 0 then (some (0, 0, 4)) else (some (t449, t450, 0))) = some (r1, r2, r3) := H
 have A4 := Aside0.mk A40
 clear A40
 by_cases c5 : t450 < 0
 · rw [if_pos c5] at H
   have c5b0 : decide (t450 < 0) = true := decide_eq_true c5
   clear c5
   simp only [Option.some.injEq, Prod.mk.injEq] at H
   obtain ⟨rfl, rfl, rfl⟩ := H
   go_enter Try.func28, Try.ntmps28
   go_wp2_with (first | ((with_reducible refine gate_dst (N := 1) rfl ?_); refine box_event ?hg (N := 1) ?hd (cs := #[.slice A0_0 l0_0.length c0_0, .slice A0_1 l0_1.length c0_1, .slice A0_2 l0_2.length c0_2]) (t := 33) ?hr ?_; (case hd => rfl); (case hg => rfl); (case hr => (go_simp; done)); intro gb444 hg w6 hbox hb; have n0_ := Aside0.mk (below_step HB.out hb); have n1_ := Aside0.mk (hbox); have n2_ := Aside0.mk ((by rw [hg]; exact (below_size HB.out) : w.heap.size ≤ gb444)); have n3_ := Aside0.mk ((by rw [hg]; exact (below_size HB.out) : w.heap.size ≤ gb444)); clear HB; have HB := n0_; have BK444 := n1_; have GW444 := n2_; have GE444 := n3_; clear n0_ n1_ n2_ n3_; clear hb hbox hg; have hcz7_0 : w6.cell? ⟨gb444, 0, none⟩ = some (.slice A0_0 l0_0.length c0_0) := (blk_cell BK444.out 0).trans rfl; have hcz7_1 : w6.cell? ⟨gb444, 1, none⟩ = some (.slice A0_1 l0_1.length c0_1) := (blk_cell BK444.out 1).trans rfl; have hcz7_2 : w6.cell? ⟨gb444, 2, none⟩ = some (.slice A0_2 l0_2.length c0_2) := (blk_cell BK444.out 2).trans rfl; have hfz7_0 := blk_frozen BK444.out 0; have hfz7_1 := blk_frozen BK444.out 1; have hfz7_2 := blk_frozen BK444.out 2) | ((with_reducible refine gate_callee (f := 68) rfl ?_); refine goesL_ (some 10) rfl rfl Try.func68 (by kernel_rfl) rfl #[.agg #[.slice A0_0 l0_0.length c0_0, .slice A0_1 l0_1.length c0_1, .slice A0_2 l0_2.length c0_2]] rfl (by (try simp only [List.map_toArray, List.map_cons, List.map_nil]); rfl) ?_; (with_reducible refine (spec_l04Code.calls k _ _ l0_0 _ _ l0_1 _ _ l0_2 t445 _ ?side1 ?side2 ?side3 ?side4 ?side5 ?side6 A2.out).mono ?_); (case side1 => exact (Kd.C_below HR0_0.out HB.out)); (case side2 => exact HC0_0.out); (case side3 => exact (Kd.C_below HR0_1.out HB.out)); (case side4 => exact HC0_1.out); (case side5 => exact (Kd.C_below HR0_2.out HB.out)); (case side6 => exact HC0_2.out); rintro e w8 ⟨rfl, hb⟩; refine ⟨_, rfl, ?_⟩; have n0_ := Aside0.mk (blk_below (g := gb444) (o := .cells #[.slice A0_0 l0_0.length c0_0, .slice A0_1 l0_1.length c0_1, .slice A0_2 l0_2.length c0_2] 33 (0, 0)) BK444.out hb); have n1_ := Aside0.mk (below_step HB.out hb); clear BK444; clear HB; have BK444 := n0_; have HB := n1_; clear n0_ n1_; (try clear hb); (try clear hb2); (try clear hk); (try clear hi); have hcz9_0 : w8.cell? ⟨gb444, 0, none⟩ = some (.slice A0_0 l0_0.length c0_0) := (blk_cell BK444.out 0).trans rfl; have hcz9_1 : w8.cell? ⟨gb444, 1, none⟩ = some (.slice A0_1 l0_1.length c0_1) := (blk_cell BK444.out 1).trans rfl; have hcz9_2 : w8.cell? ⟨gb444, 2, none⟩ = some (.slice A0_2 l0_2.length c0_2) := (blk_cell BK444.out 2).trans rfl; have hfz9_0 := blk_frozen BK444.out 0; have hfz9_1 := blk_frozen BK444.out 1; have hfz9_2 := blk_frozen BK444.out 2) | ((with_reducible refine gate_callee (f := 69) rfl ?_); refine goesL_ (some 16) rfl rfl Try.func69 (by kernel_rfl) rfl #[.agg #[.slice A0_0 l0_0.length c0_0, .slice A0_1 l0_1.length c0_1, .slice A0_2 l0_2.length c0_2]] rfl (by (try simp only [List.map_toArray, List.map_cons, List.map_nil]); rfl) ?_; (with_reducible refine (spec_l04Slots.calls k _ _ l0_0 _ _ l0_1 _ _ l0_2 t446 t449 t450 _ ?side1 ?side2 ?side3 ?side4 ?side5 ?side6 A4.out).mono ?_); (case side1 => exact (Kd.C_below HR0_0.out HB.out)); (case side2 => exact HC0_0.out); (case side3 => exact (Kd.C_below HR0_1.out HB.out)); (case side4 => exact HC0_1.out); (case side5 => exact (Kd.C_below HR0_2.out HB.out)); (case side6 => exact HC0_2.out); rintro e w10 ⟨v447, rfl, ho0, hb⟩; refine ⟨_, rfl, ?_⟩; have n0_ := Aside0.mk (Kd.R_lower ho0 (below_size HB.out)); have n1_ := Aside0.mk (blk_below (g := gb444) (o := .cells #[.slice A0_0 l0_0.length c0_0, .slice A0_1 l0_1.length c0_1, .slice A0_2 l0_2.length c0_2] 33 (0, 0)) BK444.out hb); have n2_ := Aside0.mk (below_step HB.out hb); clear BK444; clear HB; have HO448 := n0_; have BK444 := n1_; have HB := n2_; clear n0_ n1_ n2_; (try clear hb); (try clear hb2); (try clear hk); (try clear hi); (try clear ho0)))
   go_ret3
   exact ⟨by rfl, by exact HB.out⟩
 rw [if_neg c5] at H
 have c5b0 : decide (t450 < 0) = false := decide_eq_false c5
 clear c5
 simp only [Option.some.injEq, Prod.mk.injEq] at H
 obtain ⟨rfl, rfl, rfl⟩ := H
 go_enter Try.func28, Try.ntmps28
 go_wp2_with (first | ((with_reducible refine gate_dst (N := 1) rfl ?_); refine box_event ?hg (N := 1) ?hd (cs := #[.slice A0_0 l0_0.length c0_0, .slice A0_1 l0_1.length c0_1, .slice A0_2 l0_2.length c0_2]) (t := 33) ?hr ?_; (case hd => rfl); (case hg => rfl); (case hr => (go_simp; done)); intro gb444 hg w11 hbox hb; have n0_ := Aside0.mk (below_step HB.out hb); have n1_ := Aside0.mk (hbox); have n2_ := Aside0.mk ((by rw [hg]; exact (below_size HB.out) : w.heap.size ≤ gb444)); have n3_ := Aside0.mk ((by rw [hg]; exact (below_size HB.out) : w.heap.size ≤ gb444)); clear HB; have HB := n0_; have BK444 := n1_; have GW444 := n2_; have GE444 := n3_; clear n0_ n1_ n2_ n3_; clear hb hbox hg; have hcz12_0 : w11.cell? ⟨gb444, 0, none⟩ = some (.slice A0_0 l0_0.length c0_0) := (blk_cell BK444.out 0).trans rfl; have hcz12_1 : w11.cell? ⟨gb444, 1, none⟩ = some (.slice A0_1 l0_1.length c0_1) := (blk_cell BK444.out 1).trans rfl; have hcz12_2 : w11.cell? ⟨gb444, 2, none⟩ = some (.slice A0_2 l0_2.length c0_2) := (blk_cell BK444.out 2).trans rfl; have hfz12_0 := blk_frozen BK444.out 0; have hfz12_1 := blk_frozen BK444.out 1; have hfz12_2 := blk_frozen BK444.out 2) | ((with_reducible refine gate_callee (f := 68) rfl ?_); refine goesL_ (some 10) rfl rfl Try.func68 (by kernel_rfl) rfl #[.agg #[.slice A0_0 l0_0.length c0_0, .slice A0_1 l0_1.length c0_1, .slice A0_2 l0_2.length c0_2]] rfl (by (try simp only [List.map_toArray, List.map_cons, List.map_nil]); rfl) ?_; (with_reducible refine (spec_l04Code.calls k _ _ l0_0 _ _ l0_1 _ _ l0_2 t445 _ ?side1 ?side2 ?side3 ?side4 ?side5 ?side6 A2.out).mono ?_); (case side1 => exact (Kd.C_below HR0_0.out HB.out)); (case side2 => exact HC0_0.out); (case side3 => exact (Kd.C_below HR0_1.out HB.out)); (case side4 => exact HC0_1.out); (case side5 => exact (Kd.C_below HR0_2.out HB.out)); (case side6 => exact HC0_2.out); rintro e w13 ⟨rfl, hb⟩; refine ⟨_, rfl, ?_⟩; have n0_ := Aside0.mk (blk_below (g := gb444) (o := .cells #[.slice A0_0 l0_0.length c0_0, .slice A0_1 l0_1.length c0_1, .slice A0_2 l0_2.length c0_2] 33 (0, 0)) BK444.out hb); have n1_ := Aside0.mk (below_step HB.out hb); clear BK444; clear HB; have BK444 := n0_; have HB := n1_; clear n0_ n1_; (try clear hb); (try clear hb2); (try clear hk); (try clear hi); have hcz14_0 : w13.cell? ⟨gb444, 0, none⟩ = some (.slice A0_0 l0_0.length c0_0) := (blk_cell BK444.out 0).trans rfl; have hcz14_1 : w13.cell? ⟨gb444, 1, none⟩ = some (.slice A0_1 l0_1.length c0_1) := (blk_cell BK444.out 1).trans rfl; have hcz14_2 : w13.cell? ⟨gb444, 2, none⟩ = some (.slice A0_2 l0_2.length c0_2) := (blk_cell BK444.out 2).trans rfl; have hfz14_0 := blk_frozen BK444.out 0; have hfz14_1 := blk_frozen BK444.out 1; have hfz14_2 := blk_frozen BK444.out 2) | ((with_reducible refine gate_callee (f := 69) rfl ?_); refine goesL_ (some 16) rfl rfl Try.func69 (by kernel_rfl) rfl #[.agg #[.slice A0_0 l0_0.length c0_0, .slice A0_1 l0_1.length c0_1, .slice A0_2 l0_2.length c0_2]] rfl (by (try simp only [List.map_toArray, List.map_cons, List.map_nil]); rfl) ?_; (with_reducible refine (spec_l04Slots.calls k _ _ l0_0 _ _ l0_1 _ _ l0_2 t446 t449 t450 _ ?side1 ?side2 ?side3 ?side4 ?side5 ?side6 A4.out).mono ?_); (case side1 => exact (Kd.C_below HR0_0.out HB.out)); (case side2 => exact HC0_0.out); (case side3 => exact (Kd.C_below HR0_1.out HB.out)); (case side4 => exact HC0_1.out); (case side5 => exact (Kd.C_below HR0_2.out HB.out)); (case side6 => exact HC0_2.out); rintro e w15 ⟨v447, rfl, ho0, hb⟩; refine ⟨_, rfl, ?_⟩; have n0_ := Aside0.mk (Kd.R_lower ho0 (below_size HB.out)); have n1_ := Aside0.mk (blk_below (g := gb444) (o := .cells #[.slice A0_0 l0_0.length c0_0, .slice A0_1 l0_1.length c0_1, .slice A0_2 l0_2.length c0_2] 33 (0, 0)) BK444.out hb); have n2_ := Aside0.mk (below_step HB.out hb); clear BK444; clear HB; have HO448 := n0_; have BK444 := n1_; have HB := n2_; clear n0_ n1_ n2_; (try clear hb); (try clear hb2); (try clear hk); (try clear hi); (try clear ho0)))
 go_ret3
 exact ⟨by rfl, by exact HB.out⟩
end Go.Proofs.Ytoakdilhljnjfaa.Q
namespace Go.Proofs.Ytoakdilhljnjfaa.Q
open Go.RowKit Go.Proofs.YtoakdilhljnjfaaW.PrintWords Go.Proofs.YtoakdilhljnjfaaW.PrintLast Go.Proofs.YtoakdilhljnjfaaW.PrintMore
attribute [local go_sem] max2_int min2_int max_two min_two max_three min_three max_four min_four   -- for this text's walks alone
set_option linter.unusedVariables false
set_option linter.unusedSimpArgs false
def impl_RoomOf.f (k : Nat) (l0_0 : List Int) (l0_1 : List Int) (l0_2 : List Int) : Option (Int × Int) := (impl_jobsCode.f k l0_0 l0_1 l0_2 true true).bind fun t460 => (if t460 = 0 then ((impl_Jobs_room.f k l0_0 l0_1 l0_2).bind fun t461 => (some (t461, 0))) else (some (0, t460)))
set_option maxHeartbeats 8000000 in
set_option maxRecDepth 100000 in
theorem impl_RoomOf.calls (k : Nat) (A0_0 : Option Addr) (c0_0 : Nat) (l0_0 : List Int) (A0_1 : Option Addr) (c0_1 : Nat) (l0_1 : List Int) (A0_2 : Option Addr) (c0_2 : Nat) (l0_2 : List Int) (r1 : Int) (r2 : Int) (w : World) (hr0_0 : Kd.C (Kd.int .i64) w A0_0 l0_0.length l0_0) (hc0_0 : l0_0.length ≤ c0_0) (hr0_1 : Kd.C (Kd.int .i64) w A0_1 l0_1.length l0_1) (hc0_1 : l0_1.length ≤ c0_1) (hr0_2 : Kd.C (Kd.int .i64) w A0_2 l0_2.length l0_2) (hc0_2 : l0_2.length ≤ c0_2) (h : impl_RoomOf.f k l0_0 l0_1 l0_2 = some (r1, r2)) :
 Calls Try.prog 29 #[.agg #[.slice A0_0 l0_0.length c0_0, .slice A0_1 l0_1.length c0_1, .slice A0_2 l0_2.length c0_2]] w fun e w' => e = .returned (.tuple #[.int .i64 r1, .int .i64 r2]) ∧ Below w.heap.size w w' := by
 have hu33 := Try.underlying33
 have HR0_0 := Aside0.mk hr0_0
 have HC0_0 := Aside0.mk hc0_0
 clear hr0_0 hc0_0
 have HR0_1 := Aside0.mk hr0_1
 have HC0_1 := Aside0.mk hc0_1
 clear hr0_1 hc0_1
 have HR0_2 := Aside0.mk hr0_2
 have HC0_2 := Aside0.mk hc0_2
 clear hr0_2 hc0_2
 have HB := Aside0.mk (Below.refl w.heap.size w)
 have H : ((impl_jobsCode.f k l0_0 l0_1 l0_2 true true).bind fun t460 => (if t460 = 0 then ((impl_Jobs_room.f k l0_0 l0_1 l0_2).bind fun t461 => (some (t461, 0))) else (some (0, t460)))) = some (r1, r2) := h
 clear h
 replace H := Option.bind_eq_some_iff.mp H
 obtain ⟨t460, A20, H⟩ := H
 replace H : (if t460 = 0 then ((impl_Jobs_room.f k l0_0 l0_1 l0_2).bind fun t461 => (some (t461, 0))) else (some (0, t460))) = some (r1, r2) := H
 have A2 := Aside0.mk A20
 clear A20
 by_cases c3 : t460 = 0
 rotate_left
 · rw [if_neg c3] at H
   have c3b0 : (t460 == 0) = false := beq_eq_false_iff_ne.mpr c3
   have c3b1 : (t460 != 0) = true := bne_iff_ne.mpr c3
   simp only [Option.some.injEq, Prod.mk.injEq] at H
   obtain ⟨rfl, rfl⟩ := H
   go_enter Try.func29, Try.ntmps29
   go_wp2_with (first | ((with_reducible refine gate_dst (N := 1) rfl ?_); refine box_event ?hg (N := 1) ?hd (cs := #[.slice A0_0 l0_0.length c0_0, .slice A0_1 l0_1.length c0_1, .slice A0_2 l0_2.length c0_2]) (t := 33) ?hr ?_; (case hd => rfl); (case hg => rfl); (case hr => (go_simp; done)); intro gb459 hg w10 hbox hb; have n0_ := Aside0.mk (below_step HB.out hb); have n1_ := Aside0.mk (hbox); have n2_ := Aside0.mk ((by rw [hg]; exact (below_size HB.out) : w.heap.size ≤ gb459)); have n3_ := Aside0.mk ((by rw [hg]; exact (below_size HB.out) : w.heap.size ≤ gb459)); clear HB; have HB := n0_; have BK459 := n1_; have GW459 := n2_; have GE459 := n3_; clear n0_ n1_ n2_ n3_; clear hb hbox hg; have hcz11_0 : w10.cell? ⟨gb459, 0, none⟩ = some (.slice A0_0 l0_0.length c0_0) := (blk_cell BK459.out 0).trans rfl; have hcz11_1 : w10.cell? ⟨gb459, 1, none⟩ = some (.slice A0_1 l0_1.length c0_1) := (blk_cell BK459.out 1).trans rfl; have hcz11_2 : w10.cell? ⟨gb459, 2, none⟩ = some (.slice A0_2 l0_2.length c0_2) := (blk_cell BK459.out 2).trans rfl; have hfz11_0 := blk_frozen BK459.out 0; have hfz11_1 := blk_frozen BK459.out 1; have hfz11_2 := blk_frozen BK459.out 2) | ((with_reducible refine gate_callee (f := 56) rfl ?_); refine goesL_ (some 6) rfl rfl Try.func56 (by kernel_rfl) rfl #[.agg #[.slice A0_0 l0_0.length c0_0, .slice A0_1 l0_1.length c0_1, .slice A0_2 l0_2.length c0_2], .bool true, .bool true] rfl (by (try simp only [List.map_toArray, List.map_cons, List.map_nil]); rfl) ?_; (with_reducible refine (impl_jobsCode.calls k _ _ l0_0 _ _ l0_1 _ _ l0_2 true true t460 _ ?side1 ?side2 ?side3 ?side4 ?side5 ?side6 A2.out).mono ?_); (case side1 => exact (Kd.C_below HR0_0.out HB.out)); (case side2 => exact HC0_0.out); (case side3 => exact (Kd.C_below HR0_1.out HB.out)); (case side4 => exact HC0_1.out); (case side5 => exact (Kd.C_below HR0_2.out HB.out)); (case side6 => exact HC0_2.out); rintro e w12 ⟨rfl, hb⟩; refine ⟨_, rfl, ?_⟩; have n0_ := Aside0.mk (blk_below (g := gb459) (o := .cells #[.slice A0_0 l0_0.length c0_0, .slice A0_1 l0_1.length c0_1, .slice A0_2 l0_2.length c0_2] 33 (0, 0)) BK459.out hb); have n1_ := Aside0.mk (below_step HB.out hb); clear BK459; clear HB; have BK459 := n0_; have HB := n1_; clear n0_ n1_; (try clear hb); (try clear hb2); (try clear hk); (try clear hi)))
   go_ret2
   exact ⟨by rfl, by exact HB.out⟩
 rw [if_pos c3] at H
 have c3b0 : (t460 == 0) = true := beq_iff_eq.mpr c3
 have c3b1 : (t460 != 0) = false := bne_eq_false_iff_eq.mpr c3
 clear c3
 replace H := Option.bind_eq_some_iff.mp H
 obtain ⟨t461, A40, H⟩ := H
 replace H : (some (t461, 0)) = some (r1, r2) := H
 have A4 := Aside0.mk A40
 clear A40
 simp only [Option.some.injEq, Prod.mk.injEq] at H
 obtain ⟨rfl, rfl⟩ := H
 go_enter Try.func29, Try.ntmps29
 go_wp2_with (first | ((with_reducible refine gate_dst (N := 1) rfl ?_); refine box_event ?hg (N := 1) ?hd (cs := #[.slice A0_0 l0_0.length c0_0, .slice A0_1 l0_1.length c0_1, .slice A0_2 l0_2.length c0_2]) (t := 33) ?hr ?_; (case hd => rfl); (case hg => rfl); (case hr => (go_simp; done)); intro gb459 hg w5 hbox hb; have n0_ := Aside0.mk (below_step HB.out hb); have n1_ := Aside0.mk (hbox); have n2_ := Aside0.mk ((by rw [hg]; exact (below_size HB.out) : w.heap.size ≤ gb459)); have n3_ := Aside0.mk ((by rw [hg]; exact (below_size HB.out) : w.heap.size ≤ gb459)); clear HB; have HB := n0_; have BK459 := n1_; have GW459 := n2_; have GE459 := n3_; clear n0_ n1_ n2_ n3_; clear hb hbox hg; have hcz6_0 : w5.cell? ⟨gb459, 0, none⟩ = some (.slice A0_0 l0_0.length c0_0) := (blk_cell BK459.out 0).trans rfl; have hcz6_1 : w5.cell? ⟨gb459, 1, none⟩ = some (.slice A0_1 l0_1.length c0_1) := (blk_cell BK459.out 1).trans rfl; have hcz6_2 : w5.cell? ⟨gb459, 2, none⟩ = some (.slice A0_2 l0_2.length c0_2) := (blk_cell BK459.out 2).trans rfl; have hfz6_0 := blk_frozen BK459.out 0; have hfz6_1 := blk_frozen BK459.out 1; have hfz6_2 := blk_frozen BK459.out 2) | ((with_reducible refine gate_callee (f := 56) rfl ?_); refine goesL_ (some 6) rfl rfl Try.func56 (by kernel_rfl) rfl #[.agg #[.slice A0_0 l0_0.length c0_0, .slice A0_1 l0_1.length c0_1, .slice A0_2 l0_2.length c0_2], .bool true, .bool true] rfl (by (try simp only [List.map_toArray, List.map_cons, List.map_nil]); rfl) ?_; (with_reducible refine (impl_jobsCode.calls k _ _ l0_0 _ _ l0_1 _ _ l0_2 true true t460 _ ?side1 ?side2 ?side3 ?side4 ?side5 ?side6 A2.out).mono ?_); (case side1 => exact (Kd.C_below HR0_0.out HB.out)); (case side2 => exact HC0_0.out); (case side3 => exact (Kd.C_below HR0_1.out HB.out)); (case side4 => exact HC0_1.out); (case side5 => exact (Kd.C_below HR0_2.out HB.out)); (case side6 => exact HC0_2.out); rintro e w7 ⟨rfl, hb⟩; refine ⟨_, rfl, ?_⟩; have n0_ := Aside0.mk (blk_below (g := gb459) (o := .cells #[.slice A0_0 l0_0.length c0_0, .slice A0_1 l0_1.length c0_1, .slice A0_2 l0_2.length c0_2] 33 (0, 0)) BK459.out hb); have n1_ := Aside0.mk (below_step HB.out hb); clear BK459; clear HB; have BK459 := n0_; have HB := n1_; clear n0_ n1_; (try clear hb); (try clear hb2); (try clear hk); (try clear hi); have hcz8_0 : w7.cell? ⟨gb459, 0, none⟩ = some (.slice A0_0 l0_0.length c0_0) := (blk_cell BK459.out 0).trans rfl; have hcz8_1 : w7.cell? ⟨gb459, 1, none⟩ = some (.slice A0_1 l0_1.length c0_1) := (blk_cell BK459.out 1).trans rfl; have hcz8_2 : w7.cell? ⟨gb459, 2, none⟩ = some (.slice A0_2 l0_2.length c0_2) := (blk_cell BK459.out 2).trans rfl; have hfz8_0 := blk_frozen BK459.out 0; have hfz8_1 := blk_frozen BK459.out 1; have hfz8_2 := blk_frozen BK459.out 2) | ((with_reducible refine gate_callee (f := 70) rfl ?_); refine goesL_ (some 11) rfl rfl Try.func70 (by kernel_rfl) rfl #[.agg #[.slice A0_0 l0_0.length c0_0, .slice A0_1 l0_1.length c0_1, .slice A0_2 l0_2.length c0_2]] rfl (by (try simp only [List.map_toArray, List.map_cons, List.map_nil]); rfl) ?_; (with_reducible refine (impl_Jobs_room.calls k _ _ l0_0 _ _ l0_1 _ _ l0_2 t461 _ ?side1 ?side2 ?side3 ?side4 ?side5 ?side6 A4.out).mono ?_); (case side1 => exact (Kd.C_below HR0_0.out HB.out)); (case side2 => exact HC0_0.out); (case side3 => exact (Kd.C_below HR0_1.out HB.out)); (case side4 => exact HC0_1.out); (case side5 => exact (Kd.C_below HR0_2.out HB.out)); (case side6 => exact HC0_2.out); rintro e w9 ⟨rfl, hb⟩; refine ⟨_, rfl, ?_⟩; have n0_ := Aside0.mk (blk_below (g := gb459) (o := .cells #[.slice A0_0 l0_0.length c0_0, .slice A0_1 l0_1.length c0_1, .slice A0_2 l0_2.length c0_2] 33 (0, 0)) BK459.out hb); have n1_ := Aside0.mk (below_step HB.out hb); clear BK459; clear HB; have BK459 := n0_; have HB := n1_; clear n0_ n1_; (try clear hb); (try clear hb2); (try clear hk); (try clear hi)))
 go_ret2
 exact ⟨by rfl, by exact HB.out⟩
end Go.Proofs.Ytoakdilhljnjfaa.Q
namespace Go.Proofs.Ytoakdilhljnjfaa.Q
open Go.RowKit Go.Proofs.YtoakdilhljnjfaaW.PrintWords Go.Proofs.YtoakdilhljnjfaaW.PrintLast Go.Proofs.YtoakdilhljnjfaaW.PrintMore
attribute [local go_sem] max2_int min2_int max_two min_two max_three min_three max_four min_four   -- for this text's walks alone
set_option linter.unusedVariables false
set_option linter.unusedSimpArgs false
def spec_CanMeet.f (k : Nat) (l0_0 : List Int) (l0_1 : List Int) (l0_2 : List Int) : Option (Bool × Int) := (spec_l04Code.f k l0_0 l0_1 l0_2).bind fun t485 => (if t485 = 0 then ((spec_l04Slots.f k l0_0 l0_1 l0_2).bind fun bt486 => (some (decide (bt486.2.2 < 0), 0))) else (some (false, t485)))
set_option maxHeartbeats 8000000 in
set_option maxRecDepth 100000 in
theorem spec_CanMeet.calls (k : Nat) (A0_0 : Option Addr) (c0_0 : Nat) (l0_0 : List Int) (A0_1 : Option Addr) (c0_1 : Nat) (l0_1 : List Int) (A0_2 : Option Addr) (c0_2 : Nat) (l0_2 : List Int) (r1 : Bool) (r2 : Int) (w : World) (hr0_0 : Kd.C (Kd.int .i64) w A0_0 l0_0.length l0_0) (hc0_0 : l0_0.length ≤ c0_0) (hr0_1 : Kd.C (Kd.int .i64) w A0_1 l0_1.length l0_1) (hc0_1 : l0_1.length ≤ c0_1) (hr0_2 : Kd.C (Kd.int .i64) w A0_2 l0_2.length l0_2) (hc0_2 : l0_2.length ≤ c0_2) (h : spec_CanMeet.f k l0_0 l0_1 l0_2 = some (r1, r2)) :
 Calls Try.prog 32 #[.agg #[.slice A0_0 l0_0.length c0_0, .slice A0_1 l0_1.length c0_1, .slice A0_2 l0_2.length c0_2]] w fun e w' => e = .returned (.tuple #[.bool r1, .int .i64 r2]) ∧ Below w.heap.size w w' := by
 have hu33 := Try.underlying33
 have HR0_0 := Aside0.mk hr0_0
 have HC0_0 := Aside0.mk hc0_0
 clear hr0_0 hc0_0
 have HR0_1 := Aside0.mk hr0_1
 have HC0_1 := Aside0.mk hc0_1
 clear hr0_1 hc0_1
 have HR0_2 := Aside0.mk hr0_2
 have HC0_2 := Aside0.mk hc0_2
 clear hr0_2 hc0_2
 have HB := Aside0.mk (Below.refl w.heap.size w)
 have H : ((spec_l04Code.f k l0_0 l0_1 l0_2).bind fun t485 => (if t485 = 0 then ((spec_l04Slots.f k l0_0 l0_1 l0_2).bind fun bt486 => (some (decide (bt486.2.2 < 0), 0))) else (some (false, t485)))) = some (r1, r2) := h
 clear h
 replace H := Option.bind_eq_some_iff.mp H
 obtain ⟨t485, A20, H⟩ := H
 replace H : (if t485 = 0 then ((spec_l04Slots.f k l0_0 l0_1 l0_2).bind fun bt486 => (some (decide (bt486.2.2 < 0), 0))) else (some (false, t485))) = some (r1, r2) := H
 have A2 := Aside0.mk A20
 clear A20
 by_cases c3 : t485 = 0
 rotate_left
 · rw [if_neg c3] at H
   have c3b0 : (t485 == 0) = false := beq_eq_false_iff_ne.mpr c3
   have c3b1 : (t485 != 0) = true := bne_iff_ne.mpr c3
   simp only [Option.some.injEq, Prod.mk.injEq] at H
   obtain ⟨rfl, rfl⟩ := H
   go_enter Try.func32, Try.ntmps32
   go_wp2_with (first | ((with_reducible refine gate_dst (N := 1) rfl ?_); refine box_event ?hg (N := 1) ?hd (cs := #[.slice A0_0 l0_0.length c0_0, .slice A0_1 l0_1.length c0_1, .slice A0_2 l0_2.length c0_2]) (t := 33) ?hr ?_; (case hd => rfl); (case hg => rfl); (case hr => (go_simp; done)); intro gb484 hg w10 hbox hb; have n0_ := Aside0.mk (below_step HB.out hb); have n1_ := Aside0.mk (hbox); have n2_ := Aside0.mk ((by rw [hg]; exact (below_size HB.out) : w.heap.size ≤ gb484)); have n3_ := Aside0.mk ((by rw [hg]; exact (below_size HB.out) : w.heap.size ≤ gb484)); clear HB; have HB := n0_; have BK484 := n1_; have GW484 := n2_; have GE484 := n3_; clear n0_ n1_ n2_ n3_; clear hb hbox hg; have hcz11_0 : w10.cell? ⟨gb484, 0, none⟩ = some (.slice A0_0 l0_0.length c0_0) := (blk_cell BK484.out 0).trans rfl; have hcz11_1 : w10.cell? ⟨gb484, 1, none⟩ = some (.slice A0_1 l0_1.length c0_1) := (blk_cell BK484.out 1).trans rfl; have hcz11_2 : w10.cell? ⟨gb484, 2, none⟩ = some (.slice A0_2 l0_2.length c0_2) := (blk_cell BK484.out 2).trans rfl; have hfz11_0 := blk_frozen BK484.out 0; have hfz11_1 := blk_frozen BK484.out 1; have hfz11_2 := blk_frozen BK484.out 2) | ((with_reducible refine gate_callee (f := 68) rfl ?_); refine goesL_ (some 9) rfl rfl Try.func68 (by kernel_rfl) rfl #[.agg #[.slice A0_0 l0_0.length c0_0, .slice A0_1 l0_1.length c0_1, .slice A0_2 l0_2.length c0_2]] rfl (by (try simp only [List.map_toArray, List.map_cons, List.map_nil]); rfl) ?_; (with_reducible refine (spec_l04Code.calls k _ _ l0_0 _ _ l0_1 _ _ l0_2 t485 _ ?side1 ?side2 ?side3 ?side4 ?side5 ?side6 A2.out).mono ?_); (case side1 => exact (Kd.C_below HR0_0.out HB.out)); (case side2 => exact HC0_0.out); (case side3 => exact (Kd.C_below HR0_1.out HB.out)); (case side4 => exact HC0_1.out); (case side5 => exact (Kd.C_below HR0_2.out HB.out)); (case side6 => exact HC0_2.out); rintro e w12 ⟨rfl, hb⟩; refine ⟨_, rfl, ?_⟩; have n0_ := Aside0.mk (blk_below (g := gb484) (o := .cells #[.slice A0_0 l0_0.length c0_0, .slice A0_1 l0_1.length c0_1, .slice A0_2 l0_2.length c0_2] 33 (0, 0)) BK484.out hb); have n1_ := Aside0.mk (below_step HB.out hb); clear BK484; clear HB; have BK484 := n0_; have HB := n1_; clear n0_ n1_; (try clear hb); (try clear hb2); (try clear hk); (try clear hi)))
   go_ret2
   exact ⟨by rfl, by exact HB.out⟩
 rw [if_pos c3] at H
 have c3b0 : (t485 == 0) = true := beq_iff_eq.mpr c3
 have c3b1 : (t485 != 0) = false := bne_eq_false_iff_eq.mpr c3
 clear c3
 replace H := Option.bind_eq_some_iff.mp H
 obtain ⟨⟨t486, t489, t490⟩, A40, H⟩ := H
 replace H : (some (decide (t490 < 0), 0)) = some (r1, r2) := H
 have A4 := Aside0.mk A40
 clear A40
 simp only [Option.some.injEq, Prod.mk.injEq] at H
 obtain ⟨rfl, rfl⟩ := H
 go_enter Try.func32, Try.ntmps32
 go_wp2_with (first | ((with_reducible refine gate_dst (N := 1) rfl ?_); refine box_event ?hg (N := 1) ?hd (cs := #[.slice A0_0 l0_0.length c0_0, .slice A0_1 l0_1.length c0_1, .slice A0_2 l0_2.length c0_2]) (t := 33) ?hr ?_; (case hd => rfl); (case hg => rfl); (case hr => (go_simp; done)); intro gb484 hg w5 hbox hb; have n0_ := Aside0.mk (below_step HB.out hb); have n1_ := Aside0.mk (hbox); have n2_ := Aside0.mk ((by rw [hg]; exact (below_size HB.out) : w.heap.size ≤ gb484)); have n3_ := Aside0.mk ((by rw [hg]; exact (below_size HB.out) : w.heap.size ≤ gb484)); clear HB; have HB := n0_; have BK484 := n1_; have GW484 := n2_; have GE484 := n3_; clear n0_ n1_ n2_ n3_; clear hb hbox hg; have hcz6_0 : w5.cell? ⟨gb484, 0, none⟩ = some (.slice A0_0 l0_0.length c0_0) := (blk_cell BK484.out 0).trans rfl; have hcz6_1 : w5.cell? ⟨gb484, 1, none⟩ = some (.slice A0_1 l0_1.length c0_1) := (blk_cell BK484.out 1).trans rfl; have hcz6_2 : w5.cell? ⟨gb484, 2, none⟩ = some (.slice A0_2 l0_2.length c0_2) := (blk_cell BK484.out 2).trans rfl; have hfz6_0 := blk_frozen BK484.out 0; have hfz6_1 := blk_frozen BK484.out 1; have hfz6_2 := blk_frozen BK484.out 2) | ((with_reducible refine gate_callee (f := 68) rfl ?_); refine goesL_ (some 9) rfl rfl Try.func68 (by kernel_rfl) rfl #[.agg #[.slice A0_0 l0_0.length c0_0, .slice A0_1 l0_1.length c0_1, .slice A0_2 l0_2.length c0_2]] rfl (by (try simp only [List.map_toArray, List.map_cons, List.map_nil]); rfl) ?_; (with_reducible refine (spec_l04Code.calls k _ _ l0_0 _ _ l0_1 _ _ l0_2 t485 _ ?side1 ?side2 ?side3 ?side4 ?side5 ?side6 A2.out).mono ?_); (case side1 => exact (Kd.C_below HR0_0.out HB.out)); (case side2 => exact HC0_0.out); (case side3 => exact (Kd.C_below HR0_1.out HB.out)); (case side4 => exact HC0_1.out); (case side5 => exact (Kd.C_below HR0_2.out HB.out)); (case side6 => exact HC0_2.out); rintro e w7 ⟨rfl, hb⟩; refine ⟨_, rfl, ?_⟩; have n0_ := Aside0.mk (blk_below (g := gb484) (o := .cells #[.slice A0_0 l0_0.length c0_0, .slice A0_1 l0_1.length c0_1, .slice A0_2 l0_2.length c0_2] 33 (0, 0)) BK484.out hb); have n1_ := Aside0.mk (below_step HB.out hb); clear BK484; clear HB; have BK484 := n0_; have HB := n1_; clear n0_ n1_; (try clear hb); (try clear hb2); (try clear hk); (try clear hi); have hcz8_0 : w7.cell? ⟨gb484, 0, none⟩ = some (.slice A0_0 l0_0.length c0_0) := (blk_cell BK484.out 0).trans rfl; have hcz8_1 : w7.cell? ⟨gb484, 1, none⟩ = some (.slice A0_1 l0_1.length c0_1) := (blk_cell BK484.out 1).trans rfl; have hcz8_2 : w7.cell? ⟨gb484, 2, none⟩ = some (.slice A0_2 l0_2.length c0_2) := (blk_cell BK484.out 2).trans rfl; have hfz8_0 := blk_frozen BK484.out 0; have hfz8_1 := blk_frozen BK484.out 1; have hfz8_2 := blk_frozen BK484.out 2) | ((with_reducible refine gate_callee (f := 69) rfl ?_); refine goesL_ (some 15) rfl rfl Try.func69 (by kernel_rfl) rfl #[.agg #[.slice A0_0 l0_0.length c0_0, .slice A0_1 l0_1.length c0_1, .slice A0_2 l0_2.length c0_2]] rfl (by (try simp only [List.map_toArray, List.map_cons, List.map_nil]); rfl) ?_; (with_reducible refine (spec_l04Slots.calls k _ _ l0_0 _ _ l0_1 _ _ l0_2 t486 t489 t490 _ ?side1 ?side2 ?side3 ?side4 ?side5 ?side6 A4.out).mono ?_); (case side1 => exact (Kd.C_below HR0_0.out HB.out)); (case side2 => exact HC0_0.out); (case side3 => exact (Kd.C_below HR0_1.out HB.out)); (case side4 => exact HC0_1.out); (case side5 => exact (Kd.C_below HR0_2.out HB.out)); (case side6 => exact HC0_2.out); rintro e w9 ⟨v487, rfl, ho0, hb⟩; refine ⟨_, rfl, ?_⟩; have n0_ := Aside0.mk (Kd.R_lower ho0 (below_size HB.out)); have n1_ := Aside0.mk (blk_below (g := gb484) (o := .cells #[.slice A0_0 l0_0.length c0_0, .slice A0_1 l0_1.length c0_1, .slice A0_2 l0_2.length c0_2] 33 (0, 0)) BK484.out hb); have n2_ := Aside0.mk (below_step HB.out hb); clear BK484; clear HB; have HO488 := n0_; have BK484 := n1_; have HB := n2_; clear n0_ n1_ n2_; (try clear hb); (try clear hb2); (try clear hk); (try clear hi); (try clear ho0)))
 go_ret2
 exact ⟨by rfl, by exact HB.out⟩
end Go.Proofs.Ytoakdilhljnjfaa.Q
namespace Go.Proofs.Ytoakdilhljnjfaa.Q
open Go.RowKit Go.Proofs.YtoakdilhljnjfaaW.PrintWords Go.Proofs.YtoakdilhljnjfaaW.PrintLast Go.Proofs.YtoakdilhljnjfaaW.PrintMore
attribute [local go_sem] max2_int min2_int max_two min_two max_three min_three max_four min_four   -- for this text's walks alone
set_option linter.unusedVariables false
set_option linter.unusedSimpArgs false
def impl_WholePeriod.f (k : Nat) (l0_0 : List Int) (l0_1 : List Int) (l0_2 : List Int) : Option (Int × Int) := (impl_jobsCode.f k l0_0 l0_1 l0_2 true true).bind fun t492 => (if t492 = 0 then ((impl_Jobs_whole.f k l0_0 l0_1 l0_2).bind fun t493 => (some (t493, 0))) else (some (0, t492)))
set_option maxHeartbeats 8000000 in
set_option maxRecDepth 100000 in
theorem impl_WholePeriod.calls (k : Nat) (A0_0 : Option Addr) (c0_0 : Nat) (l0_0 : List Int) (A0_1 : Option Addr) (c0_1 : Nat) (l0_1 : List Int) (A0_2 : Option Addr) (c0_2 : Nat) (l0_2 : List Int) (r1 : Int) (r2 : Int) (w : World) (hr0_0 : Kd.C (Kd.int .i64) w A0_0 l0_0.length l0_0) (hc0_0 : l0_0.length ≤ c0_0) (hr0_1 : Kd.C (Kd.int .i64) w A0_1 l0_1.length l0_1) (hc0_1 : l0_1.length ≤ c0_1) (hr0_2 : Kd.C (Kd.int .i64) w A0_2 l0_2.length l0_2) (hc0_2 : l0_2.length ≤ c0_2) (h : impl_WholePeriod.f k l0_0 l0_1 l0_2 = some (r1, r2)) :
 Calls Try.prog 33 #[.agg #[.slice A0_0 l0_0.length c0_0, .slice A0_1 l0_1.length c0_1, .slice A0_2 l0_2.length c0_2]] w fun e w' => e = .returned (.tuple #[.int .i64 r1, .int .i64 r2]) ∧ Below w.heap.size w w' := by
 have hu33 := Try.underlying33
 have HR0_0 := Aside0.mk hr0_0
 have HC0_0 := Aside0.mk hc0_0
 clear hr0_0 hc0_0
 have HR0_1 := Aside0.mk hr0_1
 have HC0_1 := Aside0.mk hc0_1
 clear hr0_1 hc0_1
 have HR0_2 := Aside0.mk hr0_2
 have HC0_2 := Aside0.mk hc0_2
 clear hr0_2 hc0_2
 have HB := Aside0.mk (Below.refl w.heap.size w)
 have H : ((impl_jobsCode.f k l0_0 l0_1 l0_2 true true).bind fun t492 => (if t492 = 0 then ((impl_Jobs_whole.f k l0_0 l0_1 l0_2).bind fun t493 => (some (t493, 0))) else (some (0, t492)))) = some (r1, r2) := h
 clear h
 replace H := Option.bind_eq_some_iff.mp H
 obtain ⟨t492, A20, H⟩ := H
 replace H : (if t492 = 0 then ((impl_Jobs_whole.f k l0_0 l0_1 l0_2).bind fun t493 => (some (t493, 0))) else (some (0, t492))) = some (r1, r2) := H
 have A2 := Aside0.mk A20
 clear A20
 by_cases c3 : t492 = 0
 rotate_left
 · rw [if_neg c3] at H
   have c3b0 : (t492 == 0) = false := beq_eq_false_iff_ne.mpr c3
   have c3b1 : (t492 != 0) = true := bne_iff_ne.mpr c3
   simp only [Option.some.injEq, Prod.mk.injEq] at H
   obtain ⟨rfl, rfl⟩ := H
   go_enter Try.func33, Try.ntmps33
   go_wp2_with (first | ((with_reducible refine gate_dst (N := 1) rfl ?_); refine box_event ?hg (N := 1) ?hd (cs := #[.slice A0_0 l0_0.length c0_0, .slice A0_1 l0_1.length c0_1, .slice A0_2 l0_2.length c0_2]) (t := 33) ?hr ?_; (case hd => rfl); (case hg => rfl); (case hr => (go_simp; done)); intro gb491 hg w10 hbox hb; have n0_ := Aside0.mk (below_step HB.out hb); have n1_ := Aside0.mk (hbox); have n2_ := Aside0.mk ((by rw [hg]; exact (below_size HB.out) : w.heap.size ≤ gb491)); have n3_ := Aside0.mk ((by rw [hg]; exact (below_size HB.out) : w.heap.size ≤ gb491)); clear HB; have HB := n0_; have BK491 := n1_; have GW491 := n2_; have GE491 := n3_; clear n0_ n1_ n2_ n3_; clear hb hbox hg; have hcz11_0 : w10.cell? ⟨gb491, 0, none⟩ = some (.slice A0_0 l0_0.length c0_0) := (blk_cell BK491.out 0).trans rfl; have hcz11_1 : w10.cell? ⟨gb491, 1, none⟩ = some (.slice A0_1 l0_1.length c0_1) := (blk_cell BK491.out 1).trans rfl; have hcz11_2 : w10.cell? ⟨gb491, 2, none⟩ = some (.slice A0_2 l0_2.length c0_2) := (blk_cell BK491.out 2).trans rfl; have hfz11_0 := blk_frozen BK491.out 0; have hfz11_1 := blk_frozen BK491.out 1; have hfz11_2 := blk_frozen BK491.out 2) | ((with_reducible refine gate_callee (f := 56) rfl ?_); refine goesL_ (some 6) rfl rfl Try.func56 (by kernel_rfl) rfl #[.agg #[.slice A0_0 l0_0.length c0_0, .slice A0_1 l0_1.length c0_1, .slice A0_2 l0_2.length c0_2], .bool true, .bool true] rfl (by (try simp only [List.map_toArray, List.map_cons, List.map_nil]); rfl) ?_; (with_reducible refine (impl_jobsCode.calls k _ _ l0_0 _ _ l0_1 _ _ l0_2 true true t492 _ ?side1 ?side2 ?side3 ?side4 ?side5 ?side6 A2.out).mono ?_); (case side1 => exact (Kd.C_below HR0_0.out HB.out)); (case side2 => exact HC0_0.out); (case side3 => exact (Kd.C_below HR0_1.out HB.out)); (case side4 => exact HC0_1.out); (case side5 => exact (Kd.C_below HR0_2.out HB.out)); (case side6 => exact HC0_2.out); rintro e w12 ⟨rfl, hb⟩; refine ⟨_, rfl, ?_⟩; have n0_ := Aside0.mk (blk_below (g := gb491) (o := .cells #[.slice A0_0 l0_0.length c0_0, .slice A0_1 l0_1.length c0_1, .slice A0_2 l0_2.length c0_2] 33 (0, 0)) BK491.out hb); have n1_ := Aside0.mk (below_step HB.out hb); clear BK491; clear HB; have BK491 := n0_; have HB := n1_; clear n0_ n1_; (try clear hb); (try clear hb2); (try clear hk); (try clear hi)))
   go_ret2
   exact ⟨by rfl, by exact HB.out⟩
 rw [if_pos c3] at H
 have c3b0 : (t492 == 0) = true := beq_iff_eq.mpr c3
 have c3b1 : (t492 != 0) = false := bne_eq_false_iff_eq.mpr c3
 clear c3
 replace H := Option.bind_eq_some_iff.mp H
 obtain ⟨t493, A40, H⟩ := H
 replace H : (some (t493, 0)) = some (r1, r2) := H
 have A4 := Aside0.mk A40
 clear A40
 simp only [Option.some.injEq, Prod.mk.injEq] at H
 obtain ⟨rfl, rfl⟩ := H
 go_enter Try.func33, Try.ntmps33
 go_wp2_with (first | ((with_reducible refine gate_dst (N := 1) rfl ?_); refine box_event ?hg (N := 1) ?hd (cs := #[.slice A0_0 l0_0.length c0_0, .slice A0_1 l0_1.length c0_1, .slice A0_2 l0_2.length c0_2]) (t := 33) ?hr ?_; (case hd => rfl); (case hg => rfl); (case hr => (go_simp; done)); intro gb491 hg w5 hbox hb; have n0_ := Aside0.mk (below_step HB.out hb); have n1_ := Aside0.mk (hbox); have n2_ := Aside0.mk ((by rw [hg]; exact (below_size HB.out) : w.heap.size ≤ gb491)); have n3_ := Aside0.mk ((by rw [hg]; exact (below_size HB.out) : w.heap.size ≤ gb491)); clear HB; have HB := n0_; have BK491 := n1_; have GW491 := n2_; have GE491 := n3_; clear n0_ n1_ n2_ n3_; clear hb hbox hg; have hcz6_0 : w5.cell? ⟨gb491, 0, none⟩ = some (.slice A0_0 l0_0.length c0_0) := (blk_cell BK491.out 0).trans rfl; have hcz6_1 : w5.cell? ⟨gb491, 1, none⟩ = some (.slice A0_1 l0_1.length c0_1) := (blk_cell BK491.out 1).trans rfl; have hcz6_2 : w5.cell? ⟨gb491, 2, none⟩ = some (.slice A0_2 l0_2.length c0_2) := (blk_cell BK491.out 2).trans rfl; have hfz6_0 := blk_frozen BK491.out 0; have hfz6_1 := blk_frozen BK491.out 1; have hfz6_2 := blk_frozen BK491.out 2) | ((with_reducible refine gate_callee (f := 56) rfl ?_); refine goesL_ (some 6) rfl rfl Try.func56 (by kernel_rfl) rfl #[.agg #[.slice A0_0 l0_0.length c0_0, .slice A0_1 l0_1.length c0_1, .slice A0_2 l0_2.length c0_2], .bool true, .bool true] rfl (by (try simp only [List.map_toArray, List.map_cons, List.map_nil]); rfl) ?_; (with_reducible refine (impl_jobsCode.calls k _ _ l0_0 _ _ l0_1 _ _ l0_2 true true t492 _ ?side1 ?side2 ?side3 ?side4 ?side5 ?side6 A2.out).mono ?_); (case side1 => exact (Kd.C_below HR0_0.out HB.out)); (case side2 => exact HC0_0.out); (case side3 => exact (Kd.C_below HR0_1.out HB.out)); (case side4 => exact HC0_1.out); (case side5 => exact (Kd.C_below HR0_2.out HB.out)); (case side6 => exact HC0_2.out); rintro e w7 ⟨rfl, hb⟩; refine ⟨_, rfl, ?_⟩; have n0_ := Aside0.mk (blk_below (g := gb491) (o := .cells #[.slice A0_0 l0_0.length c0_0, .slice A0_1 l0_1.length c0_1, .slice A0_2 l0_2.length c0_2] 33 (0, 0)) BK491.out hb); have n1_ := Aside0.mk (below_step HB.out hb); clear BK491; clear HB; have BK491 := n0_; have HB := n1_; clear n0_ n1_; (try clear hb); (try clear hb2); (try clear hk); (try clear hi); have hcz8_0 : w7.cell? ⟨gb491, 0, none⟩ = some (.slice A0_0 l0_0.length c0_0) := (blk_cell BK491.out 0).trans rfl; have hcz8_1 : w7.cell? ⟨gb491, 1, none⟩ = some (.slice A0_1 l0_1.length c0_1) := (blk_cell BK491.out 1).trans rfl; have hcz8_2 : w7.cell? ⟨gb491, 2, none⟩ = some (.slice A0_2 l0_2.length c0_2) := (blk_cell BK491.out 2).trans rfl; have hfz8_0 := blk_frozen BK491.out 0; have hfz8_1 := blk_frozen BK491.out 1; have hfz8_2 := blk_frozen BK491.out 2) | ((with_reducible refine gate_callee (f := 73) rfl ?_); refine goesL_ (some 11) rfl rfl Try.func73 (by kernel_rfl) rfl #[.agg #[.slice A0_0 l0_0.length c0_0, .slice A0_1 l0_1.length c0_1, .slice A0_2 l0_2.length c0_2]] rfl (by (try simp only [List.map_toArray, List.map_cons, List.map_nil]); rfl) ?_; (with_reducible refine (impl_Jobs_whole.calls k _ _ l0_0 _ _ l0_1 _ _ l0_2 t493 _ ?side1 ?side2 ?side3 ?side4 ?side5 ?side6 A4.out).mono ?_); (case side1 => exact (Kd.C_below HR0_0.out HB.out)); (case side2 => exact HC0_0.out); (case side3 => exact (Kd.C_below HR0_1.out HB.out)); (case side4 => exact HC0_1.out); (case side5 => exact (Kd.C_below HR0_2.out HB.out)); (case side6 => exact HC0_2.out); rintro e w9 ⟨rfl, hb⟩; refine ⟨_, rfl, ?_⟩; have n0_ := Aside0.mk (blk_below (g := gb491) (o := .cells #[.slice A0_0 l0_0.length c0_0, .slice A0_1 l0_1.length c0_1, .slice A0_2 l0_2.length c0_2] 33 (0, 0)) BK491.out hb); have n1_ := Aside0.mk (below_step HB.out hb); clear BK491; clear HB; have BK491 := n0_; have HB := n1_; clear n0_ n1_; (try clear hb); (try clear hb2); (try clear hk); (try clear hi)))
 go_ret2
 exact ⟨by rfl, by exact HB.out⟩
end Go.Proofs.Ytoakdilhljnjfaa.Q
namespace Go.Proofs.Ytoakdilhljnjfaa.Q
open Go.RowKit Go.Proofs.YtoakdilhljnjfaaW.PrintWords Go.Proofs.YtoakdilhljnjfaaW.PrintLast Go.Proofs.YtoakdilhljnjfaaW.PrintMore
attribute [local go_sem] max2_int min2_int max_two min_two max_three min_three max_four min_four   -- for this text's walks alone
set_option linter.unusedVariables false
set_option linter.unusedSimpArgs false
def spec_WholePeriod.f (k : Nat) (l0_0 : List Int) (l0_1 : List Int) (l0_2 : List Int) : Option (Int × Int) := (spec_l04Code.f k l0_0 l0_1 l0_2).bind fun t495 => (if t495 = 0 then ((spec_l04Whole.f k l0_0 l0_1 l0_2).bind fun t496 => (some (t496, 0))) else (some (0, t495)))
set_option maxHeartbeats 8000000 in
set_option maxRecDepth 100000 in
theorem spec_WholePeriod.calls (k : Nat) (A0_0 : Option Addr) (c0_0 : Nat) (l0_0 : List Int) (A0_1 : Option Addr) (c0_1 : Nat) (l0_1 : List Int) (A0_2 : Option Addr) (c0_2 : Nat) (l0_2 : List Int) (r1 : Int) (r2 : Int) (w : World) (hr0_0 : Kd.C (Kd.int .i64) w A0_0 l0_0.length l0_0) (hc0_0 : l0_0.length ≤ c0_0) (hr0_1 : Kd.C (Kd.int .i64) w A0_1 l0_1.length l0_1) (hc0_1 : l0_1.length ≤ c0_1) (hr0_2 : Kd.C (Kd.int .i64) w A0_2 l0_2.length l0_2) (hc0_2 : l0_2.length ≤ c0_2) (h : spec_WholePeriod.f k l0_0 l0_1 l0_2 = some (r1, r2)) :
 Calls Try.prog 34 #[.agg #[.slice A0_0 l0_0.length c0_0, .slice A0_1 l0_1.length c0_1, .slice A0_2 l0_2.length c0_2]] w fun e w' => e = .returned (.tuple #[.int .i64 r1, .int .i64 r2]) ∧ Below w.heap.size w w' := by
 have hu33 := Try.underlying33
 have HR0_0 := Aside0.mk hr0_0
 have HC0_0 := Aside0.mk hc0_0
 clear hr0_0 hc0_0
 have HR0_1 := Aside0.mk hr0_1
 have HC0_1 := Aside0.mk hc0_1
 clear hr0_1 hc0_1
 have HR0_2 := Aside0.mk hr0_2
 have HC0_2 := Aside0.mk hc0_2
 clear hr0_2 hc0_2
 have HB := Aside0.mk (Below.refl w.heap.size w)
 have H : ((spec_l04Code.f k l0_0 l0_1 l0_2).bind fun t495 => (if t495 = 0 then ((spec_l04Whole.f k l0_0 l0_1 l0_2).bind fun t496 => (some (t496, 0))) else (some (0, t495)))) = some (r1, r2) := h
 clear h
 replace H := Option.bind_eq_some_iff.mp H
 obtain ⟨t495, A20, H⟩ := H
 replace H : (if t495 = 0 then ((spec_l04Whole.f k l0_0 l0_1 l0_2).bind fun t496 => (some (t496, 0))) else (some (0, t495))) = some (r1, r2) := H
 have A2 := Aside0.mk A20
 clear A20
 by_cases c3 : t495 = 0
 rotate_left
 · rw [if_neg c3] at H
   have c3b0 : (t495 == 0) = false := beq_eq_false_iff_ne.mpr c3
   have c3b1 : (t495 != 0) = true := bne_iff_ne.mpr c3
   simp only [Option.some.injEq, Prod.mk.injEq] at H
   obtain ⟨rfl, rfl⟩ := H
   go_enter Try.func34, Try.ntmps34
   go_wp2_with (first | ((with_reducible refine gate_dst (N := 1) rfl ?_); refine box_event ?hg (N := 1) ?hd (cs := #[.slice A0_0 l0_0.length c0_0, .slice A0_1 l0_1.length c0_1, .slice A0_2 l0_2.length c0_2]) (t := 33) ?hr ?_; (case hd => rfl); (case hg => rfl); (case hr => (go_simp; done)); intro gb494 hg w10 hbox hb; have n0_ := Aside0.mk (below_step HB.out hb); have n1_ := Aside0.mk (hbox); have n2_ := Aside0.mk ((by rw [hg]; exact (below_size HB.out) : w.heap.size ≤ gb494)); have n3_ := Aside0.mk ((by rw [hg]; exact (below_size HB.out) : w.heap.size ≤ gb494)); clear HB; have HB := n0_; have BK494 := n1_; have GW494 := n2_; have GE494 := n3_; clear n0_ n1_ n2_ n3_; clear hb hbox hg; have hcz11_0 : w10.cell? ⟨gb494, 0, none⟩ = some (.slice A0_0 l0_0.length c0_0) := (blk_cell BK494.out 0).trans rfl; have hcz11_1 : w10.cell? ⟨gb494, 1, none⟩ = some (.slice A0_1 l0_1.length c0_1) := (blk_cell BK494.out 1).trans rfl; have hcz11_2 : w10.cell? ⟨gb494, 2, none⟩ = some (.slice A0_2 l0_2.length c0_2) := (blk_cell BK494.out 2).trans rfl; have hfz11_0 := blk_frozen BK494.out 0; have hfz11_1 := blk_frozen BK494.out 1; have hfz11_2 := blk_frozen BK494.out 2) | ((with_reducible refine gate_callee (f := 68) rfl ?_); refine goesL_ (some 6) rfl rfl Try.func68 (by kernel_rfl) rfl #[.agg #[.slice A0_0 l0_0.length c0_0, .slice A0_1 l0_1.length c0_1, .slice A0_2 l0_2.length c0_2]] rfl (by (try simp only [List.map_toArray, List.map_cons, List.map_nil]); rfl) ?_; (with_reducible refine (spec_l04Code.calls k _ _ l0_0 _ _ l0_1 _ _ l0_2 t495 _ ?side1 ?side2 ?side3 ?side4 ?side5 ?side6 A2.out).mono ?_); (case side1 => exact (Kd.C_below HR0_0.out HB.out)); (case side2 => exact HC0_0.out); (case side3 => exact (Kd.C_below HR0_1.out HB.out)); (case side4 => exact HC0_1.out); (case side5 => exact (Kd.C_below HR0_2.out HB.out)); (case side6 => exact HC0_2.out); rintro e w12 ⟨rfl, hb⟩; refine ⟨_, rfl, ?_⟩; have n0_ := Aside0.mk (blk_below (g := gb494) (o := .cells #[.slice A0_0 l0_0.length c0_0, .slice A0_1 l0_1.length c0_1, .slice A0_2 l0_2.length c0_2] 33 (0, 0)) BK494.out hb); have n1_ := Aside0.mk (below_step HB.out hb); clear BK494; clear HB; have BK494 := n0_; have HB := n1_; clear n0_ n1_; (try clear hb); (try clear hb2); (try clear hk); (try clear hi)))
   go_ret2
   exact ⟨by rfl, by exact HB.out⟩
 rw [if_pos c3] at H
 have c3b0 : (t495 == 0) = true := beq_iff_eq.mpr c3
 have c3b1 : (t495 != 0) = false := bne_eq_false_iff_eq.mpr c3
 clear c3
 replace H := Option.bind_eq_some_iff.mp H
 obtain ⟨t496, A40, H⟩ := H
 replace H : (some (t496, 0)) = some (r1, r2) := H
 have A4 := Aside0.mk A40
 clear A40
 simp only [Option.some.injEq, Prod.mk.injEq] at H
 obtain ⟨rfl, rfl⟩ := H
 go_enter Try.func34, Try.ntmps34
 go_wp2_with (first | ((with_reducible refine gate_dst (N := 1) rfl ?_); refine box_event ?hg (N := 1) ?hd (cs := #[.slice A0_0 l0_0.length c0_0, .slice A0_1 l0_1.length c0_1, .slice A0_2 l0_2.length c0_2]) (t := 33) ?hr ?_; (case hd => rfl); (case hg => rfl); (case hr => (go_simp; done)); intro gb494 hg w5 hbox hb; have n0_ := Aside0.mk (below_step HB.out hb); have n1_ := Aside0.mk (hbox); have n2_ := Aside0.mk ((by rw [hg]; exact (below_size HB.out) : w.heap.size ≤ gb494)); have n3_ := Aside0.mk ((by rw [hg]; exact (below_size HB.out) : w.heap.size ≤ gb494)); clear HB; have HB := n0_; have BK494 := n1_; have GW494 := n2_; have GE494 := n3_; clear n0_ n1_ n2_ n3_; clear hb hbox hg; have hcz6_0 : w5.cell? ⟨gb494, 0, none⟩ = some (.slice A0_0 l0_0.length c0_0) := (blk_cell BK494.out 0).trans rfl; have hcz6_1 : w5.cell? ⟨gb494, 1, none⟩ = some (.slice A0_1 l0_1.length c0_1) := (blk_cell BK494.out 1).trans rfl; have hcz6_2 : w5.cell? ⟨gb494, 2, none⟩ = some (.slice A0_2 l0_2.length c0_2) := (blk_cell BK494.out 2).trans rfl; have hfz6_0 := blk_frozen BK494.out 0; have hfz6_1 := blk_frozen BK494.out 1; have hfz6_2 := blk_frozen BK494.out 2) | ((with_reducible refine gate_callee (f := 68) rfl ?_); refine goesL_ (some 6) rfl rfl Try.func68 (by kernel_rfl) rfl #[.agg #[.slice A0_0 l0_0.length c0_0, .slice A0_1 l0_1.length c0_1, .slice A0_2 l0_2.length c0_2]] rfl (by (try simp only [List.map_toArray, List.map_cons, List.map_nil]); rfl) ?_; (with_reducible refine (spec_l04Code.calls k _ _ l0_0 _ _ l0_1 _ _ l0_2 t495 _ ?side1 ?side2 ?side3 ?side4 ?side5 ?side6 A2.out).mono ?_); (case side1 => exact (Kd.C_below HR0_0.out HB.out)); (case side2 => exact HC0_0.out); (case side3 => exact (Kd.C_below HR0_1.out HB.out)); (case side4 => exact HC0_1.out); (case side5 => exact (Kd.C_below HR0_2.out HB.out)); (case side6 => exact HC0_2.out); rintro e w7 ⟨rfl, hb⟩; refine ⟨_, rfl, ?_⟩; have n0_ := Aside0.mk (blk_below (g := gb494) (o := .cells #[.slice A0_0 l0_0.length c0_0, .slice A0_1 l0_1.length c0_1, .slice A0_2 l0_2.length c0_2] 33 (0, 0)) BK494.out hb); have n1_ := Aside0.mk (below_step HB.out hb); clear BK494; clear HB; have BK494 := n0_; have HB := n1_; clear n0_ n1_; (try clear hb); (try clear hb2); (try clear hk); (try clear hi); have hcz8_0 : w7.cell? ⟨gb494, 0, none⟩ = some (.slice A0_0 l0_0.length c0_0) := (blk_cell BK494.out 0).trans rfl; have hcz8_1 : w7.cell? ⟨gb494, 1, none⟩ = some (.slice A0_1 l0_1.length c0_1) := (blk_cell BK494.out 1).trans rfl; have hcz8_2 : w7.cell? ⟨gb494, 2, none⟩ = some (.slice A0_2 l0_2.length c0_2) := (blk_cell BK494.out 2).trans rfl; have hfz8_0 := blk_frozen BK494.out 0; have hfz8_1 := blk_frozen BK494.out 1; have hfz8_2 := blk_frozen BK494.out 2) | ((with_reducible refine gate_callee (f := 74) rfl ?_); refine goesL_ (some 11) rfl rfl Try.func74 (by kernel_rfl) rfl #[.agg #[.slice A0_0 l0_0.length c0_0, .slice A0_1 l0_1.length c0_1, .slice A0_2 l0_2.length c0_2]] rfl (by (try simp only [List.map_toArray, List.map_cons, List.map_nil]); rfl) ?_; (with_reducible refine (spec_l04Whole.calls k _ _ l0_0 _ _ l0_1 _ _ l0_2 t496 _ ?side1 ?side2 ?side3 ?side4 ?side5 ?side6 A4.out).mono ?_); (case side1 => exact (Kd.C_below HR0_0.out HB.out)); (case side2 => exact HC0_0.out); (case side3 => exact (Kd.C_below HR0_1.out HB.out)); (case side4 => exact HC0_1.out); (case side5 => exact (Kd.C_below HR0_2.out HB.out)); (case side6 => exact HC0_2.out); rintro e w9 ⟨rfl, hb⟩; refine ⟨_, rfl, ?_⟩; have n0_ := Aside0.mk (blk_below (g := gb494) (o := .cells #[.slice A0_0 l0_0.length c0_0, .slice A0_1 l0_1.length c0_1, .slice A0_2 l0_2.length c0_2] 33 (0, 0)) BK494.out hb); have n1_ := Aside0.mk (below_step HB.out hb); clear BK494; clear HB; have BK494 := n0_; have HB := n1_; clear n0_ n1_; (try clear hb); (try clear hb2); (try clear hk); (try clear hi)))
 go_ret2
 exact ⟨by rfl, by exact HB.out⟩
end Go.Proofs.Ytoakdilhljnjfaa.Q
namespace Go.Proofs.Ytoakdilhljnjfaa.Q
open Go.RowKit Go.Proofs.YtoakdilhljnjfaaW.PrintWords Go.Proofs.YtoakdilhljnjfaaW.PrintLast Go.Proofs.YtoakdilhljnjfaaW.PrintMore
attribute [local go_sem] max2_int min2_int max_two min_two max_three min_three max_four min_four   -- for this text's walks alone
set_option linter.unusedVariables false
set_option linter.unusedSimpArgs false
def spec_AreJobs.f (k : Nat) (l0_0 : List Int) (l0_1 : List Int) (l0_2 : List Int) : Option (Bool) := (spec_l04Is.f k l0_0 l0_1 l0_2).bind fun t510 => (some t510)
set_option maxHeartbeats 8000000 in
set_option maxRecDepth 100000 in
theorem spec_AreJobs.calls (k : Nat) (A0_0 : Option Addr) (c0_0 : Nat) (l0_0 : List Int) (A0_1 : Option Addr) (c0_1 : Nat) (l0_1 : List Int) (A0_2 : Option Addr) (c0_2 : Nat) (l0_2 : List Int) (r : Bool) (w : World) (hr0_0 : Kd.C (Kd.int .i64) w A0_0 l0_0.length l0_0) (hc0_0 : l0_0.length ≤ c0_0) (hr0_1 : Kd.C (Kd.int .i64) w A0_1 l0_1.length l0_1) (hc0_1 : l0_1.length ≤ c0_1) (hr0_2 : Kd.C (Kd.int .i64) w A0_2 l0_2.length l0_2) (hc0_2 : l0_2.length ≤ c0_2) (h : spec_AreJobs.f k l0_0 l0_1 l0_2 = some r) :
 Calls Try.prog 38 #[.agg #[.slice A0_0 l0_0.length c0_0, .slice A0_1 l0_1.length c0_1, .slice A0_2 l0_2.length c0_2]] w fun e w' => e = .returned (.bool r) ∧ Below w.heap.size w w' := by
 have hu33 := Try.underlying33
 have HR0_0 := Aside0.mk hr0_0
 have HC0_0 := Aside0.mk hc0_0
 clear hr0_0 hc0_0
 have HR0_1 := Aside0.mk hr0_1
 have HC0_1 := Aside0.mk hc0_1
 clear hr0_1 hc0_1
 have HR0_2 := Aside0.mk hr0_2
 have HC0_2 := Aside0.mk hc0_2
 clear hr0_2 hc0_2
 have HB := Aside0.mk (Below.refl w.heap.size w)
 have H : ((spec_l04Is.f k l0_0 l0_1 l0_2).bind fun t510 => (some t510)) = some r := h
 clear h
 replace H := Option.bind_eq_some_iff.mp H
 obtain ⟨t510, A20, H⟩ := H
 replace H : (some t510) = some r := H
 have A2 := Aside0.mk A20
 clear A20
 obtain rfl := Option.some.inj H
 go_enter Try.func38, Try.ntmps38
 go_wp2_with (first | ((with_reducible refine gate_dst (N := 1) rfl ?_); refine box_event ?hg (N := 1) ?hd (cs := #[.slice A0_0 l0_0.length c0_0, .slice A0_1 l0_1.length c0_1, .slice A0_2 l0_2.length c0_2]) (t := 33) ?hr ?_; (case hd => rfl); (case hg => rfl); (case hr => (go_simp; done)); intro gb509 hg w3 hbox hb; have n0_ := Aside0.mk (below_step HB.out hb); have n1_ := Aside0.mk (hbox); have n2_ := Aside0.mk ((by rw [hg]; exact (below_size HB.out) : w.heap.size ≤ gb509)); have n3_ := Aside0.mk ((by rw [hg]; exact (below_size HB.out) : w.heap.size ≤ gb509)); clear HB; have HB := n0_; have BK509 := n1_; have GW509 := n2_; have GE509 := n3_; clear n0_ n1_ n2_ n3_; clear hb hbox hg; have hcz4_0 : w3.cell? ⟨gb509, 0, none⟩ = some (.slice A0_0 l0_0.length c0_0) := (blk_cell BK509.out 0).trans rfl; have hcz4_1 : w3.cell? ⟨gb509, 1, none⟩ = some (.slice A0_1 l0_1.length c0_1) := (blk_cell BK509.out 1).trans rfl; have hcz4_2 : w3.cell? ⟨gb509, 2, none⟩ = some (.slice A0_2 l0_2.length c0_2) := (blk_cell BK509.out 2).trans rfl; have hfz4_0 := blk_frozen BK509.out 0; have hfz4_1 := blk_frozen BK509.out 1; have hfz4_2 := blk_frozen BK509.out 2) | ((with_reducible refine gate_callee (f := 55) rfl ?_); refine goesL_ (some 4) rfl rfl Try.func55 (by kernel_rfl) rfl #[.agg #[.slice A0_0 l0_0.length c0_0, .slice A0_1 l0_1.length c0_1, .slice A0_2 l0_2.length c0_2]] rfl (by (try simp only [List.map_toArray, List.map_cons, List.map_nil]); rfl) ?_; (with_reducible refine (spec_l04Is.calls k _ _ l0_0 _ _ l0_1 _ _ l0_2 t510 _ ?side1 ?side2 ?side3 ?side4 ?side5 ?side6 A2.out).mono ?_); (case side1 => exact (Kd.C_below HR0_0.out HB.out)); (case side2 => exact HC0_0.out); (case side3 => exact (Kd.C_below HR0_1.out HB.out)); (case side4 => exact HC0_1.out); (case side5 => exact (Kd.C_below HR0_2.out HB.out)); (case side6 => exact HC0_2.out); rintro e w5 ⟨rfl, hb⟩; refine ⟨_, rfl, ?_⟩; have n0_ := Aside0.mk (blk_below (g := gb509) (o := .cells #[.slice A0_0 l0_0.length c0_0, .slice A0_1 l0_1.length c0_1, .slice A0_2 l0_2.length c0_2] 33 (0, 0)) BK509.out hb); have n1_ := Aside0.mk (below_step HB.out hb); clear BK509; clear HB; have BK509 := n0_; have HB := n1_; clear n0_ n1_; (try clear hb); (try clear hb2); (try clear hk); (try clear hi)))
 go_ret
 exact ⟨by rfl, by exact HB.out⟩
end Go.Proofs.Ytoakdilhljnjfaa.Q
namespace Go.Proofs.Ytoakdilhljnjfaa.Q
open Go.RowKit Go.Proofs.YtoakdilhljnjfaaW.PrintWords Go.Proofs.YtoakdilhljnjfaaW.PrintLast Go.Proofs.YtoakdilhljnjfaaW.PrintMore
attribute [local go_sem] max2_int min2_int max_two min_two max_three min_three max_four min_four   -- for this text's walks alone
set_option linter.unusedVariables false
set_option linter.unusedSimpArgs false
def impl_DemandUpTo.f (k : Nat) (l0_0 : List Int) (l0_1 : List Int) (l0_2 : List Int) (a1 : Int) : Option (Int × Int) := (impl_within.f a1 0 1000).bind fun t547 => ((impl_jobsCode.f k l0_0 l0_1 l0_2 t547 false).bind fun t548 => (if t548 = 0 then ((impl_Jobs_demand.f k l0_0 l0_1 l0_2 a1).bind fun t549 => (some (t549, 0))) else (some (0, t548))))
set_option maxHeartbeats 8000000 in
set_option maxRecDepth 100000 in
theorem impl_DemandUpTo.calls (k : Nat) (A0_0 : Option Addr) (c0_0 : Nat) (l0_0 : List Int) (A0_1 : Option Addr) (c0_1 : Nat) (l0_1 : List Int) (A0_2 : Option Addr) (c0_2 : Nat) (l0_2 : List Int) (a1 : Int) (r1 : Int) (r2 : Int) (w : World) (hr0_0 : Kd.C (Kd.int .i64) w A0_0 l0_0.length l0_0) (hc0_0 : l0_0.length ≤ c0_0) (hr0_1 : Kd.C (Kd.int .i64) w A0_1 l0_1.length l0_1) (hc0_1 : l0_1.length ≤ c0_1) (hr0_2 : Kd.C (Kd.int .i64) w A0_2 l0_2.length l0_2) (hc0_2 : l0_2.length ≤ c0_2) (h : impl_DemandUpTo.f k l0_0 l0_1 l0_2 a1 = some (r1, r2)) :
 Calls Try.prog 40 #[.agg #[.slice A0_0 l0_0.length c0_0, .slice A0_1 l0_1.length c0_1, .slice A0_2 l0_2.length c0_2], .int .i64 a1] w fun e w' => e = .returned (.tuple #[.int .i64 r1, .int .i64 r2]) ∧ Below w.heap.size w w' := by
 have hu33 := Try.underlying33
 have HR0_0 := Aside0.mk hr0_0
 have HC0_0 := Aside0.mk hc0_0
 clear hr0_0 hc0_0
 have HR0_1 := Aside0.mk hr0_1
 have HC0_1 := Aside0.mk hc0_1
 clear hr0_1 hc0_1
 have HR0_2 := Aside0.mk hr0_2
 have HC0_2 := Aside0.mk hc0_2
 clear hr0_2 hc0_2
 have HB := Aside0.mk (Below.refl w.heap.size w)
 have H : ((impl_within.f a1 0 1000).bind fun t547 => ((impl_jobsCode.f k l0_0 l0_1 l0_2 t547 false).bind fun t548 => (if t548 = 0 then ((impl_Jobs_demand.f k l0_0 l0_1 l0_2 a1).bind fun t549 => (some (t549, 0))) else (some (0, t548))))) = some (r1, r2) := h
 clear h
 replace H := Option.bind_eq_some_iff.mp H
 obtain ⟨t547, A30, H⟩ := H
 replace H : ((impl_jobsCode.f k l0_0 l0_1 l0_2 t547 false).bind fun t548 => (if t548 = 0 then ((impl_Jobs_demand.f k l0_0 l0_1 l0_2 a1).bind fun t549 => (some (t549, 0))) else (some (0, t548)))) = some (r1, r2) := H
 have A3 := Aside0.mk A30
 clear A30
 replace H := Option.bind_eq_some_iff.mp H
 obtain ⟨t548, A40, H⟩ := H
 replace H : (if t548 = 0 then ((impl_Jobs_demand.f k l0_0 l0_1 l0_2 a1).bind fun t549 => (some (t549, 0))) else (some (0, t548))) = some (r1, r2) := H
 have A4 := Aside0.mk A40
 clear A40
 by_cases c5 : t548 = 0
 rotate_left
 · rw [if_neg c5] at H
   have c5b0 : (t548 == 0) = false := beq_eq_false_iff_ne.mpr c5
   have c5b1 : (t548 != 0) = true := bne_iff_ne.mpr c5
   simp only [Option.some.injEq, Prod.mk.injEq] at H
   obtain ⟨rfl, rfl⟩ := H
   go_enter Try.func40, Try.ntmps40
   try go_wp2_with (((with_reducible refine gate_dst (N := 2) rfl ?_); refine box_event ?hg (N := 2) ?hd (cs := #[.slice A0_0 l0_0.length c0_0, .slice A0_1 l0_1.length c0_1, .slice A0_2 l0_2.length c0_2]) (t := 33) ?hr ?_; (case hd => rfl); (case hg => rfl); (case hr => (go_simp; done)); intro gb546 hg w12 hbox hb; have n0_ := Aside0.mk (below_step HB.out hb); have n1_ := Aside0.mk (hbox); have n2_ := Aside0.mk ((by rw [hg]; exact (below_size HB.out) : w.heap.size ≤ gb546)); have n3_ := Aside0.mk ((by rw [hg]; exact (below_size HB.out) : w.heap.size ≤ gb546)); clear HB; have HB := n0_; have BK546 := n1_; have GW546 := n2_; have GE546 := n3_; clear n0_ n1_ n2_ n3_; clear hb hbox hg))
   have n0_ := Aside0.mk (blk_drew BK546.out)
   have n1_ := Aside0.mk (below_drew1 HB.out)
   clear BK546
   clear HB
   have BK546 := n0_
   have HB := n1_
   clear n0_ n1_
   refine start_ (n := 5) (S := fun w' => w'.cell? ⟨gb546, 0, none⟩ = some (.slice A0_0 l0_0.length c0_0) ∧ w'.cell? ⟨gb546, 1, none⟩ = some (.slice A0_1 l0_1.length c0_1) ∧ w'.cell? ⟨gb546, 2, none⟩ = some (.slice A0_2 l0_2.length c0_2)) (ds := []) #[false, false, false, false, false] (by kernel_rfl) rfl rfl ⟨(blk_cell BK546.out 0).trans rfl, (blk_cell BK546.out 1).trans rfl, (blk_cell BK546.out 2).trans rfl⟩ (fun hHeld => ?_)
   generalize w12.drew = w13 at BK546 HB hHeld ⊢
   refine pure_ (i := 1) (N := some 8) (v := ?_) (a' := ?_) #[false, true, false, false, false] rfl rfl (by kernel_rfl) (fun _ _ _ h => h) (Or.inl ⟨by rfl, ?_⟩) ?_ ?_
   rotate_left
   · intro w'
     go_simp
     with_reducible rfl
   rotate_left
   · simp only [Act.put, List.setIfInBounds_toArray, List.set_cons_zero, List.set_cons_succ, i64_w, i32_w]
     rfl
   refine take_ (i := 0) (N := some 7) (v := ?_) (a' := ?_) #[true, true, false, false, false] rfl rfl (by kernel_rfl) (fun _ _ _ h => h) (Or.inl ⟨by rfl, ?_⟩) hHeld ?_ ?_
   rotate_left
   · rintro w' ⟨s0, s1, s2⟩
     go_simp
     with_reducible rfl
   rotate_left
   · simp only [Act.put, List.setIfInBounds_toArray, List.set_cons_zero, List.set_cons_succ, i64_w, i32_w]
     rfl
   refine one_ (i := 2) (N := some 9) #[true, true, true, false, false] rfl rfl (by kernel_rfl) (by decide) (fun K hK => ?_)
   refine goes_ Try.func48 (by kernel_rfl) rfl #[.int .i64 a1, .int .i64 0, .int .i64 1000] (by rfl) rfl rfl (by (try simp only [List.map_toArray, List.map_cons, List.map_nil]); rfl) ?_
   with_reducible refine (impl_within.calls a1 0 1000 t547 _ A3.out).mono ?_
   rintro e w' ⟨rfl, ⟨nd, rfl⟩⟩
   refine ⟨_, rfl, ?_⟩
   refine hK.out _ _ ⟨(blk_cell BK546.out 0).trans rfl, (blk_cell BK546.out 1).trans rfl, (blk_cell BK546.out 2).trans rfl⟩ (fun hHeld => ?_)
   clear hK K
   refine norm_ (a' := ?_) ?_ ?_
   rotate_left
   · show Act.put _ (some 9) _ = _
     simp only [Act.put, List.setIfInBounds_toArray, List.set_cons_zero, List.set_cons_succ, i64_w, i32_w]
     rfl
   refine one_ (i := 3) (N := some 10) #[true, true, true, true, false] rfl rfl (by kernel_rfl) (by decide) (fun K hK => ?_)
   refine goes_ Try.func56 (by kernel_rfl) rfl #[.agg #[.slice A0_0 l0_0.length c0_0, .slice A0_1 l0_1.length c0_1, .slice A0_2 l0_2.length c0_2], .bool t547, .bool false] (by rfl) rfl rfl (by (try simp only [List.map_toArray, List.map_cons, List.map_nil]); rfl) ?_
   with_reducible refine (impl_jobsCode.calls k _ _ l0_0 _ _ l0_1 _ _ l0_2 t547 false t548 _ ?side1 ?side2 ?side3 ?side4 ?side5 ?side6 A4.out).mono ?_
   (case side1 => repeat (exact (Kd.C_below HR0_0.out (by repeat (with_reducible first | exact HB.out | apply pw_below_drewN)))))
   (case side2 => exact HC0_0.out)
   (case side3 => repeat (exact (Kd.C_below HR0_1.out (by repeat (with_reducible first | exact HB.out | apply pw_below_drewN)))))
   (case side4 => exact HC0_1.out)
   (case side5 => repeat (exact (Kd.C_below HR0_2.out (by repeat (with_reducible first | exact HB.out | apply pw_below_drewN)))))
   (case side6 => exact HC0_2.out)
   rintro e w14 ⟨rfl, hb⟩
   refine ⟨_, rfl, ?_⟩
   have n0_ := Aside0.mk (blk_below (g := gb546) (o := .cells #[.slice A0_0 l0_0.length c0_0, .slice A0_1 l0_1.length c0_1, .slice A0_2 l0_2.length c0_2] 33 (0, 0)) (by (with_reducible repeat (refine blk_drewN ?_ _)); exact BK546.out) hb)
   have n1_ := Aside0.mk (below_step (by repeat (with_reducible first | exact HB.out | apply pw_below_drewN)) hb)
   clear BK546
   clear HB
   have BK546 := n0_
   have HB := n1_
   clear n0_ n1_
   (try clear hb)
   (try clear hb2)
   (try clear hk)
   (try clear hi)
   refine hK.out _ _ ⟨(blk_cell BK546.out 0).trans rfl, (blk_cell BK546.out 1).trans rfl, (blk_cell BK546.out 2).trans rfl⟩ (fun hHeld => ?_)
   clear hK K
   refine norm_ (a' := ?_) ?_ ?_
   rotate_left
   · show Act.put _ (some 10) _ = _
     simp only [Act.put, List.setIfInBounds_toArray, List.set_cons_zero, List.set_cons_succ, i64_w, i32_w]
     rfl
   refine pure_ (i := 4) (N := some 6) (v := ?_) (a' := ?_) #[true, true, true, true, true] rfl rfl (by kernel_rfl) (fun _ _ _ h => h) (Or.inl ⟨by rfl, ?_⟩) ?_ ?_
   rotate_left
   · intro w'
     go_simp
     with_reducible rfl
   rotate_left
   · simp only [Act.put, List.setIfInBounds_toArray, List.set_cons_zero, List.set_cons_succ, i64_w, i32_w]
     rfl
   refine done_ (by kernel_rfl) ?_
   try go_wp2
   go_ret2
   exact ⟨by rfl, by exact HB.out⟩
 rw [if_pos c5] at H
 have c5b0 : (t548 == 0) = true := beq_iff_eq.mpr c5
 have c5b1 : (t548 != 0) = false := bne_eq_false_iff_eq.mpr c5
 clear c5
 replace H := Option.bind_eq_some_iff.mp H
 obtain ⟨t549, A60, H⟩ := H
 replace H : (some (t549, 0)) = some (r1, r2) := H
 have A6 := Aside0.mk A60
 clear A60
 simp only [Option.some.injEq, Prod.mk.injEq] at H
 obtain ⟨rfl, rfl⟩ := H
 go_enter Try.func40, Try.ntmps40
 try go_wp2_with (((with_reducible refine gate_dst (N := 2) rfl ?_); refine box_event ?hg (N := 2) ?hd (cs := #[.slice A0_0 l0_0.length c0_0, .slice A0_1 l0_1.length c0_1, .slice A0_2 l0_2.length c0_2]) (t := 33) ?hr ?_; (case hd => rfl); (case hg => rfl); (case hr => (go_simp; done)); intro gb546 hg w7 hbox hb; have n0_ := Aside0.mk (below_step HB.out hb); have n1_ := Aside0.mk (hbox); have n2_ := Aside0.mk ((by rw [hg]; exact (below_size HB.out) : w.heap.size ≤ gb546)); have n3_ := Aside0.mk ((by rw [hg]; exact (below_size HB.out) : w.heap.size ≤ gb546)); clear HB; have HB := n0_; have BK546 := n1_; have GW546 := n2_; have GE546 := n3_; clear n0_ n1_ n2_ n3_; clear hb hbox hg))
 have n0_ := Aside0.mk (blk_drew BK546.out)
 have n1_ := Aside0.mk (below_drew1 HB.out)
 clear BK546
 clear HB
 have BK546 := n0_
 have HB := n1_
 clear n0_ n1_
 refine start_ (n := 5) (S := fun w' => w'.cell? ⟨gb546, 0, none⟩ = some (.slice A0_0 l0_0.length c0_0) ∧ w'.cell? ⟨gb546, 1, none⟩ = some (.slice A0_1 l0_1.length c0_1) ∧ w'.cell? ⟨gb546, 2, none⟩ = some (.slice A0_2 l0_2.length c0_2)) (ds := []) #[false, false, false, false, false] (by kernel_rfl) rfl rfl ⟨(blk_cell BK546.out 0).trans rfl, (blk_cell BK546.out 1).trans rfl, (blk_cell BK546.out 2).trans rfl⟩ (fun hHeld => ?_)
 generalize w7.drew = w8 at BK546 HB hHeld ⊢
 refine pure_ (i := 1) (N := some 8) (v := ?_) (a' := ?_) #[false, true, false, false, false] rfl rfl (by kernel_rfl) (fun _ _ _ h => h) (Or.inl ⟨by rfl, ?_⟩) ?_ ?_
 rotate_left
 · intro w'
   go_simp
   with_reducible rfl
 rotate_left
 · simp only [Act.put, List.setIfInBounds_toArray, List.set_cons_zero, List.set_cons_succ, i64_w, i32_w]
   rfl
 refine take_ (i := 0) (N := some 7) (v := ?_) (a' := ?_) #[true, true, false, false, false] rfl rfl (by kernel_rfl) (fun _ _ _ h => h) (Or.inl ⟨by rfl, ?_⟩) hHeld ?_ ?_
 rotate_left
 · rintro w' ⟨s0, s1, s2⟩
   go_simp
   with_reducible rfl
 rotate_left
 · simp only [Act.put, List.setIfInBounds_toArray, List.set_cons_zero, List.set_cons_succ, i64_w, i32_w]
   rfl
 refine one_ (i := 2) (N := some 9) #[true, true, true, false, false] rfl rfl (by kernel_rfl) (by decide) (fun K hK => ?_)
 refine goes_ Try.func48 (by kernel_rfl) rfl #[.int .i64 a1, .int .i64 0, .int .i64 1000] (by rfl) rfl rfl (by (try simp only [List.map_toArray, List.map_cons, List.map_nil]); rfl) ?_
 with_reducible refine (impl_within.calls a1 0 1000 t547 _ A3.out).mono ?_
 rintro e w' ⟨rfl, ⟨nd, rfl⟩⟩
 refine ⟨_, rfl, ?_⟩
 refine hK.out _ _ ⟨(blk_cell BK546.out 0).trans rfl, (blk_cell BK546.out 1).trans rfl, (blk_cell BK546.out 2).trans rfl⟩ (fun hHeld => ?_)
 clear hK K
 refine norm_ (a' := ?_) ?_ ?_
 rotate_left
 · show Act.put _ (some 9) _ = _
   simp only [Act.put, List.setIfInBounds_toArray, List.set_cons_zero, List.set_cons_succ, i64_w, i32_w]
   rfl
 refine one_ (i := 3) (N := some 10) #[true, true, true, true, false] rfl rfl (by kernel_rfl) (by decide) (fun K hK => ?_)
 refine goes_ Try.func56 (by kernel_rfl) rfl #[.agg #[.slice A0_0 l0_0.length c0_0, .slice A0_1 l0_1.length c0_1, .slice A0_2 l0_2.length c0_2], .bool t547, .bool false] (by rfl) rfl rfl (by (try simp only [List.map_toArray, List.map_cons, List.map_nil]); rfl) ?_
 with_reducible refine (impl_jobsCode.calls k _ _ l0_0 _ _ l0_1 _ _ l0_2 t547 false t548 _ ?side1 ?side2 ?side3 ?side4 ?side5 ?side6 A4.out).mono ?_
 (case side1 => repeat (exact (Kd.C_below HR0_0.out (by repeat (with_reducible first | exact HB.out | apply pw_below_drewN)))))
 (case side2 => exact HC0_0.out)
 (case side3 => repeat (exact (Kd.C_below HR0_1.out (by repeat (with_reducible first | exact HB.out | apply pw_below_drewN)))))
 (case side4 => exact HC0_1.out)
 (case side5 => repeat (exact (Kd.C_below HR0_2.out (by repeat (with_reducible first | exact HB.out | apply pw_below_drewN)))))
 (case side6 => exact HC0_2.out)
 rintro e w9 ⟨rfl, hb⟩
 refine ⟨_, rfl, ?_⟩
 have n0_ := Aside0.mk (blk_below (g := gb546) (o := .cells #[.slice A0_0 l0_0.length c0_0, .slice A0_1 l0_1.length c0_1, .slice A0_2 l0_2.length c0_2] 33 (0, 0)) (by (with_reducible repeat (refine blk_drewN ?_ _)); exact BK546.out) hb)
 have n1_ := Aside0.mk (below_step (by repeat (with_reducible first | exact HB.out | apply pw_below_drewN)) hb)
 clear BK546
 clear HB
 have BK546 := n0_
 have HB := n1_
 clear n0_ n1_
 (try clear hb)
 (try clear hb2)
 (try clear hk)
 (try clear hi)
 refine hK.out _ _ ⟨(blk_cell BK546.out 0).trans rfl, (blk_cell BK546.out 1).trans rfl, (blk_cell BK546.out 2).trans rfl⟩ (fun hHeld => ?_)
 clear hK K
 refine norm_ (a' := ?_) ?_ ?_
 rotate_left
 · show Act.put _ (some 10) _ = _
   simp only [Act.put, List.setIfInBounds_toArray, List.set_cons_zero, List.set_cons_succ, i64_w, i32_w]
   rfl
 refine pure_ (i := 4) (N := some 6) (v := ?_) (a' := ?_) #[true, true, true, true, true] rfl rfl (by kernel_rfl) (fun _ _ _ h => h) (Or.inl ⟨by rfl, ?_⟩) ?_ ?_
 rotate_left
 · intro w'
   go_simp
   with_reducible rfl
 rotate_left
 · simp only [Act.put, List.setIfInBounds_toArray, List.set_cons_zero, List.set_cons_succ, i64_w, i32_w]
   rfl
 refine done_ (by kernel_rfl) ?_
 have hcz10_0 : w9.cell? ⟨gb546, 0, none⟩ = some (.slice A0_0 l0_0.length c0_0) := (blk_cell BK546.out 0).trans rfl
 have hcz10_1 : w9.cell? ⟨gb546, 1, none⟩ = some (.slice A0_1 l0_1.length c0_1) := (blk_cell BK546.out 1).trans rfl
 have hcz10_2 : w9.cell? ⟨gb546, 2, none⟩ = some (.slice A0_2 l0_2.length c0_2) := (blk_cell BK546.out 2).trans rfl
 have hfz10_0 := blk_frozen BK546.out 0
 have hfz10_1 := blk_frozen BK546.out 1
 have hfz10_2 := blk_frozen BK546.out 2
 try go_wp2_with (((with_reducible refine gate_callee (f := 80) rfl ?_); refine goesL_ (some 16) rfl rfl Try.func80 (by kernel_rfl) rfl #[.agg #[.slice A0_0 l0_0.length c0_0, .slice A0_1 l0_1.length c0_1, .slice A0_2 l0_2.length c0_2], .int .i64 a1] rfl (by (try simp only [List.map_toArray, List.map_cons, List.map_nil]); rfl) ?_; (with_reducible refine (impl_Jobs_demand.calls k _ _ l0_0 _ _ l0_1 _ _ l0_2 a1 t549 _ ?side1 ?side2 ?side3 ?side4 ?side5 ?side6 A6.out).mono ?_); (case side1 => exact (Kd.C_below HR0_0.out HB.out)); (case side2 => exact HC0_0.out); (case side3 => exact (Kd.C_below HR0_1.out HB.out)); (case side4 => exact HC0_1.out); (case side5 => exact (Kd.C_below HR0_2.out HB.out)); (case side6 => exact HC0_2.out); rintro e w11 ⟨rfl, hb⟩; refine ⟨_, rfl, ?_⟩; have n0_ := Aside0.mk (blk_below (g := gb546) (o := .cells #[.slice A0_0 l0_0.length c0_0, .slice A0_1 l0_1.length c0_1, .slice A0_2 l0_2.length c0_2] 33 (0, 0)) BK546.out hb); have n1_ := Aside0.mk (below_step HB.out hb); clear BK546; clear HB; have BK546 := n0_; have HB := n1_; clear n0_ n1_; (try clear hb); (try clear hb2); (try clear hk); (try clear hi)))
 go_ret2
 exact ⟨by rfl, by exact HB.out⟩
end Go.Proofs.Ytoakdilhljnjfaa.Q
namespace Go.Proofs.Ytoakdilhljnjfaa.Q
open Go.RowKit Go.Proofs.YtoakdilhljnjfaaW.PrintWords Go.Proofs.YtoakdilhljnjfaaW.PrintLast Go.Proofs.YtoakdilhljnjfaaW.PrintMore
attribute [local go_sem] max2_int min2_int max_two min_two max_three min_three max_four min_four   -- for this text's walks alone
set_option linter.unusedVariables false
set_option linter.unusedSimpArgs false
def spec_DemandUpTo.f (k : Nat) (l0_0 : List Int) (l0_1 : List Int) (l0_2 : List Int) (a1 : Int) : Option (Int × Int) := (spec_l04Is.f k l0_0 l0_1 l0_2).bind fun t551 => (if t551 = true then ((spec_l01In.f a1 0 1000).bind fun t552 => (if t552 = true then ((spec_l04Demand.f k l0_0 l0_1 l0_2 a1).bind fun t553 => (some (t553, 0))) else (some (0, 2)))) else (some (0, 1)))
set_option maxHeartbeats 8000000 in
set_option maxRecDepth 100000 in
theorem spec_DemandUpTo.calls (k : Nat) (A0_0 : Option Addr) (c0_0 : Nat) (l0_0 : List Int) (A0_1 : Option Addr) (c0_1 : Nat) (l0_1 : List Int) (A0_2 : Option Addr) (c0_2 : Nat) (l0_2 : List Int) (a1 : Int) (r1 : Int) (r2 : Int) (w : World) (hr0_0 : Kd.C (Kd.int .i64) w A0_0 l0_0.length l0_0) (hc0_0 : l0_0.length ≤ c0_0) (hr0_1 : Kd.C (Kd.int .i64) w A0_1 l0_1.length l0_1) (hc0_1 : l0_1.length ≤ c0_1) (hr0_2 : Kd.C (Kd.int .i64) w A0_2 l0_2.length l0_2) (hc0_2 : l0_2.length ≤ c0_2) (h : spec_DemandUpTo.f k l0_0 l0_1 l0_2 a1 = some (r1, r2)) :
 Calls Try.prog 41 #[.agg #[.slice A0_0 l0_0.length c0_0, .slice A0_1 l0_1.length c0_1, .slice A0_2 l0_2.length c0_2], .int .i64 a1] w fun e w' => e = .returned (.tuple #[.int .i64 r1, .int .i64 r2]) ∧ Below w.heap.size w w' := by
 have hu33 := Try.underlying33
 have HR0_0 := Aside0.mk hr0_0
 have HC0_0 := Aside0.mk hc0_0
 clear hr0_0 hc0_0
 have HR0_1 := Aside0.mk hr0_1
 have HC0_1 := Aside0.mk hc0_1
 clear hr0_1 hc0_1
 have HR0_2 := Aside0.mk hr0_2
 have HC0_2 := Aside0.mk hc0_2
 clear hr0_2 hc0_2
 have HB := Aside0.mk (Below.refl w.heap.size w)
 have H : ((spec_l04Is.f k l0_0 l0_1 l0_2).bind fun t551 => (if t551 = true then ((spec_l01In.f a1 0 1000).bind fun t552 => (if t552 = true then ((spec_l04Demand.f k l0_0 l0_1 l0_2 a1).bind fun t553 => (some (t553, 0))) else (some (0, 2)))) else (some (0, 1)))) = some (r1, r2) := h
 clear h
 replace H := Option.bind_eq_some_iff.mp H
 obtain ⟨t551, A30, H⟩ := H
 replace H : (if t551 = true then ((spec_l01In.f a1 0 1000).bind fun t552 => (if t552 = true then ((spec_l04Demand.f k l0_0 l0_1 l0_2 a1).bind fun t553 => (some (t553, 0))) else (some (0, 2)))) else (some (0, 1))) = some (r1, r2) := H
 have A3 := Aside0.mk A30
 clear A30
 by_cases c4 : t551 = true
 rotate_left
 · replace c4 := Bool.eq_false_iff.mpr c4
   subst c4
   have H1 : (some (0, 1)) = some (r1, r2) := by rw [if_neg (show ¬ (false = true) by decide)] at H; exact H
   clear H
   have H := H1
   clear H1
   simp only [Option.some.injEq, Prod.mk.injEq] at H
   obtain ⟨rfl, rfl⟩ := H
   go_enter Try.func41, Try.ntmps41
   go_wp2_with (first | ((with_reducible refine gate_dst (N := 2) rfl ?_); refine box_event ?hg (N := 2) ?hd (cs := #[.slice A0_0 l0_0.length c0_0, .slice A0_1 l0_1.length c0_1, .slice A0_2 l0_2.length c0_2]) (t := 33) ?hr ?_; (case hd => rfl); (case hg => rfl); (case hr => (go_simp; done)); intro gb550 hg w16 hbox hb; have n0_ := Aside0.mk (below_step HB.out hb); have n1_ := Aside0.mk (hbox); have n2_ := Aside0.mk ((by rw [hg]; exact (below_size HB.out) : w.heap.size ≤ gb550)); have n3_ := Aside0.mk ((by rw [hg]; exact (below_size HB.out) : w.heap.size ≤ gb550)); clear HB; have HB := n0_; have BK550 := n1_; have GW550 := n2_; have GE550 := n3_; clear n0_ n1_ n2_ n3_; clear hb hbox hg; have hcz17_0 : w16.cell? ⟨gb550, 0, none⟩ = some (.slice A0_0 l0_0.length c0_0) := (blk_cell BK550.out 0).trans rfl; have hcz17_1 : w16.cell? ⟨gb550, 1, none⟩ = some (.slice A0_1 l0_1.length c0_1) := (blk_cell BK550.out 1).trans rfl; have hcz17_2 : w16.cell? ⟨gb550, 2, none⟩ = some (.slice A0_2 l0_2.length c0_2) := (blk_cell BK550.out 2).trans rfl; have hfz17_0 := blk_frozen BK550.out 0; have hfz17_1 := blk_frozen BK550.out 1; have hfz17_2 := blk_frozen BK550.out 2) | ((with_reducible refine gate_callee (f := 55) rfl ?_); refine goesL_ (some 8) rfl rfl Try.func55 (by kernel_rfl) rfl #[.agg #[.slice A0_0 l0_0.length c0_0, .slice A0_1 l0_1.length c0_1, .slice A0_2 l0_2.length c0_2]] rfl (by (try simp only [List.map_toArray, List.map_cons, List.map_nil]); rfl) ?_; (with_reducible refine (spec_l04Is.calls k _ _ l0_0 _ _ l0_1 _ _ l0_2 false _ ?side1 ?side2 ?side3 ?side4 ?side5 ?side6 A3.out).mono ?_); (case side1 => exact (Kd.C_below HR0_0.out HB.out)); (case side2 => exact HC0_0.out); (case side3 => exact (Kd.C_below HR0_1.out HB.out)); (case side4 => exact HC0_1.out); (case side5 => exact (Kd.C_below HR0_2.out HB.out)); (case side6 => exact HC0_2.out); rintro e w18 ⟨rfl, hb⟩; refine ⟨_, rfl, ?_⟩; have n0_ := Aside0.mk (blk_below (g := gb550) (o := .cells #[.slice A0_0 l0_0.length c0_0, .slice A0_1 l0_1.length c0_1, .slice A0_2 l0_2.length c0_2] 33 (0, 0)) BK550.out hb); have n1_ := Aside0.mk (below_step HB.out hb); clear BK550; clear HB; have BK550 := n0_; have HB := n1_; clear n0_ n1_; (try clear hb); (try clear hb2); (try clear hk); (try clear hi)))
   go_ret2
   exact ⟨by rfl, by exact HB.out⟩
 subst c4
 have H1 : ((spec_l01In.f a1 0 1000).bind fun t552 => (if t552 = true then ((spec_l04Demand.f k l0_0 l0_1 l0_2 a1).bind fun t553 => (some (t553, 0))) else (some (0, 2)))) = some (r1, r2) := by rw [if_pos rfl] at H; exact H
 clear H
 have H := H1
 clear H1
 replace H := Option.bind_eq_some_iff.mp H
 obtain ⟨t552, A50, H⟩ := H
 replace H : (if t552 = true then ((spec_l04Demand.f k l0_0 l0_1 l0_2 a1).bind fun t553 => (some (t553, 0))) else (some (0, 2))) = some (r1, r2) := H
 have A5 := Aside0.mk A50
 clear A50
 by_cases c6 : t552 = true
 rotate_left
 · replace c6 := Bool.eq_false_iff.mpr c6
   subst c6
   have H1 : (some (0, 2)) = some (r1, r2) := by rw [if_neg (show ¬ (false = true) by decide)] at H; exact H
   clear H
   have H := H1
   clear H1
   simp only [Option.some.injEq, Prod.mk.injEq] at H
   obtain ⟨rfl, rfl⟩ := H
   go_enter Try.func41, Try.ntmps41
   go_wp2_with (first | ((with_reducible refine gate_dst (N := 2) rfl ?_); refine box_event ?hg (N := 2) ?hd (cs := #[.slice A0_0 l0_0.length c0_0, .slice A0_1 l0_1.length c0_1, .slice A0_2 l0_2.length c0_2]) (t := 33) ?hr ?_; (case hd => rfl); (case hg => rfl); (case hr => (go_simp; done)); intro gb550 hg w13 hbox hb; have n0_ := Aside0.mk (below_step HB.out hb); have n1_ := Aside0.mk (hbox); have n2_ := Aside0.mk ((by rw [hg]; exact (below_size HB.out) : w.heap.size ≤ gb550)); have n3_ := Aside0.mk ((by rw [hg]; exact (below_size HB.out) : w.heap.size ≤ gb550)); clear HB; have HB := n0_; have BK550 := n1_; have GW550 := n2_; have GE550 := n3_; clear n0_ n1_ n2_ n3_; clear hb hbox hg; have hcz14_0 : w13.cell? ⟨gb550, 0, none⟩ = some (.slice A0_0 l0_0.length c0_0) := (blk_cell BK550.out 0).trans rfl; have hcz14_1 : w13.cell? ⟨gb550, 1, none⟩ = some (.slice A0_1 l0_1.length c0_1) := (blk_cell BK550.out 1).trans rfl; have hcz14_2 : w13.cell? ⟨gb550, 2, none⟩ = some (.slice A0_2 l0_2.length c0_2) := (blk_cell BK550.out 2).trans rfl; have hfz14_0 := blk_frozen BK550.out 0; have hfz14_1 := blk_frozen BK550.out 1; have hfz14_2 := blk_frozen BK550.out 2) | ((with_reducible refine gate_callee (f := 55) rfl ?_); refine goesL_ (some 8) rfl rfl Try.func55 (by kernel_rfl) rfl #[.agg #[.slice A0_0 l0_0.length c0_0, .slice A0_1 l0_1.length c0_1, .slice A0_2 l0_2.length c0_2]] rfl (by (try simp only [List.map_toArray, List.map_cons, List.map_nil]); rfl) ?_; (with_reducible refine (spec_l04Is.calls k _ _ l0_0 _ _ l0_1 _ _ l0_2 true _ ?side1 ?side2 ?side3 ?side4 ?side5 ?side6 A3.out).mono ?_); (case side1 => exact (Kd.C_below HR0_0.out HB.out)); (case side2 => exact HC0_0.out); (case side3 => exact (Kd.C_below HR0_1.out HB.out)); (case side4 => exact HC0_1.out); (case side5 => exact (Kd.C_below HR0_2.out HB.out)); (case side6 => exact HC0_2.out); rintro e w15 ⟨rfl, hb⟩; refine ⟨_, rfl, ?_⟩; have n0_ := Aside0.mk (blk_below (g := gb550) (o := .cells #[.slice A0_0 l0_0.length c0_0, .slice A0_1 l0_1.length c0_1, .slice A0_2 l0_2.length c0_2] 33 (0, 0)) BK550.out hb); have n1_ := Aside0.mk (below_step HB.out hb); clear BK550; clear HB; have BK550 := n0_; have HB := n1_; clear n0_ n1_; (try clear hb); (try clear hb2); (try clear hk); (try clear hi)) | ((with_reducible refine gate_callee (f := 43) rfl ?_); refine goesL_ (some 12) rfl rfl Try.func43 (by kernel_rfl) rfl #[.int .i64 a1, .int .i64 0, .int .i64 1000] rfl (by (try simp only [List.map_toArray, List.map_cons, List.map_nil]); rfl) ?_; (with_reducible refine (spec_l01In.calls a1 0 1000 false _ A5.out).mono ?_); rintro e w' ⟨rfl, ⟨nd, rfl⟩⟩; refine ⟨_, rfl, ?_⟩))
   go_ret2
   exact ⟨by rfl, by repeat (with_reducible first | exact HB.out | apply pw_below_drewN)⟩
 subst c6
 have H1 : ((spec_l04Demand.f k l0_0 l0_1 l0_2 a1).bind fun t553 => (some (t553, 0))) = some (r1, r2) := by rw [if_pos rfl] at H; exact H
 clear H
 have H := H1
 clear H1
 replace H := Option.bind_eq_some_iff.mp H
 obtain ⟨t553, A70, H⟩ := H
 replace H : (some (t553, 0)) = some (r1, r2) := H
 have A7 := Aside0.mk A70
 clear A70
 simp only [Option.some.injEq, Prod.mk.injEq] at H
 obtain ⟨rfl, rfl⟩ := H
 go_enter Try.func41, Try.ntmps41
 go_wp2_with (first | ((with_reducible refine gate_dst (N := 2) rfl ?_); refine box_event ?hg (N := 2) ?hd (cs := #[.slice A0_0 l0_0.length c0_0, .slice A0_1 l0_1.length c0_1, .slice A0_2 l0_2.length c0_2]) (t := 33) ?hr ?_; (case hd => rfl); (case hg => rfl); (case hr => (go_simp; done)); intro gb550 hg w8 hbox hb; have n0_ := Aside0.mk (below_step HB.out hb); have n1_ := Aside0.mk (hbox); have n2_ := Aside0.mk ((by rw [hg]; exact (below_size HB.out) : w.heap.size ≤ gb550)); have n3_ := Aside0.mk ((by rw [hg]; exact (below_size HB.out) : w.heap.size ≤ gb550)); clear HB; have HB := n0_; have BK550 := n1_; have GW550 := n2_; have GE550 := n3_; clear n0_ n1_ n2_ n3_; clear hb hbox hg; have hcz9_0 : w8.cell? ⟨gb550, 0, none⟩ = some (.slice A0_0 l0_0.length c0_0) := (blk_cell BK550.out 0).trans rfl; have hcz9_1 : w8.cell? ⟨gb550, 1, none⟩ = some (.slice A0_1 l0_1.length c0_1) := (blk_cell BK550.out 1).trans rfl; have hcz9_2 : w8.cell? ⟨gb550, 2, none⟩ = some (.slice A0_2 l0_2.length c0_2) := (blk_cell BK550.out 2).trans rfl; have hfz9_0 := blk_frozen BK550.out 0; have hfz9_1 := blk_frozen BK550.out 1; have hfz9_2 := blk_frozen BK550.out 2) | ((with_reducible refine gate_callee (f := 55) rfl ?_); refine goesL_ (some 8) rfl rfl Try.func55 (by kernel_rfl) rfl #[.agg #[.slice A0_0 l0_0.length c0_0, .slice A0_1 l0_1.length c0_1, .slice A0_2 l0_2.length c0_2]] rfl (by (try simp only [List.map_toArray, List.map_cons, List.map_nil]); rfl) ?_; (with_reducible refine (spec_l04Is.calls k _ _ l0_0 _ _ l0_1 _ _ l0_2 true _ ?side1 ?side2 ?side3 ?side4 ?side5 ?side6 A3.out).mono ?_); (case side1 => exact (Kd.C_below HR0_0.out HB.out)); (case side2 => exact HC0_0.out); (case side3 => exact (Kd.C_below HR0_1.out HB.out)); (case side4 => exact HC0_1.out); (case side5 => exact (Kd.C_below HR0_2.out HB.out)); (case side6 => exact HC0_2.out); rintro e w10 ⟨rfl, hb⟩; refine ⟨_, rfl, ?_⟩; have n0_ := Aside0.mk (blk_below (g := gb550) (o := .cells #[.slice A0_0 l0_0.length c0_0, .slice A0_1 l0_1.length c0_1, .slice A0_2 l0_2.length c0_2] 33 (0, 0)) BK550.out hb); have n1_ := Aside0.mk (below_step HB.out hb); clear BK550; clear HB; have BK550 := n0_; have HB := n1_; clear n0_ n1_; (try clear hb); (try clear hb2); (try clear hk); (try clear hi)) | ((with_reducible refine gate_callee (f := 43) rfl ?_); refine goesL_ (some 12) rfl rfl Try.func43 (by kernel_rfl) rfl #[.int .i64 a1, .int .i64 0, .int .i64 1000] rfl (by (try simp only [List.map_toArray, List.map_cons, List.map_nil]); rfl) ?_; (with_reducible refine (spec_l01In.calls a1 0 1000 true _ A5.out).mono ?_); rintro e w' ⟨rfl, ⟨nd, rfl⟩⟩; refine ⟨_, rfl, ?_⟩; have hcz11_0 : w10.cell? ⟨gb550, 0, none⟩ = some (.slice A0_0 l0_0.length c0_0) := (blk_cell BK550.out 0).trans rfl; have hcz11_1 : w10.cell? ⟨gb550, 1, none⟩ = some (.slice A0_1 l0_1.length c0_1) := (blk_cell BK550.out 1).trans rfl; have hcz11_2 : w10.cell? ⟨gb550, 2, none⟩ = some (.slice A0_2 l0_2.length c0_2) := (blk_cell BK550.out 2).trans rfl; have hfz11_0 := blk_frozen BK550.out 0; have hfz11_1 := blk_frozen BK550.out 1; have hfz11_2 := blk_frozen BK550.out 2) | ((with_reducible refine gate_callee (f := 81) rfl ?_); refine goesL_ (some 16) rfl rfl Try.func81 (by kernel_rfl) rfl #[.agg #[.slice A0_0 l0_0.length c0_0, .slice A0_1 l0_1.length c0_1, .slice A0_2 l0_2.length c0_2], .int .i64 a1] rfl (by (try simp only [List.map_toArray, List.map_cons, List.map_nil]); rfl) ?_; (with_reducible refine (spec_l04Demand.calls k _ _ l0_0 _ _ l0_1 _ _ l0_2 a1 t553 _ ?side1 ?side2 ?side3 ?side4 ?side5 ?side6 A7.out).mono ?_); (case side1 => repeat (exact (Kd.C_below HR0_0.out (by repeat (with_reducible first | exact HB.out | apply pw_below_drewN))))); (case side2 => exact HC0_0.out); (case side3 => repeat (exact (Kd.C_below HR0_1.out (by repeat (with_reducible first | exact HB.out | apply pw_below_drewN))))); (case side4 => exact HC0_1.out); (case side5 => repeat (exact (Kd.C_below HR0_2.out (by repeat (with_reducible first | exact HB.out | apply pw_below_drewN))))); (case side6 => exact HC0_2.out); rintro e w12 ⟨rfl, hb⟩; refine ⟨_, rfl, ?_⟩; have n0_ := Aside0.mk (blk_below (g := gb550) (o := .cells #[.slice A0_0 l0_0.length c0_0, .slice A0_1 l0_1.length c0_1, .slice A0_2 l0_2.length c0_2] 33 (0, 0)) (by (with_reducible repeat (refine blk_drewN ?_ _)); exact BK550.out) hb); have n1_ := Aside0.mk (below_step (by repeat (with_reducible first | exact HB.out | apply pw_below_drewN)) hb); clear BK550; clear HB; have BK550 := n0_; have HB := n1_; clear n0_ n1_; (try clear hb); (try clear hb2); (try clear hk); (try clear hi)))
 go_ret2
 exact ⟨by rfl, by exact HB.out⟩
end Go.Proofs.Ytoakdilhljnjfaa.Q
namespace Go.Proofs.Ytoakdilhljnjfaa.Q
open Go.RowKit Go.Proofs.YtoakdilhljnjfaaW.PrintWords Go.Proofs.YtoakdilhljnjfaaW.PrintLast Go.Proofs.YtoakdilhljnjfaaW.PrintMore
set_option linter.unusedVariables false
set_option linter.unusedSimpArgs false
structure Row (W : World) (A : Option Addr) (c : Nat) (l : List Int) : Prop where
  r : Kd.C (Kd.int .i64) W A l.length l
  k : l.length ≤ c
theorem Row.below {W W1 : World} {A : Option Addr} {c : Nat} {l : List Int} (h : Row W A c l) (hb : Below W.heap.size W W1) : Row W1 A c l := ⟨Kd.C_below h.r hb, h.k⟩
theorem Row.drewN {W : World} {A : Option Addr} {c : Nat} {l : List Int} (h : Row W A c l) (n : Nat) : Row (W.drewN n) A c l := ⟨Kd.C_drewN h.r n, h.k⟩
theorem Row.drew {W : World} {A : Option Addr} {c : Nat} {l : List Int} (h : Row W A c l) : Row W.drew A c l := ⟨Kd.C_drew h.r, h.k⟩
theorem Row.of {W : World} {base : Nat} {ok : Nat → Prop} {v : Value} {l : List Int} (h : Kd.R (Kd.int .i64) 2 W base ok v l) : ∃ A c, v = .slice A l.length c ∧ Row W A c l := by
  obtain ⟨A, c, e⟩ := Kd.R_slice h
  subst e
  obtain ⟨_, h1, h2⟩ := Kd.R_reads' h
  exact ⟨A, c, rfl, h2, h1⟩
structure JBox (w W : World) (b : Nat) (A0 : Option Addr) (c0 : Nat) (L : List Int) (A1 : Option Addr) (c1 : Nat) (P : List Int) (A2 : Option Addr) (c2 : Nat) (D : List Int) : Prop where
  blk : W.heap[b]? = some (.cells #[.slice A0 L.length c0, .slice A1 P.length c1, .slice A2 D.length c2] 33 (0, 0))
  r0 : Kd.C (Kd.int .i64) W A0 L.length L
  k0 : L.length ≤ c0
  r1 : Kd.C (Kd.int .i64) W A1 P.length P
  k1 : P.length ≤ c1
  r2 : Kd.C (Kd.int .i64) W A2 D.length D
  k2 : D.length ≤ c2
  hb : Below w.heap.size w W
section
variable {w W W1 : World} {b : Nat} {A0 : Option Addr} {c0 : Nat} {L : List Int} {A1 : Option Addr} {c1 : Nat} {P : List Int} {A2 : Option Addr} {c2 : Nat} {D : List Int}
theorem JBox.below (h : JBox w W b A0 c0 L A1 c1 P A2 c2 D) (hb : Below W.heap.size W W1) : JBox w W1 b A0 c0 L A1 c1 P A2 c2 D :=
  ⟨blk_below h.blk hb, Kd.C_below h.r0 hb, h.k0, Kd.C_below h.r1 hb, h.k1, Kd.C_below h.r2 hb, h.k2, below_more h.hb hb⟩
theorem JBox.drewN (h : JBox w W b A0 c0 L A1 c1 P A2 c2 D) (n : Nat) : JBox w (W.drewN n) b A0 c0 L A1 c1 P A2 c2 D := h.below (pw_below_drewN (Below.refl _ _) n)
theorem JBox.drew (h : JBox w W b A0 c0 L A1 c1 P A2 c2 D) : JBox w W.drew b A0 c0 L A1 c1 P A2 c2 D := h.below (Below.drew (Below.refl _ _))
theorem JBox.cell0 (h : JBox w W b A0 c0 L A1 c1 P A2 c2 D) : W.cell? ⟨b, 0, none⟩ = some (.slice A0 L.length c0) := (blk_cell h.blk 0).trans rfl
theorem JBox.cell1 (h : JBox w W b A0 c0 L A1 c1 P A2 c2 D) : W.cell? ⟨b, 1, none⟩ = some (.slice A1 P.length c1) := (blk_cell h.blk 1).trans rfl
theorem JBox.cell2 (h : JBox w W b A0 c0 L A1 c1 P A2 c2 D) : W.cell? ⟨b, 2, none⟩ = some (.slice A2 D.length c2) := (blk_cell h.blk 2).trans rfl
end
def cntT (l : List Int) (i : Int) (q : Nat) : Int := (((l.take q).countP (· == i) : Nat) : Int)
theorem cntT_zero (l : List Int) (i : Int) : cntT l i 0 = 0 := by simp [cntT]
theorem cntT_bd (l : List Int) (i : Int) (q : Nat) : 0 ≤ cntT l i q ∧ cntT l i q ≤ q := by
  unfold cntT
  have h1 := List.countP_le_length (p := (· == i)) (l := l.take q)
  have h2 : (l.take q).length ≤ q := by rw [List.length_take]; omega
  omega
theorem cntT_succ (l : List Int) (i : Int) (q : Nat) (h : q < l.length) : cntT l i (q + 1) = cntT l i q + if rd l q = i then 1 else 0 := by
  unfold cntT
  rw [List.take_succ_eq_append_getElem h, List.countP_append]
  have e : rd l (q : Int) = l[q] := by simp [rd, h]
  rw [e]
  by_cases h2 : l[q] = i <;> simp [h2, List.countP_cons]
structure JobsRun (k : Nat) (L P D X Y Z : List Int) (n : Int) (sl : List Int) (one lt tk two room three : Int) (can : Bool) (four whole five top below six : Int) (are : Bool) (dem seven : Int) : Prop where
  i1 : impl_DeadlineSlots.f k L P D = some (sl, one)
  s1 : spec_DeadlineSlots.f k L P D = some (sl, one)
  like : laws_likeInts.f k sl sl = some true
  i2 : impl_FirstLate.f k L P D = some (lt, tk, two)
  s2 : spec_FirstLate.f k L P D = some (lt, tk, two)
  i3 : impl_RoomOf.f k L P D = some (room, three)
  s3 : spec_RoomOf.f k L P D = some (room, three)
  i4 : impl_CanMeet.f k L P D = some (can, four)
  s4 : spec_CanMeet.f k L P D = some (can, four)
  i5 : impl_WholePeriod.f k L P D = some (whole, five)
  s5 : spec_WholePeriod.f k L P D = some (whole, five)
  i6 : impl_LoadOf.f k L P D = some (top, below, six)
  s6 : spec_LoadOf.f k L P D = some (top, below, six)
  i7 : impl_AreJobs.f k L P D = some are
  s7 : spec_AreJobs.f k L P D = some are
  i8 : impl_DemandUpTo.f k X Y Z n = some (dem, seven)
  s8 : spec_DemandUpTo.f k X Y Z n = some (dem, seven)
inductive JobsTell (L P D sl : List Int) (one lt two room three : Int) (can : Bool) (four whole five top below six : Int) : Prop where
  | bad (h : one ≠ 0) (hs : sl = []) (h3 : three = one) (h4 : four = one) (h5 : five = one)
  | late (h1 : one = 0) (h3 : three = 0) (h4 : four = 0) (h5 : five = 0) (h6 : six = 0) (hc : can = false) (hr : room < 0) (h2 : two = 0) (hl : (sl.length : Int) = lt) (hw : lt ≤ whole)
  | fine (h1 : one = 0) (h3 : three = 0) (h4 : four = 0) (h5 : five = 0) (h6 : six = 0) (hc : can = true) (hr : 0 ≤ room) (h2 : two = 4) (hl : (sl.length : Int) = whole) (hs : sl.length ≤ 1000) (hn : L.length ≤ 8) (hp : P.length = L.length) (hb : ∀ i : Nat, i < L.length → 0 ≤ rd P i ∧ rd P i ≤ 60) (hL : ∀ i : Nat, i < L.length → 0 ≤ rd L i ∧ rd L i ≤ 20) (ht : top ≤ below)
      (hc2 : ∀ i : Nat, i < L.length → cntT sl i sl.length * rd P i = rd L i * whole)
set_option maxHeartbeats 8000000 in
set_option maxRecDepth 100000 in
theorem laws_FnJobs.way (k : Nat) (A : Option Addr) (c : Nat) (code L P D X Y Z : List Int) (n : Int) (sl : List Int) (one lt tk two room three : Int) (can : Bool) (four whole five top below six : Int) (are : Bool) (dem seven : Int) (w : World)
    (hr : Kd.C (Kd.int .u8) w A code.length code) (hc : code.length ≤ c) (hbig : laws_big.f code = some false) (hd1 : spec_DrawDeadlineSlots.f k code = some (L, P, D)) (hd2 : spec_DrawDemandUpTo.f k code = some (X, Y, Z, n))
    (he : JobsRun k L P D X Y Z n sl one lt tk two room three can four whole five top below six are dem seven) (ht : JobsTell L P D sl one lt two room three can four whole five top below six) :
    Calls Try.prog 6 #[.slice A code.length c] w fun e w' => e = .returned (.bool true) ∧ Below w.heap.size w w' := by
  have hu33 := Try.underlying33
  have HC := Aside0.mk (And.intro hr hc)
  have HBIG := Aside0.mk hbig
  have HD1 := Aside0.mk hd1
  have HD2 := Aside0.mk hd2
  have HE := Aside0.mk he
  have HT_ := Aside0.mk ht
  clear hr hc hbig hd1 hd2 he ht
  have n1 : (one != one) = false := by simp
  have n2 : (two != two) = false := by simp
  have n3 : (lt != lt) = false := by simp
  have n4 : (tk != tk) = false := by simp
  have n5 : (three != three) = false := by simp
  have n6 : (room != room) = false := by simp
  have n7 : (four != four) = false := by simp
  have n8 : (can != can) = false := by simp
  have n9 : (five != five) = false := by simp
  have n10 : (whole != whole) = false := by simp
  have n11 : (six != six) = false := by simp
  have n12 : (top != top) = false := by simp
  have n13 : (below != below) = false := by simp
  have n14 : (are != are) = false := by simp
  have n15 : (seven != seven) = false := by simp
  have n16 : (dem != dem) = false := by simp
  go_enter Try.func6, Try.ntmps6
  go_upto_region 4 with (first | (go_at_call 22; refine (laws_big.calls A c code false _ HC.out.1 HC.out.2 HBIG.out).mono ?_; rintro e w' ⟨rfl, ⟨nd, rfl⟩⟩; skip) | (go_at_call 23; refine (spec_DrawDeadlineSlots.calls k A c code L P D _ (Kd.C_drewN HC.out.1 _) HC.out.2 HD1.out).mono ?_; rintro e w' ⟨v0, v1, v2, rfl, h0, h1, h2, hb⟩; obtain ⟨A0, c0, rfl, q0⟩ := Row.of h0; obtain ⟨A1, c1, rfl, q1⟩ := Row.of h1; obtain ⟨A2, c2, rfl, q2⟩ := Row.of h2; have HB1 := Aside0.mk (below_more (pw_below_drewN (Below.refl w.heap.size w) nd) hb); have Q0 := Aside0.mk q0; have Q1 := Aside0.mk q1; have Q2 := Aside0.mk q2; clear h0 h1 h2 hb q0 q1 q2))
  have HJ : Aside0 (JBox w (w'.alloc (.cells #[.slice A0 L.length c0, .slice A1 P.length c1, .slice A2 D.length c2] 33)) w'.heap.size A0 c0 L A1 c1 P A2 c2 D) :=
    ⟨⟨by simpa using heap_alloc_new w' _, Kd.C_alloc Q0.out.r _, Q0.out.k, Kd.C_alloc Q1.out.r _, Q1.out.k, Kd.C_alloc Q2.out.r _, Q2.out.k, below_alloc HB1.out _⟩⟩
  clear Q0 Q1 Q2 HB1
  generalize w'.alloc (.cells #[.slice A0 L.length c0, .slice A1 P.length c1, .slice A2 D.length c2] 33) = w3 at HJ ⊢
  generalize w'.heap.size = b3 at HJ ⊢
  have cj0 := HJ.out.cell0
  have cj1 := HJ.out.cell1
  have cj2 := HJ.out.cell2
  go_upto_region 26 with (first | (go_at_call 24; refine (impl_DeadlineSlots.calls k A0 c0 L A1 c1 P A2 c2 D sl one _ HJ.out.r0 HJ.out.k0 HJ.out.r1 HJ.out.k1 HJ.out.r2 HJ.out.k2 HE.out.i1).mono ?_; rintro e w' ⟨v4, rfl, hS, hb⟩; obtain ⟨AS, cS, rfl, hq⟩ := Row.of hS; have HS := Aside0.mk hq; clear hS hq; have HJ' := Aside0.mk (HJ.out.below hb); clear hb HJ; have HJ := HJ'; clear HJ'; clear cj0 cj1 cj2; have cj0 : w'.cell? ⟨b3, 0, none⟩ = some (.slice A0 L.length c0) := HJ.out.cell0; have cj1 : w'.cell? ⟨b3, 1, none⟩ = some (.slice A1 P.length c1) := HJ.out.cell1; have cj2 : w'.cell? ⟨b3, 2, none⟩ = some (.slice A2 D.length c2) := HJ.out.cell2) | (go_at_call 25; refine (spec_DeadlineSlots.calls k A0 c0 L A1 c1 P A2 c2 D sl one _ HJ.out.r0 HJ.out.k0 HJ.out.r1 HJ.out.k1 HJ.out.r2 HJ.out.k2 HE.out.s1).mono ?_; rintro e w' ⟨v6, rfl, hS, hb⟩; obtain ⟨AT, cT, rfl, hT⟩ := Row.of hS; have HT := Aside0.mk hT; clear hS hT; have HJ' := Aside0.mk (HJ.out.below hb); have HS' := Aside0.mk (HS.out.below hb); clear hb HJ HS; have HJ := HJ'; have HS := HS'; clear HJ' HS'; clear cj0 cj1 cj2; have cj0 : w'.cell? ⟨b3, 0, none⟩ = some (.slice A0 L.length c0) := HJ.out.cell0; have cj1 : w'.cell? ⟨b3, 1, none⟩ = some (.slice A1 P.length c1) := HJ.out.cell1; have cj2 : w'.cell? ⟨b3, 2, none⟩ = some (.slice A2 D.length c2) := HJ.out.cell2) | (go_at_call 26; refine (laws_likeInts.calls k AS cS sl AT cT sl true _ HS.out.r HS.out.k HT.out.r HT.out.k HE.out.like).mono ?_; rintro e w' ⟨rfl, ⟨nd2, rfl⟩⟩; have HJ' := Aside0.mk (HJ.out.drewN nd2); have HS' := Aside0.mk (HS.out.drewN nd2); clear HJ HS HT cj0 cj1 cj2; have HJ := HJ'; have HS := HS'; clear HJ' HS'; have cj0 := HJ.out.cell0; have cj1 := HJ.out.cell1; have cj2 := HJ.out.cell2) | (go_at_call 27; refine (impl_FirstLate.calls k A0 c0 L A1 c1 P A2 c2 D lt tk two _ HJ.out.r0 HJ.out.k0 HJ.out.r1 HJ.out.k1 HJ.out.r2 HJ.out.k2 HE.out.i2).mono ?_; rintro e w' ⟨rfl, hb⟩; have HJ' := Aside0.mk (HJ.out.below hb); have HS' := Aside0.mk (HS.out.below hb); clear hb HJ HS; have HJ := HJ'; have HS := HS'; clear HJ' HS'; clear cj0 cj1 cj2; have cj0 : w'.cell? ⟨b3, 0, none⟩ = some (.slice A0 L.length c0) := HJ.out.cell0; have cj1 : w'.cell? ⟨b3, 1, none⟩ = some (.slice A1 P.length c1) := HJ.out.cell1; have cj2 : w'.cell? ⟨b3, 2, none⟩ = some (.slice A2 D.length c2) := HJ.out.cell2) | (go_at_call 28; refine (spec_FirstLate.calls k A0 c0 L A1 c1 P A2 c2 D lt tk two _ HJ.out.r0 HJ.out.k0 HJ.out.r1 HJ.out.k1 HJ.out.r2 HJ.out.k2 HE.out.s2).mono ?_; rintro e w' ⟨rfl, hb⟩; have HJ' := Aside0.mk (HJ.out.below hb); have HS' := Aside0.mk (HS.out.below hb); clear hb HJ HS; have HJ := HJ'; have HS := HS'; clear HJ' HS'; clear cj0 cj1 cj2; have cj0 : w'.cell? ⟨b3, 0, none⟩ = some (.slice A0 L.length c0) := HJ.out.cell0; have cj1 : w'.cell? ⟨b3, 1, none⟩ = some (.slice A1 P.length c1) := HJ.out.cell1; have cj2 : w'.cell? ⟨b3, 2, none⟩ = some (.slice A2 D.length c2) := HJ.out.cell2) | (go_at_call 29; refine (impl_RoomOf.calls k A0 c0 L A1 c1 P A2 c2 D room three _ HJ.out.r0 HJ.out.k0 HJ.out.r1 HJ.out.k1 HJ.out.r2 HJ.out.k2 HE.out.i3).mono ?_; rintro e w' ⟨rfl, hb⟩; have HJ' := Aside0.mk (HJ.out.below hb); have HS' := Aside0.mk (HS.out.below hb); clear hb HJ HS; have HJ := HJ'; have HS := HS'; clear HJ' HS'; clear cj0 cj1 cj2; have cj0 : w'.cell? ⟨b3, 0, none⟩ = some (.slice A0 L.length c0) := HJ.out.cell0; have cj1 : w'.cell? ⟨b3, 1, none⟩ = some (.slice A1 P.length c1) := HJ.out.cell1; have cj2 : w'.cell? ⟨b3, 2, none⟩ = some (.slice A2 D.length c2) := HJ.out.cell2) | (go_at_call 30; refine (spec_RoomOf.calls k A0 c0 L A1 c1 P A2 c2 D room three _ HJ.out.r0 HJ.out.k0 HJ.out.r1 HJ.out.k1 HJ.out.r2 HJ.out.k2 HE.out.s3).mono ?_; rintro e w' ⟨rfl, hb⟩; have HJ' := Aside0.mk (HJ.out.below hb); have HS' := Aside0.mk (HS.out.below hb); clear hb HJ HS; have HJ := HJ'; have HS := HS'; clear HJ' HS'; clear cj0 cj1 cj2; have cj0 : w'.cell? ⟨b3, 0, none⟩ = some (.slice A0 L.length c0) := HJ.out.cell0; have cj1 : w'.cell? ⟨b3, 1, none⟩ = some (.slice A1 P.length c1) := HJ.out.cell1; have cj2 : w'.cell? ⟨b3, 2, none⟩ = some (.slice A2 D.length c2) := HJ.out.cell2) | (go_at_call 31; refine (impl_CanMeet.calls k A0 c0 L A1 c1 P A2 c2 D can four _ HJ.out.r0 HJ.out.k0 HJ.out.r1 HJ.out.k1 HJ.out.r2 HJ.out.k2 HE.out.i4).mono ?_; rintro e w' ⟨rfl, hb⟩; have HJ' := Aside0.mk (HJ.out.below hb); have HS' := Aside0.mk (HS.out.below hb); clear hb HJ HS; have HJ := HJ'; have HS := HS'; clear HJ' HS'; clear cj0 cj1 cj2; have cj0 : w'.cell? ⟨b3, 0, none⟩ = some (.slice A0 L.length c0) := HJ.out.cell0; have cj1 : w'.cell? ⟨b3, 1, none⟩ = some (.slice A1 P.length c1) := HJ.out.cell1; have cj2 : w'.cell? ⟨b3, 2, none⟩ = some (.slice A2 D.length c2) := HJ.out.cell2) | (go_at_call 32; refine (spec_CanMeet.calls k A0 c0 L A1 c1 P A2 c2 D can four _ HJ.out.r0 HJ.out.k0 HJ.out.r1 HJ.out.k1 HJ.out.r2 HJ.out.k2 HE.out.s4).mono ?_; rintro e w' ⟨rfl, hb⟩; have HJ' := Aside0.mk (HJ.out.below hb); have HS' := Aside0.mk (HS.out.below hb); clear hb HJ HS; have HJ := HJ'; have HS := HS'; clear HJ' HS'; clear cj0 cj1 cj2; have cj0 : w'.cell? ⟨b3, 0, none⟩ = some (.slice A0 L.length c0) := HJ.out.cell0; have cj1 : w'.cell? ⟨b3, 1, none⟩ = some (.slice A1 P.length c1) := HJ.out.cell1; have cj2 : w'.cell? ⟨b3, 2, none⟩ = some (.slice A2 D.length c2) := HJ.out.cell2) | (go_at_call 33; refine (impl_WholePeriod.calls k A0 c0 L A1 c1 P A2 c2 D whole five _ HJ.out.r0 HJ.out.k0 HJ.out.r1 HJ.out.k1 HJ.out.r2 HJ.out.k2 HE.out.i5).mono ?_; rintro e w' ⟨rfl, hb⟩; have HJ' := Aside0.mk (HJ.out.below hb); have HS' := Aside0.mk (HS.out.below hb); clear hb HJ HS; have HJ := HJ'; have HS := HS'; clear HJ' HS'; clear cj0 cj1 cj2; have cj0 : w'.cell? ⟨b3, 0, none⟩ = some (.slice A0 L.length c0) := HJ.out.cell0; have cj1 : w'.cell? ⟨b3, 1, none⟩ = some (.slice A1 P.length c1) := HJ.out.cell1; have cj2 : w'.cell? ⟨b3, 2, none⟩ = some (.slice A2 D.length c2) := HJ.out.cell2) | (go_at_call 34; refine (spec_WholePeriod.calls k A0 c0 L A1 c1 P A2 c2 D whole five _ HJ.out.r0 HJ.out.k0 HJ.out.r1 HJ.out.k1 HJ.out.r2 HJ.out.k2 HE.out.s5).mono ?_; rintro e w' ⟨rfl, hb⟩; have HJ' := Aside0.mk (HJ.out.below hb); have HS' := Aside0.mk (HS.out.below hb); clear hb HJ HS; have HJ := HJ'; have HS := HS'; clear HJ' HS'; clear cj0 cj1 cj2; have cj0 : w'.cell? ⟨b3, 0, none⟩ = some (.slice A0 L.length c0) := HJ.out.cell0; have cj1 : w'.cell? ⟨b3, 1, none⟩ = some (.slice A1 P.length c1) := HJ.out.cell1; have cj2 : w'.cell? ⟨b3, 2, none⟩ = some (.slice A2 D.length c2) := HJ.out.cell2) | (go_at_call 35; refine (impl_LoadOf.calls k A0 c0 L A1 c1 P A2 c2 D top below six _ HJ.out.r0 HJ.out.k0 HJ.out.r1 HJ.out.k1 HJ.out.r2 HJ.out.k2 HE.out.i6).mono ?_; rintro e w' ⟨rfl, hb⟩; have HJ' := Aside0.mk (HJ.out.below hb); have HS' := Aside0.mk (HS.out.below hb); clear hb HJ HS; have HJ := HJ'; have HS := HS'; clear HJ' HS'; clear cj0 cj1 cj2; have cj0 : w'.cell? ⟨b3, 0, none⟩ = some (.slice A0 L.length c0) := HJ.out.cell0; have cj1 : w'.cell? ⟨b3, 1, none⟩ = some (.slice A1 P.length c1) := HJ.out.cell1; have cj2 : w'.cell? ⟨b3, 2, none⟩ = some (.slice A2 D.length c2) := HJ.out.cell2) | (go_at_call 36; refine (spec_LoadOf.calls k A0 c0 L A1 c1 P A2 c2 D top below six _ HJ.out.r0 HJ.out.k0 HJ.out.r1 HJ.out.k1 HJ.out.r2 HJ.out.k2 HE.out.s6).mono ?_; rintro e w' ⟨rfl, hb⟩; have HJ' := Aside0.mk (HJ.out.below hb); have HS' := Aside0.mk (HS.out.below hb); clear hb HJ HS; have HJ := HJ'; have HS := HS'; clear HJ' HS'; clear cj0 cj1 cj2; have cj0 : w'.cell? ⟨b3, 0, none⟩ = some (.slice A0 L.length c0) := HJ.out.cell0; have cj1 : w'.cell? ⟨b3, 1, none⟩ = some (.slice A1 P.length c1) := HJ.out.cell1; have cj2 : w'.cell? ⟨b3, 2, none⟩ = some (.slice A2 D.length c2) := HJ.out.cell2))
  refine start_ (n := 20) (S := fun w' => w'.cell? ⟨b3, 0, none⟩ = some (.slice A0 L.length c0) ∧ w'.cell? ⟨b3, 1, none⟩ = some (.slice A1 P.length c1) ∧ w'.cell? ⟨b3, 2, none⟩ = some (.slice A2 D.length c2)) (ds := []) #[false, false, false, false, false, false, false, false, false, false, false, false, false, false, false, false, false, false, false, false] (by kernel_rfl) rfl rfl ⟨cj0, cj1, cj2⟩ (fun hHeld => ?_)
  refine pure_ (i := 0) (N := some 155) (v := ?_) (a' := ?_) #[true, false, false, false, false, false, false, false, false, false, false, false, false, false, false, false, false, false, false, false] rfl rfl (by kernel_rfl) (fun _ _ _ h => h) (Or.inl ⟨by rfl, ?_⟩) ?_ ?_
  rotate_left
  · intro w'
    go_simp
    with_reducible rfl
  rotate_left
  · simp only [Act.put, List.setIfInBounds_toArray, List.set_cons_zero, List.set_cons_succ, i64_w, i32_w]
    rfl
  refine pure_ (i := 1) (N := some 156) (v := ?_) (a' := ?_) #[true, true, false, false, false, false, false, false, false, false, false, false, false, false, false, false, false, false, false, false] rfl rfl (by kernel_rfl) (fun _ _ _ h => h) (Or.inl ⟨by rfl, ?_⟩) ?_ ?_
  rotate_left
  · intro w'
    go_simp
    with_reducible rfl
  rotate_left
  · simp only [Act.put, List.setIfInBounds_toArray, List.set_cons_zero, List.set_cons_succ, i64_w, i32_w]
    rfl
  refine pure_ (i := 2) (N := some 157) (v := ?_) (a' := ?_) #[true, true, true, false, false, false, false, false, false, false, false, false, false, false, false, false, false, false, false, false] rfl rfl (by kernel_rfl) (fun _ _ _ h => h) (Or.inl ⟨by rfl, ?_⟩) ?_ ?_
  rotate_left
  · intro w'
    go_simp
    with_reducible rfl
  rotate_left
  · simp only [Act.put, List.setIfInBounds_toArray, List.set_cons_zero, List.set_cons_succ, i64_w, i32_w]
    rfl
  refine pure_ (i := 3) (N := some 158) (v := ?_) (a' := ?_) #[true, true, true, true, false, false, false, false, false, false, false, false, false, false, false, false, false, false, false, false] rfl rfl (by kernel_rfl) (fun _ _ _ h => h) (Or.inl ⟨by rfl, ?_⟩) ?_ ?_
  rotate_left
  · intro w'
    go_simp
    with_reducible rfl
  rotate_left
  · simp only [Act.put, List.setIfInBounds_toArray, List.set_cons_zero, List.set_cons_succ, i64_w, i32_w]
    rfl
  refine pure_ (i := 4) (N := some 159) (v := ?_) (a' := ?_) #[true, true, true, true, true, false, false, false, false, false, false, false, false, false, false, false, false, false, false, false] rfl rfl (by kernel_rfl) (fun _ _ _ h => h) (Or.inl ⟨by rfl, ?_⟩) ?_ ?_
  rotate_left
  · intro w'
    go_simp
    with_reducible rfl
  rotate_left
  · simp only [Act.put, List.setIfInBounds_toArray, List.set_cons_zero, List.set_cons_succ, i64_w, i32_w]
    rfl
  refine pure_ (i := 5) (N := some 160) (v := ?_) (a' := ?_) #[true, true, true, true, true, true, false, false, false, false, false, false, false, false, false, false, false, false, false, false] rfl rfl (by kernel_rfl) (fun _ _ _ h => h) (Or.inl ⟨by rfl, ?_⟩) ?_ ?_
  rotate_left
  · intro w'
    go_simp
    with_reducible rfl
  rotate_left
  · simp only [Act.put, List.setIfInBounds_toArray, List.set_cons_zero, List.set_cons_succ, i64_w, i32_w]
    rfl
  refine pure_ (i := 6) (N := some 161) (v := ?_) (a' := ?_) #[true, true, true, true, true, true, true, false, false, false, false, false, false, false, false, false, false, false, false, false] rfl rfl (by kernel_rfl) (fun _ _ _ h => h) (Or.inl ⟨by rfl, ?_⟩) ?_ ?_
  rotate_left
  · intro w'
    go_simp
    with_reducible rfl
  rotate_left
  · simp only [Act.put, List.setIfInBounds_toArray, List.set_cons_zero, List.set_cons_succ, i64_w, i32_w]
    rfl
  refine pure_ (i := 7) (N := some 162) (v := ?_) (a' := ?_) #[true, true, true, true, true, true, true, true, false, false, false, false, false, false, false, false, false, false, false, false] rfl rfl (by kernel_rfl) (fun _ _ _ h => h) (Or.inl ⟨by rfl, ?_⟩) ?_ ?_
  rotate_left
  · intro w'
    go_simp
    with_reducible rfl
  rotate_left
  · simp only [Act.put, List.setIfInBounds_toArray, List.set_cons_zero, List.set_cons_succ, i64_w, i32_w]
    rfl
  refine pure_ (i := 8) (N := some 163) (v := ?_) (a' := ?_) #[true, true, true, true, true, true, true, true, true, false, false, false, false, false, false, false, false, false, false, false] rfl rfl (by kernel_rfl) (fun _ _ _ h => h) (Or.inl ⟨by rfl, ?_⟩) ?_ ?_
  rotate_left
  · intro w'
    go_simp
    with_reducible rfl
  rotate_left
  · simp only [Act.put, List.setIfInBounds_toArray, List.set_cons_zero, List.set_cons_succ, i64_w, i32_w]
    rfl
  refine pure_ (i := 9) (N := some 164) (v := ?_) (a' := ?_) #[true, true, true, true, true, true, true, true, true, true, false, false, false, false, false, false, false, false, false, false] rfl rfl (by kernel_rfl) (fun _ _ _ h => h) (Or.inl ⟨by rfl, ?_⟩) ?_ ?_
  rotate_left
  · intro w'
    go_simp
    with_reducible rfl
  rotate_left
  · simp only [Act.put, List.setIfInBounds_toArray, List.set_cons_zero, List.set_cons_succ, i64_w, i32_w]
    rfl
  refine pure_ (i := 10) (N := some 165) (v := ?_) (a' := ?_) #[true, true, true, true, true, true, true, true, true, true, true, false, false, false, false, false, false, false, false, false] rfl rfl (by kernel_rfl) (fun _ _ _ h => h) (Or.inl ⟨by rfl, ?_⟩) ?_ ?_
  rotate_left
  · intro w'
    go_simp
    with_reducible rfl
  rotate_left
  · simp only [Act.put, List.setIfInBounds_toArray, List.set_cons_zero, List.set_cons_succ, i64_w, i32_w]
    rfl
  refine pure_ (i := 11) (N := some 166) (v := ?_) (a' := ?_) #[true, true, true, true, true, true, true, true, true, true, true, true, false, false, false, false, false, false, false, false] rfl rfl (by kernel_rfl) (fun _ _ _ h => h) (Or.inl ⟨by rfl, ?_⟩) ?_ ?_
  rotate_left
  · intro w'
    go_simp
    with_reducible rfl
  rotate_left
  · simp only [Act.put, List.setIfInBounds_toArray, List.set_cons_zero, List.set_cons_succ, i64_w, i32_w]
    rfl
  refine pure_ (i := 12) (N := some 167) (v := ?_) (a' := ?_) #[true, true, true, true, true, true, true, true, true, true, true, true, true, false, false, false, false, false, false, false] rfl rfl (by kernel_rfl) (fun _ _ _ h => h) (Or.inl ⟨by rfl, ?_⟩) ?_ ?_
  rotate_left
  · intro w'
    go_simp
    with_reducible rfl
  rotate_left
  · simp only [Act.put, List.setIfInBounds_toArray, List.set_cons_zero, List.set_cons_succ, i64_w, i32_w]
    rfl
  refine pure_ (i := 13) (N := some 168) (v := ?_) (a' := ?_) #[true, true, true, true, true, true, true, true, true, true, true, true, true, true, false, false, false, false, false, false] rfl rfl (by kernel_rfl) (fun _ _ _ h => h) (Or.inl ⟨by rfl, ?_⟩) ?_ ?_
  rotate_left
  · intro w'
    go_simp
    with_reducible rfl
  rotate_left
  · simp only [Act.put, List.setIfInBounds_toArray, List.set_cons_zero, List.set_cons_succ, i64_w, i32_w]
    rfl
  refine take_ (i := 14) (N := some 169) (v := ?_) (a' := ?_) #[true, true, true, true, true, true, true, true, true, true, true, true, true, true, true, false, false, false, false, false] rfl rfl (by kernel_rfl) (fun _ _ _ h => h) (Or.inl ⟨by rfl, ?_⟩) hHeld ?_ ?_
  rotate_left
  · rintro w' ⟨s0, s1, s2⟩
    go_simp
    with_reducible rfl
  rotate_left
  · simp only [Act.put, List.setIfInBounds_toArray, List.set_cons_zero, List.set_cons_succ, i64_w, i32_w]
    rfl
  refine take_ (i := 16) (N := some 171) (v := ?_) (a' := ?_) #[true, true, true, true, true, true, true, true, true, true, true, true, true, true, true, false, true, false, false, false] rfl rfl (by kernel_rfl) (fun _ _ _ h => h) (Or.inl ⟨by rfl, ?_⟩) hHeld ?_ ?_
  rotate_left
  · rintro w' ⟨s0, s1, s2⟩
    go_simp
    with_reducible rfl
  rotate_left
  · simp only [Act.put, List.setIfInBounds_toArray, List.set_cons_zero, List.set_cons_succ, i64_w, i32_w]
    rfl
  refine one_ (i := 15) (N := some 170) #[true, true, true, true, true, true, true, true, true, true, true, true, true, true, true, true, true, false, false, false] rfl rfl (by kernel_rfl) (by decide) (fun K hK => ?_)
  refine goes_ Try.func37 (by kernel_rfl) rfl #[.agg #[.slice A0 L.length c0, .slice A1 P.length c1, .slice A2 D.length c2]] (by rfl) rfl rfl (by simp only [List.map_toArray, List.map_cons, List.map_nil]; rfl) ?_
  with_reducible refine (impl_AreJobs.calls k A0 c0 L A1 c1 P A2 c2 D are _ HJ.out.drew.r0 HJ.out.k0 HJ.out.drew.r1 HJ.out.k1 HJ.out.drew.r2 HJ.out.k2 HE.out.i7).mono ?_
  rintro e w4 ⟨rfl, hb⟩
  refine ⟨_, rfl, ?_⟩
  have HJ4 := Aside0.mk (HJ.out.drew.below hb)
  have HS4 := Aside0.mk (HS.out.drew.below hb)
  clear hb
  refine hK.out _ _ ⟨HJ4.out.cell0, HJ4.out.cell1, HJ4.out.cell2⟩ (fun hHeld => ?_)
  clear hK K
  refine norm_ (a' := ?_) ?_ ?_
  rotate_left
  · show Act.put _ (some 170) _ = _
    simp only [Act.put, List.setIfInBounds_toArray, List.set_cons_zero, List.set_cons_succ, i64_w, i32_w]
    rfl
  refine one_ (i := 17) (N := some 172) #[true, true, true, true, true, true, true, true, true, true, true, true, true, true, true, true, true, true, false, false] rfl rfl (by kernel_rfl) (by decide) (fun K hK => ?_)
  refine goes_ Try.func38 (by kernel_rfl) rfl #[.agg #[.slice A0 L.length c0, .slice A1 P.length c1, .slice A2 D.length c2]] (by rfl) rfl rfl (by simp only [List.map_toArray, List.map_cons, List.map_nil]; rfl) ?_
  with_reducible refine (spec_AreJobs.calls k A0 c0 L A1 c1 P A2 c2 D are _ HJ4.out.r0 HJ4.out.k0 HJ4.out.r1 HJ4.out.k1 HJ4.out.r2 HJ4.out.k2 HE.out.s7).mono ?_
  rintro e w5 ⟨rfl, hb⟩
  refine ⟨_, rfl, ?_⟩
  have HJ5 := Aside0.mk (HJ4.out.below hb)
  have HS5 := Aside0.mk (HS4.out.below hb)
  clear hb
  refine hK.out _ _ ⟨HJ5.out.cell0, HJ5.out.cell1, HJ5.out.cell2⟩ (fun hHeld => ?_)
  clear hK K
  refine norm_ (a' := ?_) ?_ ?_
  rotate_left
  · show Act.put _ (some 172) _ = _
    simp only [Act.put, List.setIfInBounds_toArray, List.set_cons_zero, List.set_cons_succ, i64_w, i32_w]
    rfl
  refine pure_ (i := 18) (N := some 173) (v := ?_) (a' := ?_) #[true, true, true, true, true, true, true, true, true, true, true, true, true, true, true, true, true, true, true, false] rfl rfl (by kernel_rfl) (fun _ _ _ h => h) (Or.inl ⟨by rfl, ?_⟩) ?_ ?_
  rotate_left
  · intro w'
    go_simp
    with_reducible rfl
  rotate_left
  · simp only [Act.put, List.setIfInBounds_toArray, List.set_cons_zero, List.set_cons_succ, i64_w, i32_w]
    rfl
  refine pure_ (i := 19) (N := some 174) (v := ?_) (a' := ?_) #[true, true, true, true, true, true, true, true, true, true, true, true, true, true, true, true, true, true, true, true] rfl rfl (by kernel_rfl) (fun _ _ _ h => h) (Or.inl ⟨by rfl, ?_⟩) ?_ ?_
  rotate_left
  · intro w'
    go_simp
    with_reducible rfl
  rotate_left
  · simp only [Act.put, List.setIfInBounds_toArray, List.set_cons_zero, List.set_cons_succ, i64_w, i32_w]
    rfl
  refine done_ (by kernel_rfl) ?_
  clear HJ HS HJ4 HS4 cj0 cj1 cj2 hHeld
  have HJ := HJ5
  have HS := HS5
  clear HJ5 HS5
  go_upto_region 29 with (first | (go_at_call 39; refine (spec_DrawDemandUpTo.calls k A c code X Y Z n _ (Kd.C_below HC.out.1 HJ.out.hb) HC.out.2 HD2.out).mono ?_; rintro e w' ⟨v0, v1, v2, rfl, h0, h1, h2, hb⟩; obtain ⟨A5, c5, rfl, q0⟩ := Row.of h0; obtain ⟨A6, c6, rfl, q1⟩ := Row.of h1; obtain ⟨A7, c7, rfl, q2⟩ := Row.of h2; have Q0 := Aside0.mk q0; have Q1 := Aside0.mk q1; have Q2 := Aside0.mk q2; clear h0 h1 h2 q0 q1 q2; have HJ' := Aside0.mk (HJ.out.below hb); have HS' := Aside0.mk (HS.out.below hb); clear hb HJ HS; have HJ := HJ'; have HS := HS'; clear HJ' HS'))
  have HX : Aside0 (JBox w (w'.alloc (.cells #[.slice A5 X.length c5, .slice A6 Y.length c6, .slice A7 Z.length c7] 33)) w'.heap.size A5 c5 X A6 c6 Y A7 c7 Z) :=
    ⟨⟨by simpa using heap_alloc_new w' _, Kd.C_alloc Q0.out.r _, Q0.out.k, Kd.C_alloc Q1.out.r _, Q1.out.k, Kd.C_alloc Q2.out.r _, Q2.out.k, below_alloc HJ.out.hb _⟩⟩
  have HJ' := Aside0.mk (HJ.out.below (below_alloc (Below.refl _ _) (.cells #[.slice A5 X.length c5, .slice A6 Y.length c6, .slice A7 Z.length c7] 33)))
  have HS' := Aside0.mk (HS.out.below (below_alloc (Below.refl _ _) (.cells #[.slice A5 X.length c5, .slice A6 Y.length c6, .slice A7 Z.length c7] 33)))
  clear Q0 Q1 Q2 HJ HS
  have HJ := HJ'
  have HS := HS'
  clear HJ' HS'
  generalize w'.alloc (.cells #[.slice A5 X.length c5, .slice A6 Y.length c6, .slice A7 Z.length c7] 33) = w7 at HX HJ HS ⊢
  generalize w'.heap.size = b4 at HX ⊢
  have cx0 := HX.out.cell0
  have cx1 := HX.out.cell1
  have cx2 := HX.out.cell2
  go_upto_region 33 with (first | (go_at_call 40; refine (impl_DemandUpTo.calls k A5 c5 X A6 c6 Y A7 c7 Z n dem seven _ HX.out.r0 HX.out.k0 HX.out.r1 HX.out.k1 HX.out.r2 HX.out.k2 HE.out.i8).mono ?_; rintro e w' ⟨rfl, hb⟩; clear cx0 cx1 cx2; have HJ' := Aside0.mk (HJ.out.below hb); have HS' := Aside0.mk (HS.out.below hb); have HX' := Aside0.mk (HX.out.below hb); clear hb HJ HS HX; have HJ := HJ'; have HS := HS'; have HX := HX'; clear HJ' HS' HX'; have cx0 := HX.out.cell0; have cx1 := HX.out.cell1; have cx2 := HX.out.cell2) | (go_at_call 41; refine (spec_DemandUpTo.calls k A5 c5 X A6 c6 Y A7 c7 Z n dem seven _ HX.out.r0 HX.out.k0 HX.out.r1 HX.out.k1 HX.out.r2 HX.out.k2 HE.out.s8).mono ?_; rintro e w' ⟨rfl, hb⟩; clear cx0 cx1 cx2; have HJ' := Aside0.mk (HJ.out.below hb); have HS' := Aside0.mk (HS.out.below hb); have HX' := Aside0.mk (HX.out.below hb); clear hb HJ HS HX; have HJ := HJ'; have HS := HS'; have HX := HX'; clear HJ' HS' HX'; have cx0 := HX.out.cell0; have cx1 := HX.out.cell1; have cx2 := HX.out.cell2))
  clear cx0 cx1 cx2 HX HE HD1 HD2 HBIG
  have hT := HT_.out
  clear HT_
  cases hT with
  | bad h hs h3 h4 h5 =>
    subst hs h3 h4 h5
    have o1 : (five != 0) = true := by simpa using h
    have o2 : (five == five) = true := by simp
    go_wp2
    go_ret
    exact ⟨rfl, HJ.out.hb⟩
  | late h1 h3 h4 h5 h6 hcn hr h2 hl hw =>
    subst h1 h3 h4 h5 h6 hcn h2
    have o1 : decide (0 ≤ room) = false := decide_eq_false (by omega)
    have o2 : ((sl.length : Int) == lt) = true := by simpa using hl
    have o3 : decide (lt ≤ whole) = true := decide_eq_true hw
    clear hl
    go_wp2
    go_ret
    exact ⟨rfl, HJ.out.hb⟩
  | fine h1 h3 h4 h5 h6 hcn hr h2 hl hs hn hp hb hL ht hc2 =>
    subst h1 h3 h4 h5 h6 hcn h2
    have o1 : decide (0 ≤ room) = true := decide_eq_true hr
    have HL := Aside0.mk hl
    have HP := Aside0.mk hp
    have HPB := Aside0.mk hb
    have HLB := Aside0.mk hL
    have HC2 := Aside0.mk hc2
    have o3 : decide (top ≤ below) = true := decide_eq_true ht
    have cj0 := HJ.out.cell0
    clear hl hp hb hL hc2 ht
    go_wp2
    go_loopw [38] (fun v wr => ∃ i : Nat, i ≤ L.length ∧ v = .int .i64 i ∧ Aside0 (JBox w wr b3 A0 c0 L A1 c1 P A2 c2 D) ∧ Aside0 (Row wr AS cS sl)) (fun v _ => L.length - (intOf v).toNat)
    case atStart => exact ⟨0, Nat.zero_le _, rfl, HJ, HS⟩
    case round =>
      clear HJ HS cj0
      obtain ⟨i, hi, rfl, HJ, HS⟩ := hrel
      have cj0 := HJ.out.cell0
      have cj1 := HJ.out.cell1
      by_cases hlt : i < L.length
      · have hltb : decide (i < L.length) = true := decide_eq_true hlt
        go_wp2
        go_loop [39, 40] (fun v39 v40 => ∃ q : Nat, q ≤ sl.length ∧ v40 = .int .i64 q ∧ v39 = .int .i64 (cntT sl i q)) (fun _ v => sl.length - (intOf v).toNat)
        case atStart => exact ⟨0, Nat.zero_le _, rfl, by rw [cntT_zero]⟩
        case round =>
          obtain ⟨q, hq, rfl, rfl⟩ := hrel
          have hcb := cntT_bd sl i q
          by_cases hql : q < sl.length
          · have hs' := Aside0.mk (cntT_succ sl i q hql)
            obtain ⟨ad, e', hx⟩ := Kd.at_int HS.out.r (q : Int) (by omega) (by omega)
            subst e'
            rw [Int.toNat_natCast] at hx
            by_cases he : rd sl q = (i : Int)
            · have heb : (rd sl (q : Int) == (i : Int)) = true := by simpa using he
              have HE1 := Aside0.mk he
              clear he
              go_wp2
              go_round
              case rel => exact ⟨q + 1, by omega, by go_num, by rw [hs'.out, if_pos HE1.out]⟩
              case measure => simp [intOf]; omega
            · have heb : (rd sl (q : Int) == (i : Int)) = false := by simpa using he
              have HE1 := Aside0.mk he
              clear he
              go_wp2
              go_round
              case rel => exact ⟨q + 1, by omega, by go_num, by rw [hs'.out, if_neg HE1.out, Int.add_zero]⟩
              case measure => simp [intOf]; omega
          · have hqe : q = sl.length := by omega
            subst hqe
            have hgt : decide (sl.length < sl.length) = false := decide_eq_false (by omega)
            clear hql hq
            obtain ⟨adP, eP, hxP⟩ := Kd.at_int HJ.out.r1 (i : Int) (by omega) (by have := HP.out; omega)
            obtain ⟨adL, eL, hxL⟩ := Kd.at_int HJ.out.r0 (i : Int) (by omega) (by omega)
            subst eP eL
            rw [Int.toNat_natCast] at hxP hxL
            have hmul : (wrap64 (cntT sl i sl.length * rd P i) != wrap64 (rd L i * whole)) = false := by rw [HC2.out i hlt]; simp
            have p0 : ((0 : Int) ≤ (i : Int)) = True := eq_true (by omega)
            have p1 : ((i : Int) < (P.length : Int)) = True := eq_true (by have := HP.out; omega)
            have p2 : ((i : Int) < (L.length : Int)) = True := eq_true (by omega)
            go_wp2
            refine start_ (n := 15) (S := fun w' => w'.cell? ⟨b3, 0, none⟩ = some (.slice (some adL) L.length c0) ∧ w'.cell? ⟨b3, 1, none⟩ = some (.slice (some adP) P.length c1) ∧ w'.cell? (adP.add i) = some (.int .i64 (rd P i)) ∧ w'.cell? (adL.add i) = some (.int .i64 (rd L i))) (ds := []) #[false, false, false, false, false, false, false, false, false, false, false, false, false, false, false] (by kernel_rfl) rfl rfl ⟨cj0, cj1, hxP, hxL⟩ (fun hHeld => ?_)
            refine pure_ (i := 0) (N := some 282) (v := ?_) (a' := ?_) #[true, false, false, false, false, false, false, false, false, false, false, false, false, false, false] rfl rfl (by kernel_rfl) (fun _ _ _ h => h) (Or.inl ⟨by rfl, ?_⟩) ?_ ?_
            rotate_left
            · intro w'
              go_simp
              with_reducible rfl
            rotate_left
            · simp only [Act.put, List.setIfInBounds_toArray, List.set_cons_zero, List.set_cons_succ, i64_w, i32_w]
              rfl
            refine pure_ (i := 1) (N := some 283) (v := ?_) (a' := ?_) #[true, true, false, false, false, false, false, false, false, false, false, false, false, false, false] rfl rfl (by kernel_rfl) (fun _ _ _ h => h) (Or.inl ⟨by rfl, ?_⟩) ?_ ?_
            rotate_left
            · intro w'
              go_simp
              with_reducible rfl
            rotate_left
            · simp only [Act.put, List.setIfInBounds_toArray, List.set_cons_zero, List.set_cons_succ, i64_w, i32_w]
              rfl
            refine pure_ (i := 3) (N := some 285) (v := ?_) (a' := ?_) #[true, true, false, true, false, false, false, false, false, false, false, false, false, false, false] rfl rfl (by kernel_rfl) (fun _ _ _ h => h) (Or.inl ⟨by rfl, ?_⟩) ?_ ?_
            rotate_left
            · intro w'
              go_simp
              with_reducible rfl
            rotate_left
            · simp only [Act.put, List.setIfInBounds_toArray, List.set_cons_zero, List.set_cons_succ, i64_w, i32_w]
              rfl
            refine pure_ (i := 7) (N := some 289) (v := ?_) (a' := ?_) #[true, true, false, true, false, false, false, true, false, false, false, false, false, false, false] rfl rfl (by kernel_rfl) (fun _ _ _ h => h) (Or.inl ⟨by rfl, ?_⟩) ?_ ?_
            rotate_left
            · intro w'
              go_simp
              with_reducible rfl
            rotate_left
            · simp only [Act.put, List.setIfInBounds_toArray, List.set_cons_zero, List.set_cons_succ, i64_w, i32_w]
              rfl
            refine pure_ (i := 9) (N := some 291) (v := ?_) (a' := ?_) #[true, true, false, true, false, false, false, true, false, true, false, false, false, false, false] rfl rfl (by kernel_rfl) (fun _ _ _ h => h) (Or.inl ⟨by rfl, ?_⟩) ?_ ?_
            rotate_left
            · intro w'
              go_simp
              with_reducible rfl
            rotate_left
            · simp only [Act.put, List.setIfInBounds_toArray, List.set_cons_zero, List.set_cons_succ, i64_w, i32_w]
              rfl
            refine pure_ (i := 12) (N := some 294) (v := ?_) (a' := ?_) #[true, true, false, true, false, false, false, true, false, true, false, false, true, false, false] rfl rfl (by kernel_rfl) (fun _ _ _ h => h) (Or.inl ⟨by rfl, ?_⟩) ?_ ?_
            rotate_left
            · intro w'
              go_simp
              with_reducible rfl
            rotate_left
            · simp only [Act.put, List.setIfInBounds_toArray, List.set_cons_zero, List.set_cons_succ, i64_w, i32_w]
              rfl
            refine take_ (i := 2) (N := some 284) (v := ?_) (a' := ?_) #[true, true, true, true, false, false, false, true, false, true, false, false, true, false, false] rfl rfl (by kernel_rfl) (fun _ _ _ h => h) (Or.inl ⟨by rfl, ?_⟩) hHeld ?_ ?_
            rotate_left
            · rintro w' ⟨s0, s1, s2, s3⟩
              go_simp
              with_reducible rfl
            rotate_left
            · simp only [Act.put, List.setIfInBounds_toArray, List.set_cons_zero, List.set_cons_succ, i64_w, i32_w]
              rfl
            refine pure_ (i := 4) (N := some 286) (v := ?_) (a' := ?_) #[true, true, true, true, true, false, false, true, false, true, false, false, true, false, false] rfl rfl (by kernel_rfl) (fun _ _ _ h => h) (Or.inl ⟨by rfl, ?_⟩) ?_ ?_
            rotate_left
            · intro w'
              go_simp
              with_reducible rfl
            rotate_left
            · simp only [Act.put, List.setIfInBounds_toArray, List.set_cons_zero, List.set_cons_succ, i64_w, i32_w]
              rfl
            refine take_ (i := 5) (N := some 287) (v := ?_) (a' := ?_) #[true, true, true, true, true, true, false, true, false, true, false, false, true, false, false] rfl rfl (by kernel_rfl) (fun _ _ _ h => h) (Or.inl ⟨by rfl, ?_⟩) hHeld ?_ ?_
            rotate_left
            · rintro w' ⟨s0, s1, s2, s3⟩
              go_simp
              with_reducible rfl
            rotate_left
            · simp only [Act.put, List.setIfInBounds_toArray, List.set_cons_zero, List.set_cons_succ, i64_w, i32_w]
              rfl
            refine pure_ (i := 6) (N := some 288) (v := ?_) (a' := ?_) #[true, true, true, true, true, true, true, true, false, true, false, false, true, false, false] rfl rfl (by kernel_rfl) (fun _ _ _ h => h) (Or.inl ⟨by rfl, ?_⟩) ?_ ?_
            rotate_left
            · intro w'
              go_simp
              with_reducible rfl
            rotate_left
            · simp only [Act.put, List.setIfInBounds_toArray, List.set_cons_zero, List.set_cons_succ, i64_w, i32_w]
              rfl
            refine take_ (i := 8) (N := some 290) (v := ?_) (a' := ?_) #[true, true, true, true, true, true, true, true, true, true, false, false, true, false, false] rfl rfl (by kernel_rfl) (fun _ _ _ h => h) (Or.inl ⟨by rfl, ?_⟩) hHeld ?_ ?_
            rotate_left
            · rintro w' ⟨s0, s1, s2, s3⟩
              go_simp
              with_reducible rfl
            rotate_left
            · simp only [Act.put, List.setIfInBounds_toArray, List.set_cons_zero, List.set_cons_succ, i64_w, i32_w]
              rfl
            refine pure_ (i := 10) (N := some 292) (v := ?_) (a' := ?_) #[true, true, true, true, true, true, true, true, true, true, true, false, true, false, false] rfl rfl (by kernel_rfl) (fun _ _ _ h => h) (Or.inl ⟨by rfl, ?_⟩) ?_ ?_
            rotate_left
            · intro w'
              go_simp
              with_reducible rfl
            rotate_left
            · simp only [Act.put, List.setIfInBounds_toArray, List.set_cons_zero, List.set_cons_succ, i64_w, i32_w]
              rfl
            refine take_ (i := 11) (N := some 293) (v := ?_) (a' := ?_) #[true, true, true, true, true, true, true, true, true, true, true, true, true, false, false] rfl rfl (by kernel_rfl) (fun _ _ _ h => h) (Or.inl ⟨by rfl, ?_⟩) hHeld ?_ ?_
            rotate_left
            · rintro w' ⟨s0, s1, s2, s3⟩
              go_simp
              with_reducible rfl
            rotate_left
            · simp only [Act.put, List.setIfInBounds_toArray, List.set_cons_zero, List.set_cons_succ, i64_w, i32_w]
              rfl
            refine pure_ (i := 13) (N := some 295) (v := ?_) (a' := ?_) #[true, true, true, true, true, true, true, true, true, true, true, true, true, true, false] rfl rfl (by kernel_rfl) (fun _ _ _ h => h) (Or.inl ⟨by rfl, ?_⟩) ?_ ?_
            rotate_left
            · intro w'
              go_simp
              with_reducible rfl
            rotate_left
            · simp only [Act.put, List.setIfInBounds_toArray, List.set_cons_zero, List.set_cons_succ, i64_w, i32_w]
              rfl
            refine pure_ (i := 14) (N := some 296) (v := ?_) (a' := ?_) #[true, true, true, true, true, true, true, true, true, true, true, true, true, true, true] rfl rfl (by kernel_rfl) (fun _ _ _ h => h) (Or.inl ⟨by rfl, ?_⟩) ?_ ?_
            rotate_left
            · intro w'
              go_simp
              with_reducible rfl
            rotate_left
            · simp only [Act.put, List.setIfInBounds_toArray, List.set_cons_zero, List.set_cons_succ, i64_w, i32_w]
              rfl
            refine done_ (by kernel_rfl) ?_
            go_wp2
            go_roundw
            case rel => exact ⟨i + 1, by omega, by go_num, ⟨HJ.out.drew⟩, ⟨HS.out.drew⟩⟩
            case measure => simp [intOf]; omega
      · have hie : i = L.length := by omega
        subst hie
        have hltb : decide (L.length < L.length) = false := decide_eq_false (by omega)
        have o4 : ((sl.length : Int) == whole) = true := by simpa using HL.out
        clear hlt hi
        go_wp2
        go_ret
        exact ⟨rfl, HJ.out.hb⟩
set_option maxHeartbeats 1600000 in
set_option maxRecDepth 100000 in
theorem laws_FnJobs.big (A : Option Addr) (c : Nat) (code : List Int) (w : World) (hr : Kd.C (Kd.int .u8) w A code.length code) (hc : code.length ≤ c) (hbig : laws_big.f code = some true) :
    Calls Try.prog 6 #[.slice A code.length c] w fun e w' => e = .returned (.bool true) ∧ Below w.heap.size w w' := by
  have HC := Aside0.mk (And.intro hr hc)
  have HBIG := Aside0.mk hbig
  clear hr hc hbig
  go_enter Try.func6, Try.ntmps6
  go_wp2_with ((go_at_call 22; refine (laws_big.calls A c code true _ HC.out.1 HC.out.2 HBIG.out).mono ?_; rintro e w' ⟨rfl, ⟨nd, rfl⟩⟩))
  go_ret
  exact ⟨rfl, pw_below_drewN (Below.refl _ _) nd⟩
end Go.Proofs.Ytoakdilhljnjfaa.Q
namespace Go.Proofs.Ytoakdilhljnjfaa.Pure
open Go.RowKit Go.Proofs.Ytoakdilhljnjfaa.Q Go.Proofs.YtoakdilhljnjfaaW.PrintWords Go.Proofs.YtoakdilhljnjfaaW.PrintLast Go.Proofs.YtoakdilhljnjfaaW.PrintMore Go.Proofs.Ytoakdilhljnjfaa.Edf
set_option linter.unusedVariables false
set_option linter.unusedSimpArgs false
theorem cntT_all (l : List Int) (i : Nat) : cntT l (i : Int) l.length = cntI l i := by unfold cntT cntI; rw [List.take_length]
theorem likeInts_l (l : List Int) (hl : l.length ≤ 1000000) (d : Nat) : ∀ i : Nat, i + d = l.length → Ev (fun k => laws_likeInts.l0 k l l (i : Int)) true := by
  induction d with
  | zero =>
    intro i hi
    exact Ev.step (fun k => by rw [laws_likeInts.l0]) (Ev.neg (by omega) (Ev.now _))
  | succ d ih =>
    intro i hi
    refine Ev.step (fun k => by rw [laws_likeInts.l0]) (Ev.pos (by omega) (Ev.pos (by omega) (Ev.pos (by omega) (Ev.pos rfl ?_))))
    rw [wrap64_id (x := (i : Int) + 1) (by omega) (by omega)]
    exact ih (i + 1) (by omega)
theorem likeInts_ev (l : List Int) (hl : l.length ≤ 1000000) : Ev (fun k => laws_likeInts.f k l l) true := by
  unfold laws_likeInts.f
  exact Ev.pos rfl (likeInts_l l hl l.length 0 (Nat.zero_add _))
section
variable (l0 l1 l2 : List Int)
theorem load_all : ∃ top below six : Int, Ev (fun k => impl_LoadOf.f k l0 l1 l2) (top, below, six) ∧ Ev (fun k => spec_LoadOf.f k l0 l1 l2) (top, below, six) ∧
    (jobsB l0 l1 l2 = true → six = 0 ∧ ∃ t b : Nat, top = (t : Int) ∧ below = (b : Int) ∧ Ev (fun k => impl_Jobs_load.f k l0 l1 l2) (top, below) ∧ (t ≤ b ↔ workN l0 l1 (wholeN l1) l0.length ≤ wholeN l1)) := by
  cases hj : jobsB l0 l1 l2 with
  | false =>
    refine ⟨0, 0, 1, ?_, ?_, fun h => by cases h⟩
    · unfold impl_LoadOf.f
      refine Ev.bind (jobsCode_ev l0 l1 l2 false) ?_
      rw [codeJ_bad hj]
      exact Ev.neg (by omega) (Ev.now _)
    · unfold spec_LoadOf.f
      refine Ev.bind (l04Is_ev l0 l1 l2) ?_
      rw [hj]
      exact Ev.neg (by simp) (Ev.now _)
  | true =>
    obtain ⟨t, b, E1, E2, E3⟩ := load_both (JL.of hj) hj
    refine ⟨t, b, 0, ?_, E2, fun _ => ⟨rfl, t, b, rfl, rfl, E1, E3⟩⟩
    unfold impl_LoadOf.f
    refine Ev.bind (jobsCode_ev l0 l1 l2 false) ?_
    rw [codeJ_any hj]
    exact Ev.pos rfl (Ev.bind E1 (Ev.now _))
theorem demand_all (n : Int) : ∃ dem seven : Int, Ev (fun k => impl_DemandUpTo.f k l0 l1 l2 n) (dem, seven) ∧ Ev (fun k => spec_DemandUpTo.f k l0 l1 l2 n) (dem, seven) := by
  have hw : impl_within.f n 0 1000 = some (isIn 0 1000 n) := within_isIn n 0 1000
  have hw2 : spec_l01In.f n 0 1000 = some (isIn 0 1000 n) := l01In_eq n 0 1000
  unfold impl_DemandUpTo.f spec_DemandUpTo.f
  cases hj : jobsB l0 l1 l2 with
  | false =>
    refine ⟨0, 1, ?_, ?_⟩
    · refine Ev.bindc hw (Ev.bind (a := 1) ?_ (Ev.neg (by omega) (Ev.now _)))
      unfold impl_jobsCode.f
      refine Ev.bind (AreJobs_ev l0 l1 l2) ?_
      rw [hj]; exact Ev.neg (by simp) (Ev.now _)
    · refine Ev.bind (l04Is_ev l0 l1 l2) ?_
      rw [hj]; exact Ev.neg (by simp) (Ev.now _)
  | true =>
    cases hn : isIn 0 1000 n with
    | false =>
      refine ⟨0, 2, ?_, ?_⟩
      · refine Ev.bindc hw (Ev.bind (a := 2) ?_ (Ev.neg (by omega) (Ev.now _)))
        unfold impl_jobsCode.f
        refine Ev.bind (AreJobs_ev l0 l1 l2) ?_
        rw [hj, hn]; exact Ev.pos rfl (Ev.neg (by simp) (Ev.now _))
      · refine Ev.bind (l04Is_ev l0 l1 l2) ?_
        rw [hj]; refine Ev.pos rfl (Ev.bindc hw2 ?_)
        rw [hn]; exact Ev.neg (by simp) (Ev.now _)
    | true =>
      have hb : 0 ≤ n ∧ n ≤ 1000 := by simpa [isIn] using hn
      obtain ⟨d1, d2⟩ := demand_ev (JL.of hj) n hb.1 hb.2
      refine ⟨demand l0.length (rf l0) (rf l1) (rf l2) n, 0, ?_, ?_⟩
      · refine Ev.bindc hw (Ev.bind (a := 0) ?_ (Ev.pos rfl (Ev.bind d1 (Ev.now _))))
        unfold impl_jobsCode.f
        refine Ev.bind (AreJobs_ev l0 l1 l2) ?_
        rw [hj, hn]; exact Ev.pos rfl (Ev.pos rfl (Ev.neg (by simp) (Ev.now _)))
      · refine Ev.bind (l04Is_ev l0 l1 l2) ?_
        rw [hj]; refine Ev.pos rfl (Ev.bindc hw2 ?_)
        rw [hn]; exact Ev.pos rfl (Ev.bind d2 (Ev.now _))
theorem jobs_all (x0 x1 x2 : List Int) (n : Int) : ∃ (k : Nat) (sl : List Int) (one lt tk two room three : Int) (can : Bool) (four whole five top below six : Int) (are : Bool) (dem seven : Int),
    (∀ q, k ≤ q → JobsRun q l0 l1 l2 x0 x1 x2 n sl one lt tk two room three can four whole five top below six are dem seven) ∧ JobsTell l0 l1 l2 sl one lt two room three can four whole five top below six := by
  obtain ⟨top, below, six, e6, f6, hload⟩ := load_all l0 l1 l2
  obtain ⟨dem, seven, e8, f8⟩ := demand_all x0 x1 x2 n
  have e7 := AreJobs_ev l0 l1 l2
  have f7 : Ev (fun k => spec_AreJobs.f k l0 l1 l2) (jobsB l0 l1 l2) := by unfold spec_AreJobs.f; exact Ev.bind (l04Is_ev l0 l1 l2) (Ev.now _)
  have ci := jobsCode_ev l0 l1 l2 true
  have cs := l04Code_ev l0 l1 l2
  by_cases h0 : codeJ l0 l1 l2 true = 0
  · obtain ⟨h, hw, hj⟩ := codeJ_zero h0
    obtain ⟨hsix, t, b, htop, hbel, eld, hle⟩ := hload hj
    rw [h0] at ci cs
    obtain ⟨out, late, slot, E1, E2, hend⟩ := earliest_both h hw
    obtain ⟨room, R1, R2, hroom⟩ := room_ev h hw
    have hW := whole_ev h
    have hW2 := l04Whole_w h hw
    have hol : out.length ≤ 1000000 := by
      rcases hend with ⟨_, _, hx, _⟩ | ⟨_, _, _, _, hx, _⟩ <;> omega
    have e1 : Ev (fun k => impl_DeadlineSlots.f k l0 l1 l2) (out, 0) := by unfold impl_DeadlineSlots.f; exact Ev.bind ci (Ev.pos rfl (Ev.bind E1 (Ev.now _)))
    have f1 : Ev (fun k => spec_DeadlineSlots.f k l0 l1 l2) (out, 0) := by unfold spec_DeadlineSlots.f; exact Ev.bind cs (Ev.pos rfl (Ev.bind E2 (Ev.now _)))
    have e3 : Ev (fun k => impl_RoomOf.f k l0 l1 l2) (room, 0) := by unfold impl_RoomOf.f; exact Ev.bind ci (Ev.pos rfl (Ev.bind R1 (Ev.now _)))
    have f3 : Ev (fun k => spec_RoomOf.f k l0 l1 l2) (room, 0) := by unfold spec_RoomOf.f; exact Ev.bind cs (Ev.pos rfl (Ev.bind R2 (Ev.now _)))
    have e5 : Ev (fun k => impl_WholePeriod.f k l0 l1 l2) ((wholeN l1 : Nat), 0) := by unfold impl_WholePeriod.f; exact Ev.bind ci (Ev.pos rfl (Ev.bind hW (Ev.now _)))
    have f5 : Ev (fun k => spec_WholePeriod.f k l0 l1 l2) ((wholeN l1 : Nat), 0) := by unfold spec_WholePeriod.f; exact Ev.bind cs (Ev.pos rfl (Ev.bind hW2 (Ev.now _)))
    have hlk := likeInts_ev out hol
    rcases hend with ⟨hl, hs, hlen, hdem, hcnt⟩ | ⟨j, hl, hjn, hs, hlen, m, m1, m2, hbad⟩
    · have hr0 : 0 ≤ room := hroom.2 hdem
      have hdw := hdem (wholeN l1) h.whole_pos (Nat.le_refl _)
      rw [demand_whole h] at hdw
      have htb : t ≤ b := hle.2 (by omega)
      subst hl hs
      have e2 : Ev (fun k => impl_FirstLate.f k l0 l1 l2) (0, 0, 4) := by unfold impl_FirstLate.f; exact Ev.bind ci (Ev.pos rfl (Ev.bind E1 (Ev.pos (show (-1 : Int) < 0 by decide) (Ev.now _))))
      have f2 : Ev (fun k => spec_FirstLate.f k l0 l1 l2) (0, 0, 4) := by unfold spec_FirstLate.f; exact Ev.bind cs (Ev.pos rfl (Ev.bind E2 (Ev.pos (show (-1 : Int) < 0 by decide) (Ev.now _))))
      have e4 : Ev (fun k => impl_CanMeet.f k l0 l1 l2) (true, 0) := by
        unfold impl_CanMeet.f
        refine Ev.bind ci (Ev.pos rfl (Ev.bind eld (Ev.bind R1 (Ev.pos hr0 ?_))))
        rw [htop, hbel, decide_eq_true (by omega)]; exact Ev.now _
      have f4 : Ev (fun k => spec_CanMeet.f k l0 l1 l2) (true, 0) := by unfold spec_CanMeet.f; exact Ev.bind cs (Ev.pos rfl (Ev.bind E2 (Ev.now _)))
      obtain ⟨k1, e1⟩ := e1; obtain ⟨k2, e2⟩ := e2; obtain ⟨k3, e3⟩ := e3; obtain ⟨k4, e4⟩ := e4; obtain ⟨k5, e5⟩ := e5; obtain ⟨k6, e6⟩ := e6; obtain ⟨k7, e7⟩ := e7; obtain ⟨k8, e8⟩ := e8
      obtain ⟨q1, f1⟩ := f1; obtain ⟨q2, f2⟩ := f2; obtain ⟨q3, f3⟩ := f3; obtain ⟨q4, f4⟩ := f4; obtain ⟨q5, f5⟩ := f5; obtain ⟨q6, f6⟩ := f6; obtain ⟨q7, f7⟩ := f7; obtain ⟨q8, f8⟩ := f8
      obtain ⟨k9, hlk⟩ := hlk
      refine ⟨k1 + k2 + k3 + k4 + k5 + k6 + k7 + k8 + k9 + q1 + q2 + q3 + q4 + q5 + q6 + q7 + q8, out, 0, 0, 0, 4, room, 0, true, 0, (wholeN l1 : Nat), 0, top, below, six, jobsB l0 l1 l2, dem, seven, fun q hq =>
        ⟨e1 q (by omega), f1 q (by omega), hlk q (by omega), e2 q (by omega), f2 q (by omega), e3 q (by omega), f3 q (by omega), e4 q (by omega), f4 q (by omega), e5 q (by omega), f5 q (by omega), e6 q (by omega), f6 q (by omega), e7 q (by omega), f7 q (by omega), e8 q (by omega), f8 q (by omega)⟩, ?_⟩
      exact .fine rfl rfl rfl rfl hsix rfl hr0 rfl (by omega) (by omega) h.h8 h.e1 (fun i hi => by have := (h.ok i hi).2.1; omega) (fun i hi => by have := (h.ok i hi).1; omega) (by omega) (fun i hi => by rw [cntT_all]; exact hcnt i hi)
    · have hr0 : ¬ 0 ≤ room := fun hx => hbad (hroom.1 hx m m1 m2)
      subst hl hs
      have e2 : Ev (fun k => impl_FirstLate.f k l0 l1 l2) ((out.length : Int), (j : Int), 0) := by
        unfold impl_FirstLate.f
        refine Ev.bind ci (Ev.pos rfl (Ev.bind E1 ?_))
        exact Ev.neg (by simp) (Ev.bindc (a := (out.length : Int)) rfl (Ev.now _))
      have f2 : Ev (fun k => spec_FirstLate.f k l0 l1 l2) ((out.length : Int), (j : Int), 0) := by
        unfold spec_FirstLate.f
        refine Ev.bind cs (Ev.pos rfl (Ev.bind E2 ?_))
        exact Ev.neg (by simp) (Ev.now _)
      have e4 : Ev (fun k => impl_CanMeet.f k l0 l1 l2) (false, 0) := by
        unfold impl_CanMeet.f
        exact Ev.bind ci (Ev.pos rfl (Ev.bind eld (Ev.bind R1 (Ev.neg hr0 (Ev.now _)))))
      have f4 : Ev (fun k => spec_CanMeet.f k l0 l1 l2) (false, 0) := by
        unfold spec_CanMeet.f
        refine Ev.bind cs (Ev.pos rfl (Ev.bind E2 ?_))
        rw [decide_eq_false (by simp)]; exact Ev.now _
      obtain ⟨k1, e1⟩ := e1; obtain ⟨k2, e2⟩ := e2; obtain ⟨k3, e3⟩ := e3; obtain ⟨k4, e4⟩ := e4; obtain ⟨k5, e5⟩ := e5; obtain ⟨k6, e6⟩ := e6; obtain ⟨k7, e7⟩ := e7; obtain ⟨k8, e8⟩ := e8
      obtain ⟨q1, f1⟩ := f1; obtain ⟨q2, f2⟩ := f2; obtain ⟨q3, f3⟩ := f3; obtain ⟨q4, f4⟩ := f4; obtain ⟨q5, f5⟩ := f5; obtain ⟨q6, f6⟩ := f6; obtain ⟨q7, f7⟩ := f7; obtain ⟨q8, f8⟩ := f8
      obtain ⟨k9, hlk⟩ := hlk
      refine ⟨k1 + k2 + k3 + k4 + k5 + k6 + k7 + k8 + k9 + q1 + q2 + q3 + q4 + q5 + q6 + q7 + q8, out, 0, (out.length : Int), (j : Int), 0, room, 0, false, 0, (wholeN l1 : Nat), 0, top, below, six, jobsB l0 l1 l2, dem, seven, fun q hq =>
        ⟨e1 q (by omega), f1 q (by omega), hlk q (by omega), e2 q (by omega), f2 q (by omega), e3 q (by omega), f3 q (by omega), e4 q (by omega), f4 q (by omega), e5 q (by omega), f5 q (by omega), e6 q (by omega), f6 q (by omega), e7 q (by omega), f7 q (by omega), e8 q (by omega), f8 q (by omega)⟩, ?_⟩
      exact .late rfl rfl rfl rfl hsix rfl (by omega) rfl rfl (by omega)
  · generalize codeJ l0 l1 l2 true = cd at *
    have e1 : Ev (fun k => impl_DeadlineSlots.f k l0 l1 l2) ([], cd) := by unfold impl_DeadlineSlots.f; exact Ev.bind ci (Ev.neg h0 (Ev.now _))
    have f1 : Ev (fun k => spec_DeadlineSlots.f k l0 l1 l2) ([], cd) := by unfold spec_DeadlineSlots.f; exact Ev.bind cs (Ev.neg h0 (Ev.now _))
    have e2 : Ev (fun k => impl_FirstLate.f k l0 l1 l2) (0, 0, cd) := by unfold impl_FirstLate.f; exact Ev.bind ci (Ev.neg h0 (Ev.now _))
    have f2 : Ev (fun k => spec_FirstLate.f k l0 l1 l2) (0, 0, cd) := by unfold spec_FirstLate.f; exact Ev.bind cs (Ev.neg h0 (Ev.now _))
    have e3 : Ev (fun k => impl_RoomOf.f k l0 l1 l2) (0, cd) := by unfold impl_RoomOf.f; exact Ev.bind ci (Ev.neg h0 (Ev.now _))
    have f3 : Ev (fun k => spec_RoomOf.f k l0 l1 l2) (0, cd) := by unfold spec_RoomOf.f; exact Ev.bind cs (Ev.neg h0 (Ev.now _))
    have e4 : Ev (fun k => impl_CanMeet.f k l0 l1 l2) (false, cd) := by unfold impl_CanMeet.f; exact Ev.bind ci (Ev.neg h0 (Ev.now _))
    have f4 : Ev (fun k => spec_CanMeet.f k l0 l1 l2) (false, cd) := by unfold spec_CanMeet.f; exact Ev.bind cs (Ev.neg h0 (Ev.now _))
    have e5 : Ev (fun k => impl_WholePeriod.f k l0 l1 l2) (0, cd) := by unfold impl_WholePeriod.f; exact Ev.bind ci (Ev.neg h0 (Ev.now _))
    have f5 : Ev (fun k => spec_WholePeriod.f k l0 l1 l2) (0, cd) := by unfold spec_WholePeriod.f; exact Ev.bind cs (Ev.neg h0 (Ev.now _))
    have hlk := likeInts_ev [] (by simp)
    obtain ⟨k1, e1⟩ := e1; obtain ⟨k2, e2⟩ := e2; obtain ⟨k3, e3⟩ := e3; obtain ⟨k4, e4⟩ := e4; obtain ⟨k5, e5⟩ := e5; obtain ⟨k6, e6⟩ := e6; obtain ⟨k7, e7⟩ := e7; obtain ⟨k8, e8⟩ := e8
    obtain ⟨q1, f1⟩ := f1; obtain ⟨q2, f2⟩ := f2; obtain ⟨q3, f3⟩ := f3; obtain ⟨q4, f4⟩ := f4; obtain ⟨q5, f5⟩ := f5; obtain ⟨q6, f6⟩ := f6; obtain ⟨q7, f7⟩ := f7; obtain ⟨q8, f8⟩ := f8
    obtain ⟨k9, hlk⟩ := hlk
    refine ⟨k1 + k2 + k3 + k4 + k5 + k6 + k7 + k8 + k9 + q1 + q2 + q3 + q4 + q5 + q6 + q7 + q8, [], cd, 0, 0, cd, 0, cd, false, cd, 0, cd, top, below, six, jobsB l0 l1 l2, dem, seven, fun q hq =>
      ⟨e1 q (by omega), f1 q (by omega), hlk q (by omega), e2 q (by omega), f2 q (by omega), e3 q (by omega), f3 q (by omega), e4 q (by omega), f4 q (by omega), e5 q (by omega), f5 q (by omega), e6 q (by omega), f6 q (by omega), e7 q (by omega), f7 q (by omega), e8 q (by omega), f8 q (by omega)⟩, ?_⟩
    exact .bad h0 rfl rfl rfl rfl
end
theorem FnJobs (A : Option Addr) (c : Nat) (code : List Int) (w : World) (hr : Kd.C (Kd.int .u8) w A code.length code) (hc : code.length ≤ c) (hby : ∀ x ∈ code, 0 ≤ x ∧ x ≤ 255) :
    Calls Try.prog 6 #[.slice A code.length c] w fun e w' => e = .returned (.bool true) ∧ Below w.heap.size w w' := by
  by_cases hb : (code.length : Int) > 4096
  · exact laws_FnJobs.big A c code w hr hc (by unfold laws_big.f; rw [decide_eq_true hb])
  · have hbig : laws_big.f code = some false := by unfold laws_big.f; rw [decide_eq_false hb]
    have hco : CodeOk code := ⟨by omega, hby⟩
    obtain ⟨l0, l1, l2, ⟨k1, e1⟩, _⟩ := drawDeadlineSlots_ev hco
    obtain ⟨x0, x1, x2, n, ⟨k2, e2⟩, _⟩ := drawDemandUpTo_ev hco
    obtain ⟨k3, sl, one, lt, tk, two, room, three, can, four, whole, five, top, below, six, are, dem, seven, hrun, htell⟩ := jobs_all l0 l1 l2 x0 x1 x2 n
    exact laws_FnJobs.way (k1 + k2 + k3) A c code l0 l1 l2 x0 x1 x2 n sl one lt tk two room three can four whole five top below six are dem seven w hr hc hbig (e1 _ (by omega)) (e2 _ (by omega)) (hrun _ (by omega)) htell
end Go.Proofs.Ytoakdilhljnjfaa.Pure
namespace Go.Proofs.Ytoakdilhljnjfaa.fnJobs
open Go.ChangeShapes Go.WideShapes Go.ChangeAt Go.RowKit
open Go.ChangeMaps (open_string shut_string)
set_option linter.unusedVariables false
theorem own : ownKnob Try.prog.godebug = none := by kernel_rfl
theorem laidOut : laidOutB Try.prog = true := by kernel_rfl
def IsRow (k : IntKind) (w : World) (a : Option Addr) (len cap : Nat) (zs : List Int) : Prop :=
  (a = none ∧ len = 0 ∧ cap = 0 ∧ zs = []) ∨
  ∃ x, a = some x ∧ len ≤ cap ∧ cap ≤ maxLen ∧ zs.length = cap ∧ (∀ i, i < zs.length → w.cell? (x.add i) = some (.int k (zs.getD i 0))) ∧ ∀ n ∈ zs, (Lit.int k n).wf = true
set_option maxRecDepth 100000 in
theorem lifted (os : Os) (started : os.Started) (H : Type) (enc : TypeId × Value → H) :
    ReturnsInHanded {} Try.checked os 6 .any (Rows.fnJobsSpec.pre6 enc Try.prog Try.f6 Rows.fnJobsRow.domain false) (Rows.fnJobsSpec.post enc Try.prog Try.f6 false true false false) := by
  refine returnsInHanded_of_change_sized (C := Try.checked) own started (by kernel_rfl) Try.func6
    (ChangeSpec.witness6 (enc := enc) (C := Try.checked) false ⟨#[], #[.slice none 0 0], []⟩ 8 (by kernel_rfl) (by kernel_rfl) (by kernel_rfl) (by kernel_rfl)) ?_
  intro W base args ds gs before hval0 hW hcnd hsz0 _
  have hval : ∀ (j : Nat) t v, Try.f6.params[j]? = some t → args[j]? = some v → Value.okWide Try.prog W .any base t v := hval0
  have hW' := hW
  obtain ⟨p, q, hA0, hV, rfl, hfz, hnd⟩ := hW
  have hA : DataW.TrodAll enc Try.prog W 0 (fun _ => true) true Try.f6.params.toList args.toList ds p := hA0
  rw [Try.params6] at hA hval
  obtain ⟨v0, vs0, d0, ds0, p0, q0, hargs, rfl, rfl, h0, r0⟩ := trodAll_cons hA
  obtain ⟨rfl, rfl, rfl⟩ := trodAll_nil r0
  obtain rfl : args = #[v0] := by cases args; simp_all
  obtain ⟨rfl, rfl⟩ := trodVars_none hV
  obtain ⟨a0, len0, cap0, rfl⟩ := okWide_slice Try.underlying45 (hval 0 45 v0 rfl rfl)
  have k0 := h0
  have lt0 : ∀ x ∈ p0, x.block < W.heap.size := by obtain ⟨m, hm⟩ := k0; exact DataW.trod_lt m _ _ _ hm
  obtain ⟨z0, w0⟩ : ∃ zs, IsRow .u8 W a0 len0 cap0 zs := by
    obtain ⟨fuel, hf⟩ := h0
    rcases open_ints Try.underlying45 Try.underlying5 (by kernel_rfl) hf with ⟨hcs, _⟩ | ⟨x, l, c, zs, hcs, _, hl, hm, hz, _, hcell, hwz⟩
    · simp [Value.cells] at hcs
      obtain ⟨rfl, rfl, rfl⟩ := hcs
      exact ⟨[], .inl ⟨rfl, rfl, rfl, rfl⟩⟩
    · simp [Value.cells] at hcs
      obtain ⟨rfl, rfl, rfl⟩ := hcs
      exact ⟨zs, .inr ⟨_, rfl, hl, hm, by simpa using hz, hcell, hwz⟩⟩
  obtain ⟨l0, rfl, hr0, hm0, hw0, hc0⟩ := Go.Proofs.YtoakdilhljnjfaaW.PrintWords.ReadsInt.ofRowC w0
  clear hA0 hval0 hsz0
  refine (Pure.FnJobs _ _ l0 W (Go.Proofs.YtoakdilhljnjfaaW.PrintWords.Kd.C_of_reads (d := (0 : Int)) (h1 := fun _ => rfl) hr0) hc0 (fun x hx => by have := hw0 x hx; simp [Lit.wf, IntKind.min, IntKind.max, IntKind.signed, IntKind.bits] at this; omega)).mono fun e W' ⟨he, bel⟩ => ?_
  subst he
  exact ⟨_, rfl, _, _, _, [], _, [], hW', trodAll_mk1 (shut_bool Try.underlying4 _), (trodAll_cons_mk (Below.trod laidOut (by kernel_rfl) (of_decide_eq_true (by kernel_rfl)) k0 bel lt0) trodAll_mk0), rfl, bel.frame _, fun h => by cases h⟩
theorem over : Rows.fnJobsRow.holds Try.pinned (OpenSpec.ofChange Rows.fnJobsSpec) :=
  OpenClaim.holds_of_wide 6 Try.f6 rfl rfl rfl rfl rfl rfl rfl ⟨rfl, rfl, rfl, rfl, rfl⟩ rfl rfl rfl rfl rfl (by kernel_rfl) Try.func6 (by kernel_rfl)
    (of_decide_eq_true (by kernel_rfl)) (by unfold Func.isWrapper; first | (rw [if_pos (by decide +kernel)]; kernel_rfl) | (rw [if_neg (by decide +kernel)]; exact ⟨rfl, rfl⟩))
    (fun os started H enc _ => lifted os started H enc)
theorem proved : Rows.FnJobsSaid := over
end Go.Proofs.Ytoakdilhljnjfaa.fnJobs
namespace Go.Proofs.Ytoakdilhljnjfaa
theorem fnJobs_holds : Rows.FnJobsSaid := fnJobs.proved
end Go.Proofs.Ytoakdilhljnjfaa
