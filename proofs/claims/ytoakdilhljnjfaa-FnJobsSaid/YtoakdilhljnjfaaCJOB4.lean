/- Jobs can be met exactly if no demand is too great, and none is late then. (Part 4 of 7.) No conditions beside those of the statement. -/
import Derived.Test.YtoakdilhljnjfaaCJOB3
namespace Go.Proofs.Ytoakdilhljnjfaa.Q
open Go.RowKit Go.Proofs.YtoakdilhljnjfaaW.PrintWords Go.Proofs.YtoakdilhljnjfaaW.PrintLast Go.Proofs.YtoakdilhljnjfaaW.PrintMore
attribute [local go_sem] max2_int min2_int max_two min_two max_three min_three max_four min_four   -- for this text's walks alone
set_option linter.unusedVariables false
set_option linter.unusedSimpArgs false
set_option maxHeartbeats 8000000 in
set_option maxRecDepth 100000 in
theorem impl_Jobs_earliest.calls (k : Nat) (A0_0 : Option Addr) (c0_0 : Nat) (l0_0 : List Int) (A0_1 : Option Addr) (c0_1 : Nat) (l0_1 : List Int) (A0_2 : Option Addr) (c0_2 : Nat) (l0_2 : List Int) (r1 : List Int) (r2 : Int) (w : World) (hr0_0 : Kd.C (Kd.int .i64) w A0_0 l0_0.length l0_0) (hc0_0 : l0_0.length ≤ c0_0) (hr0_1 : Kd.C (Kd.int .i64) w A0_1 l0_1.length l0_1) (hc0_1 : l0_1.length ≤ c0_1) (hr0_2 : Kd.C (Kd.int .i64) w A0_2 l0_2.length l0_2) (hc0_2 : l0_2.length ≤ c0_2) (h : impl_Jobs_earliest.f k l0_0 l0_1 l0_2 = some (r1, r2)) :
 Calls Try.prog 67 #[.agg #[.slice A0_0 l0_0.length c0_0, .slice A0_1 l0_1.length c0_1, .slice A0_2 l0_2.length c0_2]] w fun e w' => ∃ v0_ : Value, e = .returned (.tuple #[v0_, .int .i64 r2]) ∧ Kd.R (Kd.int .i64) 2 w' w.heap.size (fun _ => True) v0_ r1 ∧ Below w.heap.size w w' := by
 have hu33 := Try.underlying33
 have HR0_0 := Aside0.mk hr0_0
 have HC0_0 := Aside0.mk hc0_0
 clear hr0_0 hc0_0
 have HR0_1 := Aside0.mk hr0_1
 have HC0_1 := Aside0.mk hc0_1
 clear hr0_1 hc0_1
 have HR0_2 := Aside0.mk hr0_2
 have HC0_2 := Aside0.mk hc0_2
 clear hr0_2 hc0_2
 have HB := Aside0.mk (Below.refl w.heap.size w)
 have H : ((impl_Jobs_many.f l0_0 l0_1 l0_2).bind fun t345 => (if 0 ≤ t345 then (if (t345 : Int).toNat ≤ 35184372088832 then ((impl_Jobs_many.f l0_0 l0_1 l0_2).bind fun t349 => (if 0 ≤ t349 then (if (t349 : Int).toNat ≤ 35184372088832 then (impl_Jobs_earliest.l0 k (List.replicate (t345 : Int).toNat 0) (List.replicate (t349 : Int).toNat 0) ([] : List Int) 0 l0_0 l0_1 l0_2) else (none)) else (none))) else (none)) else (none))) = some (r1, r2) := h
 clear h
 replace H := Option.bind_eq_some_iff.mp H
 obtain ⟨t345, A20, H⟩ := H
 replace H : (if 0 ≤ t345 then (if (t345 : Int).toNat ≤ 35184372088832 then ((impl_Jobs_many.f l0_0 l0_1 l0_2).bind fun t349 => (if 0 ≤ t349 then (if (t349 : Int).toNat ≤ 35184372088832 then (impl_Jobs_earliest.l0 k (List.replicate (t345 : Int).toNat 0) (List.replicate (t349 : Int).toNat 0) ([] : List Int) 0 l0_0 l0_1 l0_2) else (none)) else (none))) else (none)) else (none)) = some (r1, r2) := H
 have A2 := Aside0.mk A20
 clear A20
 by_cases c3 : 0 ≤ t345
 rotate_left
 · rw [if_neg c3] at H
   exact absurd H (by simp)
 rw [if_pos c3] at H
 have c3b0 := eq_true c3
 have c3b1 : decide (0 ≤ t345) = true := decide_eq_true c3
 clear c3
 by_cases c4 : (t345 : Int).toNat ≤ 35184372088832
 rotate_left
 · rw [if_neg c4] at H
   exact absurd H (by simp)
 rw [if_pos c4] at H
 have c4b0 := eq_true c4
 have c4b1 : decide ((t345 : Int).toNat ≤ 35184372088832) = true := decide_eq_true c4
 clear c4
 obtain ⟨y346, hy346⟩ : ∃ y_ : List Int, y_ = (List.replicate (t345 : Int).toNat 0) := ⟨_, rfl⟩
 replace H : ((impl_Jobs_many.f l0_0 l0_1 l0_2).bind fun t349 => (if 0 ≤ t349 then (if (t349 : Int).toNat ≤ 35184372088832 then (impl_Jobs_earliest.l0 k y346 (List.replicate (t349 : Int).toNat 0) ([] : List Int) 0 l0_0 l0_1 l0_2) else (none)) else (none))) = some (r1, r2) := by (rw [hy346]; with_reducible exact H)
 have Ny346 := Aside0.mk hy346
 clear hy346
 replace H := Option.bind_eq_some_iff.mp H
 obtain ⟨t349, A50, H⟩ := H
 replace H : (if 0 ≤ t349 then (if (t349 : Int).toNat ≤ 35184372088832 then (impl_Jobs_earliest.l0 k y346 (List.replicate (t349 : Int).toNat 0) ([] : List Int) 0 l0_0 l0_1 l0_2) else (none)) else (none)) = some (r1, r2) := H
 have A5 := Aside0.mk A50
 clear A50
 by_cases c6 : 0 ≤ t349
 rotate_left
 · rw [if_neg c6] at H
   exact absurd H (by simp)
 rw [if_pos c6] at H
 have c6b0 := eq_true c6
 have c6b1 : decide (0 ≤ t349) = true := decide_eq_true c6
 clear c6
 by_cases c7 : (t349 : Int).toNat ≤ 35184372088832
 rotate_left
 · rw [if_neg c7] at H
   exact absurd H (by simp)
 rw [if_pos c7] at H
 have c7b0 := eq_true c7
 have c7b1 : decide ((t349 : Int).toNat ≤ 35184372088832) = true := decide_eq_true c7
 clear c7
 obtain ⟨y350, hy350⟩ : ∃ y_ : List Int, y_ = (List.replicate (t349 : Int).toNat 0) := ⟨_, rfl⟩
 replace H : (impl_Jobs_earliest.l0 k y346 y350 ([] : List Int) 0 l0_0 l0_1 l0_2) = some (r1, r2) := by (rw [hy350]; with_reducible exact H)
 have Ny350 := Aside0.mk hy350
 clear hy350
 have H' := Aside0.mk H
 clear H
 go_enter Try.func67, Try.ntmps67
 try go_wp2_with (((with_reducible refine gate_dst (N := 1) rfl ?_); refine box_event ?hg (N := 1) ?hd (cs := #[.slice A0_0 l0_0.length c0_0, .slice A0_1 l0_1.length c0_1, .slice A0_2 l0_2.length c0_2]) (t := 33) ?hr ?_; (case hd => rfl); (case hg => rfl); (case hr => (go_simp; done)); intro gb344 hg w8 hbox hb; have n0_ := Aside0.mk (below_step HB.out hb); have n1_ := Aside0.mk (hbox); have n2_ := Aside0.mk ((by rw [hg]; exact (below_size HB.out) : w.heap.size ≤ gb344)); have n3_ := Aside0.mk ((by rw [hg]; exact (below_size HB.out) : w.heap.size ≤ gb344)); clear HB; have HB := n0_; have BK344 := n1_; have GW344 := n2_; have GE344 := n3_; clear n0_ n1_ n2_ n3_; clear hb hbox hg))
 have n0_ := Aside0.mk (blk_drew BK344.out)
 have n1_ := Aside0.mk (below_drew1 HB.out)
 clear BK344
 clear HB
 have BK344 := n0_
 have HB := n1_
 clear n0_ n1_
 refine start_ (n := 8) (S := fun w' => w'.cell? ⟨gb344, 0, none⟩ = some (.slice A0_0 l0_0.length c0_0) ∧ w'.cell? ⟨gb344, 1, none⟩ = some (.slice A0_1 l0_1.length c0_1) ∧ w'.cell? ⟨gb344, 2, none⟩ = some (.slice A0_2 l0_2.length c0_2)) (ds := []) bQ67_0 (by kernel_rfl) rfl rfl ⟨(blk_cell BK344.out 0).trans rfl, (blk_cell BK344.out 1).trans rfl, (blk_cell BK344.out 2).trans rfl⟩ (fun hHeld => ?_); refine with_tabW impl_Jobs_earliest.tab1 impl_Jobs_earliest.bits1 (fun HT_ HW_ => ?_)
 generalize w8.drew = w9 at BK344 HB hHeld ⊢
 refine take_ (i := 0) (N := some 12) (v := ?_) (a' := ?_) bQ67_1 rfl rfl (take_ofW HT_.out HW_.out (by kernel_rfl)) (fun _ _ _ h => h) (Or.inl ⟨by rfl, ?_⟩) hHeld ?_ ?_
 rotate_left
 · rintro w' ⟨s0, s1, s2⟩
   go_simp
   with_reducible rfl
 rotate_left
 · simp only [Act.put, List.setIfInBounds_toArray, List.set_cons_zero, List.set_cons_succ, i64_w, i32_w]
   rfl
 refine take_ (i := 3) (N := some 15) (v := ?_) (a' := ?_) bQ67_2 rfl rfl (take_ofW HT_.out HW_.out (by kernel_rfl)) (fun _ _ _ h => h) (Or.inl ⟨by rfl, ?_⟩) hHeld ?_ ?_
 rotate_left
 · rintro w' ⟨s0, s1, s2⟩
   go_simp
   with_reducible rfl
 rotate_left
 · simp only [Act.put, List.setIfInBounds_toArray, List.set_cons_zero, List.set_cons_succ, i64_w, i32_w]
   rfl
 refine one_ (i := 1) (N := some 13) bQ67_3 rfl rfl (one_of HT_.out (by kernel_rfl)) (by decide) (fun K hK => ?_)
 refine goes_ Try.func76 (by kernel_rfl) rfl #[.agg #[.slice A0_0 l0_0.length c0_0, .slice A0_1 l0_1.length c0_1, .slice A0_2 l0_2.length c0_2]] (by rfl) rfl rfl (by (try simp only [List.map_toArray, List.map_cons, List.map_nil]); rfl) ?_
 with_reducible refine (impl_Jobs_many.calls _ _ l0_0 _ _ l0_1 _ _ l0_2 t345 _ ?side1 ?side2 ?side3 ?side4 ?side5 ?side6 A2.out).mono ?_
 (case side1 => exact (Kd.C_below HR0_0.out HB.out))
 (case side2 => exact HC0_0.out)
 (case side3 => exact (Kd.C_below HR0_1.out HB.out))
 (case side4 => exact HC0_1.out)
 (case side5 => exact (Kd.C_below HR0_2.out HB.out))
 (case side6 => exact HC0_2.out)
 rintro e w10 ⟨rfl, hb⟩
 refine ⟨_, rfl, ?_⟩
 have n0_ := Aside0.mk (blk_below (g := gb344) (o := .cells #[.slice A0_0 l0_0.length c0_0, .slice A0_1 l0_1.length c0_1, .slice A0_2 l0_2.length c0_2] 33 (0, 0)) BK344.out hb)
 have n1_ := Aside0.mk (below_step HB.out hb)
 clear BK344
 clear HB
 have BK344 := n0_
 have HB := n1_
 clear n0_ n1_
 (try clear hb)
 (try clear hb2)
 (try clear hk)
 (try clear hi)
 refine hK.out _ _ ⟨(blk_cell BK344.out 0).trans rfl, (blk_cell BK344.out 1).trans rfl, (blk_cell BK344.out 2).trans rfl⟩ (fun hHeld => ?_)
 clear hK K
 refine norm_ (a' := ?_) ?_ ?_
 rotate_left
 · show Act.put _ (some 13) _ = _
   simp only [Act.put, List.setIfInBounds_toArray, List.set_cons_zero, List.set_cons_succ, i64_w, i32_w]
   rfl
 refine join_ (σ := Value × Value) 1 bQ67_4 (fun s_ => [(14, s_.1), (16, .int .i64 t349), (17, s_.2), (4, s_.1)]) (fun s_ w' => (w'.cell? ⟨gb344, 0, none⟩ = some (.slice A0_0 l0_0.length c0_0) ∧ w'.cell? ⟨gb344, 1, none⟩ = some (.slice A0_1 l0_1.length c0_1) ∧ w'.cell? ⟨gb344, 2, none⟩ = some (.slice A0_2 l0_2.length c0_2)) ∧ (Kd.R (Kd.int .i64) 2 w' w.heap.size (fun k_ => some k_ ≠ (s_.2 : Value).ownBlock) s_.1 y346) ∧ (Kd.R (Kd.int .i64) 2 w' w.heap.size (fun k_ => some k_ ≠ (s_.1 : Value).ownBlock) s_.2 y350) ∧ (w'.heap[gb344]? = some (.cells #[.slice A0_0 l0_0.length c0_0, .slice A0_1 l0_1.length c0_1, .slice A0_2 l0_2.length c0_2] 33 (0, 0))) ∧ (Below w.heap.size w w')) ?_ ?_
 rotate_left
 · intro hCont
   refine two_ (i := 2) (j := 4) (Ni := some 14) (Nj := some 16) bQ67_5 bQ67_6 rfl rfl rfl rfl (two_of HT_.out (by kernel_rfl)) (by decide) (by decide) (fun K hK => ?_) (fun K hK => ?_)
   · skip
     refine Kd.R_make_step (Kd.int .i64) _ 2 (by rfl) (N := 14) rfl 22 _ _ rfl t345 rfl rfl Try.underlying22 (.int .i64 0) 8 info2 rfl (by decide) (by omega) 0 (ok := fun _ => True) (okp := fun _ => True) rfl (fun _ hk => hk) trivial (of_decide_eq_true (by (with_reducible assumption))) (Nat.le_trans (Nat.mul_le_mul_right _ (of_decide_eq_true (by (with_reducible assumption)) : t345.toNat ≤ 35184372088832)) (by omega)) (Below.refl _ _) (Nat.le_refl _) ?_
     intro v347 w11 ho12 hb hg_ hnew_
     clear hg_ hnew_
     (rw [← Ny346.out] at ho12)
     have n0_ := Aside0.mk (Kd.R_lower ho12 (below_size HB.out))
     have n1_ := Aside0.mk (blk_below (g := gb344) (o := .cells #[.slice A0_0 l0_0.length c0_0, .slice A0_1 l0_1.length c0_1, .slice A0_2 l0_2.length c0_2] 33 (0, 0)) BK344.out hb)
     have n2_ := Aside0.mk (below_step HB.out hb)
     clear BK344
     clear HB
     have HO348 := n0_
     have BK344 := n1_
     have HB := n2_
     clear n0_ n1_ n2_
     clear hb ho12
     refine hK.out _ _ ⟨(blk_cell BK344.out 0).trans rfl, (blk_cell BK344.out 1).trans rfl, (blk_cell BK344.out 2).trans rfl⟩ (fun hHeld => ?_)
     clear hK K
     refine norm_ (a' := ?_) ?_ ?_
     rotate_left
     · show Act.put _ (some 14) _ = _
       simp only [Act.put, List.setIfInBounds_toArray, List.set_cons_zero, List.set_cons_succ, i64_w, i32_w]
       rfl
     refine one_ (i := 4) (N := some 16) bQ67_7 rfl rfl (one_of HT_.out (by kernel_rfl)) (by decide) (fun K hK => ?_)
     refine goes_ Try.func76 (by kernel_rfl) rfl #[.agg #[.slice A0_0 l0_0.length c0_0, .slice A0_1 l0_1.length c0_1, .slice A0_2 l0_2.length c0_2]] (by rfl) rfl rfl (by (try simp only [List.map_toArray, List.map_cons, List.map_nil]); rfl) ?_
     with_reducible refine (impl_Jobs_many.calls _ _ l0_0 _ _ l0_1 _ _ l0_2 t349 _ ?side1 ?side2 ?side3 ?side4 ?side5 ?side6 A5.out).mono ?_
     (case side1 => exact (Kd.C_below HR0_0.out HB.out))
     (case side2 => exact HC0_0.out)
     (case side3 => exact (Kd.C_below HR0_1.out HB.out))
     (case side4 => exact HC0_1.out)
     (case side5 => exact (Kd.C_below HR0_2.out HB.out))
     (case side6 => exact HC0_2.out)
     rintro e w13 ⟨rfl, hb⟩
     refine ⟨_, rfl, ?_⟩
     have n0_ := Aside0.mk (Kd.R_below HO348.out hb)
     have n1_ := Aside0.mk (blk_below (g := gb344) (o := .cells #[.slice A0_0 l0_0.length c0_0, .slice A0_1 l0_1.length c0_1, .slice A0_2 l0_2.length c0_2] 33 (0, 0)) BK344.out hb)
     have n2_ := Aside0.mk (below_step HB.out hb)
     clear HO348
     clear BK344
     clear HB
     have HO348 := n0_
     have BK344 := n1_
     have HB := n2_
     clear n0_ n1_ n2_
     (try clear hb)
     (try clear hb2)
     (try clear hk)
     (try clear hi)
     refine hK.out _ _ ⟨(blk_cell BK344.out 0).trans rfl, (blk_cell BK344.out 1).trans rfl, (blk_cell BK344.out 2).trans rfl⟩ (fun hHeld => ?_)
     clear hK K
     refine norm_ (a' := ?_) ?_ ?_
     rotate_left
     · show Act.put _ (some 16) _ = _
       simp only [Act.put, List.setIfInBounds_toArray, List.set_cons_zero, List.set_cons_succ, i64_w, i32_w]
       rfl
     refine pure_ (i := 6) (N := some 4) (v := ?_) (a' := ?_) bQ67_8 rfl rfl (any_of HT_.out (by kernel_rfl)) (fun _ _ _ h => h) (Or.inl ⟨by rfl, ?_⟩) ?_ ?_
     rotate_left
     · intro w'
       go_simp
       with_reducible rfl
     rotate_left
     · simp only [Act.put, List.setIfInBounds_toArray, List.set_cons_zero, List.set_cons_succ, i64_w, i32_w]
       rfl
     refine one_ (i := 5) (N := some 17) bQ67_4 rfl rfl (one_of HT_.out (by kernel_rfl)) (by decide) (fun K hK => ?_)
     refine Kd.R_make_step (Kd.int .i64) _ 2 (by rfl) (N := 17) rfl 22 _ _ rfl t349 rfl rfl Try.underlying22 (.int .i64 0) 8 info2 rfl (by decide) (by omega) 0 (ok := fun _ => True) (okp := fun _ => True) rfl (fun _ hk => hk) trivial (of_decide_eq_true (by (with_reducible assumption))) (Nat.le_trans (Nat.mul_le_mul_right _ (of_decide_eq_true (by (with_reducible assumption)) : t349.toNat ≤ 35184372088832)) (by omega)) (Below.refl _ _) (Nat.le_refl _) ?_
     intro v351 w14 ho15 hb hg_ hnew_
     clear hg_ hnew_
     (rw [← Ny350.out] at ho15)
     have n0_ := Aside0.mk (Kd.R_elder' HO348.out (Kd.R_base ho15) hb)
     have n1_ := Aside0.mk (Kd.R_lower (Kd.R_new' ho15 (Kd.R_lt HO348.out)) (below_size HB.out))
     have n2_ := Aside0.mk (blk_below (g := gb344) (o := .cells #[.slice A0_0 l0_0.length c0_0, .slice A0_1 l0_1.length c0_1, .slice A0_2 l0_2.length c0_2] 33 (0, 0)) BK344.out hb)
     have n3_ := Aside0.mk (below_step HB.out hb)
     clear HO348
     clear BK344
     clear HB
     have HO348 := n0_
     have HO352 := n1_
     have BK344 := n2_
     have HB := n3_
     clear n0_ n1_ n2_ n3_
     clear hb ho15
     refine hK.out _ _ ⟨(blk_cell BK344.out 0).trans rfl, (blk_cell BK344.out 1).trans rfl, (blk_cell BK344.out 2).trans rfl⟩ (fun hHeld => ?_)
     clear hK K
     refine norm_ (a' := ?_) ?_ ?_
     rotate_left
     · show Act.put _ (some 17) _ = _
       simp only [Act.put, List.setIfInBounds_toArray, List.set_cons_zero, List.set_cons_succ, i64_w, i32_w]
       rfl
     exact norm_ (by simp only [putAll, Act.put, List.setIfInBounds_toArray, List.set_cons_zero, List.set_cons_succ]) (hCont (v347, v351) _ ⟨hHeld, (by exact Kd.R_mono HO348.out (fun _ hk => hk.2)), (by exact Kd.R_mono HO352.out (fun _ hk => hk.2)), BK344.out, HB.out⟩)
   skip
   refine goes_ Try.func76 (by kernel_rfl) rfl #[.agg #[.slice A0_0 l0_0.length c0_0, .slice A0_1 l0_1.length c0_1, .slice A0_2 l0_2.length c0_2]] (by rfl) rfl rfl (by (try simp only [List.map_toArray, List.map_cons, List.map_nil]); rfl) ?_
   with_reducible refine (impl_Jobs_many.calls _ _ l0_0 _ _ l0_1 _ _ l0_2 t349 _ ?side1 ?side2 ?side3 ?side4 ?side5 ?side6 A5.out).mono ?_
   (case side1 => exact (Kd.C_below HR0_0.out HB.out))
   (case side2 => exact HC0_0.out)
   (case side3 => exact (Kd.C_below HR0_1.out HB.out))
   (case side4 => exact HC0_1.out)
   (case side5 => exact (Kd.C_below HR0_2.out HB.out))
   (case side6 => exact HC0_2.out)
   rintro e w11 ⟨rfl, hb⟩
   refine ⟨_, rfl, ?_⟩
   have n0_ := Aside0.mk (blk_below (g := gb344) (o := .cells #[.slice A0_0 l0_0.length c0_0, .slice A0_1 l0_1.length c0_1, .slice A0_2 l0_2.length c0_2] 33 (0, 0)) BK344.out hb)
   have n1_ := Aside0.mk (below_step HB.out hb)
   clear BK344
   clear HB
   have BK344 := n0_
   have HB := n1_
   clear n0_ n1_
   (try clear hb)
   (try clear hb2)
   (try clear hk)
   (try clear hi)
   refine hK.out _ _ ⟨(blk_cell BK344.out 0).trans rfl, (blk_cell BK344.out 1).trans rfl, (blk_cell BK344.out 2).trans rfl⟩ (fun hHeld => ?_)
   clear hK K
   refine norm_ (a' := ?_) ?_ ?_
   rotate_left
   · show Act.put _ (some 16) _ = _
     simp only [Act.put, List.setIfInBounds_toArray, List.set_cons_zero, List.set_cons_succ, i64_w, i32_w]
     rfl
   refine two_ (i := 2) (j := 5) (Ni := some 14) (Nj := some 17) bQ67_7 bQ67_9 rfl rfl rfl rfl (two_of HT_.out (by kernel_rfl)) (by decide) (by decide) (fun K hK => ?_) (fun K hK => ?_)
   · skip
     refine Kd.R_make_step (Kd.int .i64) _ 2 (by rfl) (N := 14) rfl 22 _ _ rfl t345 rfl rfl Try.underlying22 (.int .i64 0) 8 info2 rfl (by decide) (by omega) 0 (ok := fun _ => True) (okp := fun _ => True) rfl (fun _ hk => hk) trivial (of_decide_eq_true (by (with_reducible assumption))) (Nat.le_trans (Nat.mul_le_mul_right _ (of_decide_eq_true (by (with_reducible assumption)) : t345.toNat ≤ 35184372088832)) (by omega)) (Below.refl _ _) (Nat.le_refl _) ?_
     intro v347 w12 ho13 hb hg_ hnew_
     clear hg_ hnew_
     (rw [← Ny346.out] at ho13)
     have n0_ := Aside0.mk (Kd.R_lower ho13 (below_size HB.out))
     have n1_ := Aside0.mk (blk_below (g := gb344) (o := .cells #[.slice A0_0 l0_0.length c0_0, .slice A0_1 l0_1.length c0_1, .slice A0_2 l0_2.length c0_2] 33 (0, 0)) BK344.out hb)
     have n2_ := Aside0.mk (below_step HB.out hb)
     clear BK344
     clear HB
     have HO348 := n0_
     have BK344 := n1_
     have HB := n2_
     clear n0_ n1_ n2_
     clear hb ho13
     refine hK.out _ _ ⟨(blk_cell BK344.out 0).trans rfl, (blk_cell BK344.out 1).trans rfl, (blk_cell BK344.out 2).trans rfl⟩ (fun hHeld => ?_)
     clear hK K
     refine norm_ (a' := ?_) ?_ ?_
     rotate_left
     · show Act.put _ (some 14) _ = _
       simp only [Act.put, List.setIfInBounds_toArray, List.set_cons_zero, List.set_cons_succ, i64_w, i32_w]
       rfl
     refine pure_ (i := 6) (N := some 4) (v := ?_) (a' := ?_) bQ67_8 rfl rfl (any_of HT_.out (by kernel_rfl)) (fun _ _ _ h => h) (Or.inl ⟨by rfl, ?_⟩) ?_ ?_
     rotate_left
     · intro w'
       go_simp
       with_reducible rfl
     rotate_left
     · simp only [Act.put, List.setIfInBounds_toArray, List.set_cons_zero, List.set_cons_succ, i64_w, i32_w]
       rfl
     refine one_ (i := 5) (N := some 17) bQ67_4 rfl rfl (one_of HT_.out (by kernel_rfl)) (by decide) (fun K hK => ?_)
     refine Kd.R_make_step (Kd.int .i64) _ 2 (by rfl) (N := 17) rfl 22 _ _ rfl t349 rfl rfl Try.underlying22 (.int .i64 0) 8 info2 rfl (by decide) (by omega) 0 (ok := fun _ => True) (okp := fun _ => True) rfl (fun _ hk => hk) trivial (of_decide_eq_true (by (with_reducible assumption))) (Nat.le_trans (Nat.mul_le_mul_right _ (of_decide_eq_true (by (with_reducible assumption)) : t349.toNat ≤ 35184372088832)) (by omega)) (Below.refl _ _) (Nat.le_refl _) ?_
     intro v351 w14 ho15 hb hg_ hnew_
     clear hg_ hnew_
     (rw [← Ny350.out] at ho15)
     have n0_ := Aside0.mk (Kd.R_elder' HO348.out (Kd.R_base ho15) hb)
     have n1_ := Aside0.mk (Kd.R_lower (Kd.R_new' ho15 (Kd.R_lt HO348.out)) (below_size HB.out))
     have n2_ := Aside0.mk (blk_below (g := gb344) (o := .cells #[.slice A0_0 l0_0.length c0_0, .slice A0_1 l0_1.length c0_1, .slice A0_2 l0_2.length c0_2] 33 (0, 0)) BK344.out hb)
     have n3_ := Aside0.mk (below_step HB.out hb)
     clear HO348
     clear BK344
     clear HB
     have HO348 := n0_
     have HO352 := n1_
     have BK344 := n2_
     have HB := n3_
     clear n0_ n1_ n2_ n3_
     clear hb ho15
     refine hK.out _ _ ⟨(blk_cell BK344.out 0).trans rfl, (blk_cell BK344.out 1).trans rfl, (blk_cell BK344.out 2).trans rfl⟩ (fun hHeld => ?_)
     clear hK K
     refine norm_ (a' := ?_) ?_ ?_
     rotate_left
     · show Act.put _ (some 17) _ = _
       simp only [Act.put, List.setIfInBounds_toArray, List.set_cons_zero, List.set_cons_succ, i64_w, i32_w]
       rfl
     exact norm_ (by simp only [putAll, Act.put, List.setIfInBounds_toArray, List.set_cons_zero, List.set_cons_succ]) (hCont (v347, v351) _ ⟨hHeld, (by exact Kd.R_mono HO348.out (fun _ hk => hk.2)), (by exact Kd.R_mono HO352.out (fun _ hk => hk.2)), BK344.out, HB.out⟩)
   skip
   refine Kd.R_make_step (Kd.int .i64) _ 2 (by rfl) (N := 17) rfl 22 _ _ rfl t349 rfl rfl Try.underlying22 (.int .i64 0) 8 info2 rfl (by decide) (by omega) 0 (ok := fun _ => True) (okp := fun _ => True) rfl (fun _ hk => hk) trivial (of_decide_eq_true (by (with_reducible assumption))) (Nat.le_trans (Nat.mul_le_mul_right _ (of_decide_eq_true (by (with_reducible assumption)) : t349.toNat ≤ 35184372088832)) (by omega)) (Below.refl _ _) (Nat.le_refl _) ?_
   intro v351 w12 ho13 hb hg_ hnew_
   clear hg_ hnew_
   (rw [← Ny350.out] at ho13)
   have n0_ := Aside0.mk (Kd.R_lower ho13 (below_size HB.out))
   have n1_ := Aside0.mk (blk_below (g := gb344) (o := .cells #[.slice A0_0 l0_0.length c0_0, .slice A0_1 l0_1.length c0_1, .slice A0_2 l0_2.length c0_2] 33 (0, 0)) BK344.out hb)
   have n2_ := Aside0.mk (below_step HB.out hb)
   clear BK344
   clear HB
   have HO352 := n0_
   have BK344 := n1_
   have HB := n2_
   clear n0_ n1_ n2_
   clear hb ho13
   refine hK.out _ _ ⟨(blk_cell BK344.out 0).trans rfl, (blk_cell BK344.out 1).trans rfl, (blk_cell BK344.out 2).trans rfl⟩ (fun hHeld => ?_)
   clear hK K
   refine norm_ (a' := ?_) ?_ ?_
   rotate_left
   · show Act.put _ (some 17) _ = _
     simp only [Act.put, List.setIfInBounds_toArray, List.set_cons_zero, List.set_cons_succ, i64_w, i32_w]
     rfl
   refine one_ (i := 2) (N := some 14) bQ67_10 rfl rfl (one_of HT_.out (by kernel_rfl)) (by decide) (fun K hK => ?_)
   refine Kd.R_make_step (Kd.int .i64) _ 2 (by rfl) (N := 14) rfl 22 _ _ rfl t345 rfl rfl Try.underlying22 (.int .i64 0) 8 info2 rfl (by decide) (by omega) 0 (ok := fun _ => True) (okp := fun _ => True) rfl (fun _ hk => hk) trivial (of_decide_eq_true (by (with_reducible assumption))) (Nat.le_trans (Nat.mul_le_mul_right _ (of_decide_eq_true (by (with_reducible assumption)) : t345.toNat ≤ 35184372088832)) (by omega)) (Below.refl _ _) (Nat.le_refl _) ?_
   intro v347 w14 ho15 hb hg_ hnew_
   clear hg_ hnew_
   (rw [← Ny346.out] at ho15)
   have n0_ := Aside0.mk (Kd.R_elder' HO352.out (Kd.R_base ho15) hb)
   have n1_ := Aside0.mk (Kd.R_lower (Kd.R_new' ho15 (Kd.R_lt HO352.out)) (below_size HB.out))
   have n2_ := Aside0.mk (blk_below (g := gb344) (o := .cells #[.slice A0_0 l0_0.length c0_0, .slice A0_1 l0_1.length c0_1, .slice A0_2 l0_2.length c0_2] 33 (0, 0)) BK344.out hb)
   have n3_ := Aside0.mk (below_step HB.out hb)
   clear HO352
   clear BK344
   clear HB
   have HO352 := n0_
   have HO348 := n1_
   have BK344 := n2_
   have HB := n3_
   clear n0_ n1_ n2_ n3_
   clear hb ho15
   refine hK.out _ _ ⟨(blk_cell BK344.out 0).trans rfl, (blk_cell BK344.out 1).trans rfl, (blk_cell BK344.out 2).trans rfl⟩ (fun hHeld => ?_)
   clear hK K
   refine norm_ (a' := ?_) ?_ ?_
   rotate_left
   · show Act.put _ (some 14) _ = _
     simp only [Act.put, List.setIfInBounds_toArray, List.set_cons_zero, List.set_cons_succ, i64_w, i32_w]
     rfl
   refine pure_ (i := 6) (N := some 4) (v := ?_) (a' := ?_) bQ67_4 rfl rfl (any_of HT_.out (by kernel_rfl)) (fun _ _ _ h => h) (Or.inl ⟨by rfl, ?_⟩) ?_ ?_
   rotate_left
   · intro w'
     go_simp
     with_reducible rfl
   rotate_left
   · simp only [Act.put, List.setIfInBounds_toArray, List.set_cons_zero, List.set_cons_succ, i64_w, i32_w]
     rfl
   exact norm_ (by simp only [putAll, Act.put, List.setIfInBounds_toArray, List.set_cons_zero, List.set_cons_succ]) (hCont (v347, v351) _ ⟨hHeld, (by exact Kd.R_mono HO348.out (fun _ hk => hk.2)), (by exact Kd.R_mono HO352.out (fun _ hk => hk.2)), BK344.out, HB.out⟩)
 rintro ⟨v347, v351⟩ w16 ⟨hS_, h0_, h1_, h2_, h3_⟩
 have n0_ : Aside0 (Kd.R (Kd.int .i64) 2 w16 w.heap.size (fun k_ => some k_ ≠ (v351 : Value).ownBlock) v347 y346) := ⟨h0_⟩
 have n1_ : Aside0 (Kd.R (Kd.int .i64) 2 w16 w.heap.size (fun k_ => some k_ ≠ (v347 : Value).ownBlock) v351 y350) := ⟨h1_⟩
 have n2_ : Aside0 (w16.heap[gb344]? = some (.cells #[.slice A0_0 l0_0.length c0_0, .slice A0_1 l0_1.length c0_1, .slice A0_2 l0_2.length c0_2] 33 (0, 0))) := ⟨h2_⟩
 have n3_ : Aside0 (Below w.heap.size w w16) := ⟨h3_⟩
 clear BK344
 clear HB
 clear h0_ h1_ h2_ h3_
 have HO348 := n0_
 have HO352 := n1_
 have BK344 := n2_
 have HB := n3_
 clear n0_ n1_ n2_ n3_
 have hHeld : w16.cell? ⟨gb344, 0, none⟩ = some (.slice A0_0 l0_0.length c0_0) ∧ w16.cell? ⟨gb344, 1, none⟩ = some (.slice A0_1 l0_1.length c0_1) ∧ w16.cell? ⟨gb344, 2, none⟩ = some (.slice A0_2 l0_2.length c0_2) := hS_
 refine norm_ (a' := ?_) ?_ ?_
 rotate_left
 · simp only [putAll, Act.put, List.setIfInBounds_toArray, List.set_cons_zero, List.set_cons_succ]
   rfl
 refine pure_ (i := 7) (N := some 5) (v := ?_) (a' := ?_) bQ67_11 rfl rfl (any_of HT_.out (by kernel_rfl)) (fun _ _ _ h => h) (Or.inl ⟨by rfl, ?_⟩) ?_ ?_
 rotate_left
 · intro w'
   go_simp
   with_reducible rfl
 rotate_left
 · simp only [Act.put, List.setIfInBounds_toArray, List.set_cons_zero, List.set_cons_succ, i64_w, i32_w]
   rfl
 refine done_ (done_of HT_.out (by kernel_rfl)) ?_
 try go_wp2
 go_loopg [6, 7] k (fun kq v6 v7 w' => ∃ (x4_1 : List Int) (x5_1 : List Int) (x6_1 : List Int) (x7_1 : Int), v7 = .int .i64 x7_1 ∧ Aside0 (impl_Jobs_earliest.l0 kq x4_1 x5_1 x6_1 x7_1 l0_0 l0_1 l0_2 = some (r1, r2)) ∧ Aside0 (kq ≤ k) ∧ Aside0 (Kd.R (Kd.int .i64) 2 w' w.heap.size (fun k_ => some k_ ≠ (v351 : Value).ownBlock ∧ some k_ ≠ (v6 : Value).ownBlock) v347 x4_1) ∧ Aside0 (Kd.R (Kd.int .i64) 2 w' w.heap.size (fun k_ => some k_ ≠ (v347 : Value).ownBlock ∧ some k_ ≠ (v6 : Value).ownBlock) v351 x5_1) ∧ Aside0 (Kd.R (Kd.int .i64) 2 w' w.heap.size (fun k_ => some k_ ≠ (v347 : Value).ownBlock ∧ some k_ ≠ (v351 : Value).ownBlock) v6 x6_1) ∧ Aside0 (w'.heap[gb344]? = some (.cells #[(.slice A0_0 l0_0.length c0_0), (.slice A0_1 l0_1.length c0_1), (.slice A0_2 l0_2.length c0_2)] 33 (0, 0))) ∧ Aside0 (Below w.heap.size w w'))
 case atStart => exact ⟨(y346), (y350), (([] : List Int)), (0), (by rfl), H', ⟨Nat.le_refl _⟩, ⟨by exact Kd.R_mono HO348.out (fun _ hk => ⟨hk, (by simp [Value.ownBlock])⟩)⟩, ⟨by exact Kd.R_mono HO352.out (fun _ hk => ⟨hk, (by simp [Value.ownBlock])⟩)⟩, ⟨by exact Kd.R_nil _ _ _ _ _⟩, ⟨by exact BK344.out⟩, ⟨by exact HB.out⟩⟩
 clear H'
 clear c3b0 c3b1 c4b0 c4b1 c6b0 c6b1 c7b0 c7b1
 obtain ⟨x4_1, x5_1, x6_1, x7_1, rfl, HA, HK1, HO_4, HO_5, HO_6, BK344, HB⟩ := hrel
 cases gk with
 | zero => exact absurd HA.out (by simp [impl_Jobs_earliest.l0])
 | succ k1 =>
  have H := HA.out
  clear HA
  simp only [impl_Jobs_earliest.l0] at H
  have H' := Aside0.mk H
  clear H
  obtain ⟨Ao17, co17, eo17⟩ := Kd.R_slice HO_4.out
  subst eo17
  go_wp2
  go_loopg [22] k1 (fun kq v22 w' => ∃ (x22_2 : Int), v22 = .int .i64 x22_2 ∧ Aside0 (impl_Jobs_earliest.l1 kq x4_1 x5_1 x6_1 x7_1 (x4_1.length : Int) x22_2 l0_0 l0_1 l0_2 = some (r1, r2)) ∧ Aside0 (kq ≤ k1) ∧ Aside0 (Kd.R (Kd.int .i64) 2 w' w.heap.size (fun k_ => some k_ ≠ (v351 : Value).ownBlock ∧ some k_ ≠ (u6 : Value).ownBlock) (.slice Ao17 x4_1.length co17) x4_1) ∧ Aside0 (Kd.R (Kd.int .i64) 2 w' w.heap.size (fun k_ => some k_ ≠ ((.slice Ao17 x4_1.length co17) : Value).ownBlock ∧ some k_ ≠ (u6 : Value).ownBlock) v351 x5_1) ∧ Aside0 (Kd.R (Kd.int .i64) 2 w' w.heap.size (fun k_ => some k_ ≠ ((.slice Ao17 x4_1.length co17) : Value).ownBlock ∧ some k_ ≠ (v351 : Value).ownBlock) u6 x6_1) ∧ Aside0 (w'.heap[gb344]? = some (.cells #[(.slice A0_0 l0_0.length c0_0), (.slice A0_1 l0_1.length c0_1), (.slice A0_2 l0_2.length c0_2)] 33 (0, 0))) ∧ Aside0 (Below w.heap.size w w'))
  case atStart => exact ⟨(0), (by rfl), H', ⟨Nat.le_refl _⟩, ⟨by exact HO_4.out⟩, ⟨by exact HO_5.out⟩, ⟨by exact HO_6.out⟩, ⟨by exact BK344.out⟩, ⟨by exact HB.out⟩⟩
  clear H'
  obtain ⟨x22_2, rfl, HA, HK2, HO_4, HO_5, HO_6, BK344, HB⟩ := hrel
  cases gk with
  | zero => exact absurd HA.out (by simp [impl_Jobs_earliest.l1])
  | succ k2 =>
   have H := HA.out
   clear HA
   simp only [impl_Jobs_earliest.l1] at H
   by_cases c18 : x22_2 < (x4_1.length : Int)
   · rw [if_pos c18] at H
     have c18b0 : decide (x22_2 < (x4_1.length : Int)) = true := decide_eq_true c18
     clear c18
     by_cases c19 : 0 ≤ x22_2
     rotate_left
     · rw [if_neg c19] at H
       exact absurd H (by simp)
     rw [if_pos c19] at H
     have c19b0 : decide (0 ≤ x22_2) = true := decide_eq_true c19
     clear c19
     by_cases c20 : x22_2 < (x4_1.length : Int)
     rotate_left
     · rw [if_neg c20] at H
       exact absurd H (by simp)
     rw [if_pos c20] at H
     have c20b0 : decide (x22_2 < (x4_1.length : Int)) = true := decide_eq_true c20
     clear c20
     by_cases c21 : (rd x4_1 x22_2) > 0
     rotate_left
     · rw [if_neg c21] at H
       have c21b0 : decide (0 < (rd x4_1 x22_2)) = false := decide_eq_false c21
       clear c21
       have H' := Aside0.mk H
       clear H
       have p353 : 0 ≤ (x22_2 : Int) := of_decide_eq_true (by (with_reducible assumption))
       have q353 : x22_2 < (x4_1.length : Int) := of_decide_eq_true (by (with_reducible assumption))
       obtain ⟨ad353, e353, hx353_0⟩ := Kd.at_int (Kd.R_reads' HO_4.out).2.2 x22_2 p353 q353
       cases e353
       replace p353 := eq_true p353
       replace q353 := eq_true q353
       go_wp2
       go_roundg k2
       case measure => have := HK1.out; have := HK2.out; omega
       case rel => exact ⟨(wrap64 (x22_2 + 1)), (by rfl), H', ⟨by have := HK1.out; have := HK2.out; omega⟩, ⟨by exact HO_4.out⟩, ⟨by exact HO_5.out⟩, ⟨by exact HO_6.out⟩, ⟨by exact BK344.out⟩, ⟨by exact HB.out⟩⟩
     rw [if_pos c21] at H
     have c21b0 : decide (0 < (rd x4_1 x22_2)) = true := decide_eq_true c21
     clear c21
     by_cases c22 : x22_2 < (x5_1.length : Int)
     rotate_left
     · rw [if_neg c22] at H
       exact absurd H (by simp)
     rw [if_pos c22] at H
     have c22b0 : decide (x22_2 < (x5_1.length : Int)) = true := decide_eq_true c22
     clear c22
     by_cases c23 : (rd x5_1 x22_2) ≤ x7_1
     · rw [if_pos c23] at H
       have c23b0 : decide ((rd x5_1 x22_2) ≤ x7_1) = true := decide_eq_true c23
       clear c23
       simp only [Option.some.injEq, Prod.mk.injEq] at H
       obtain ⟨rfl, rfl⟩ := H
       have p353 : 0 ≤ (x22_2 : Int) := of_decide_eq_true (by (with_reducible assumption))
       have q353 : x22_2 < (x4_1.length : Int) := of_decide_eq_true (by (with_reducible assumption))
       obtain ⟨ad353, e353, hx353_0⟩ := Kd.at_int (Kd.R_reads' HO_4.out).2.2 x22_2 p353 q353
       cases e353
       replace p353 := eq_true p353
       replace q353 := eq_true q353
       obtain ⟨Ao24, co24, eo24⟩ := Kd.R_slice HO_5.out
       subst eo24
       have p354 : 0 ≤ (x22_2 : Int) := of_decide_eq_true (by (with_reducible assumption))
       have q354 : x22_2 < (x5_1.length : Int) := of_decide_eq_true (by (with_reducible assumption))
       obtain ⟨ad354, e354, hx354_0⟩ := Kd.at_int (Kd.R_reads' HO_5.out).2.2 x22_2 p354 q354
       cases e354
       replace p354 := eq_true p354
       replace q354 := eq_true q354
       go_wp2
       go_ret2
       exact ⟨_, by rfl, by exact Kd.R_mono HO_6.out (fun _ hk => trivial), by exact HB.out⟩
     rw [if_neg c23] at H
     have c23b0 : decide ((rd x5_1 x22_2) ≤ x7_1) = false := decide_eq_false c23
     clear c23
     have H' := Aside0.mk H
     clear H
     have p353 : 0 ≤ (x22_2 : Int) := of_decide_eq_true (by (with_reducible assumption))
     have q353 : x22_2 < (x4_1.length : Int) := of_decide_eq_true (by (with_reducible assumption))
     obtain ⟨ad353, e353, hx353_0⟩ := Kd.at_int (Kd.R_reads' HO_4.out).2.2 x22_2 p353 q353
     cases e353
     replace p353 := eq_true p353
     replace q353 := eq_true q353
     obtain ⟨Ao25, co25, eo25⟩ := Kd.R_slice HO_5.out
     subst eo25
     have p354 : 0 ≤ (x22_2 : Int) := of_decide_eq_true (by (with_reducible assumption))
     have q354 : x22_2 < (x5_1.length : Int) := of_decide_eq_true (by (with_reducible assumption))
     obtain ⟨ad354, e354, hx354_0⟩ := Kd.at_int (Kd.R_reads' HO_5.out).2.2 x22_2 p354 q354
     cases e354
     replace p354 := eq_true p354
     replace q354 := eq_true q354
     go_wp2
     go_roundg k2
     case measure => have := HK1.out; have := HK2.out; omega
     case rel => exact ⟨(wrap64 (x22_2 + 1)), (by rfl), H', ⟨by have := HK1.out; have := HK2.out; omega⟩, ⟨by exact HO_4.out⟩, ⟨by exact HO_5.out⟩, ⟨by exact HO_6.out⟩, ⟨by exact BK344.out⟩, ⟨by exact HB.out⟩⟩
   rw [if_neg c18] at H
   have c18b0 : decide (x22_2 < (x4_1.length : Int)) = false := decide_eq_false c18
   clear c18
   replace H := Option.bind_eq_some_iff.mp H
   obtain ⟨t355, A260, H⟩ := H
   replace H : (if x7_1 = t355 then (some (x6_1, (-1))) else (impl_Jobs_earliest.l2 k2 x4_1 x5_1 x6_1 x7_1 (-1) l0_1 (l0_1.length : Int) 0 l0_0 l0_1 l0_2)) = some (r1, r2) := H
   have A26 := Aside0.mk A260
   clear A260
   by_cases c27 : x7_1 = t355
   · rw [if_pos c27] at H
     have c27b0 : (x7_1 == t355) = true := beq_iff_eq.mpr c27
     have c27b1 : (x7_1 != t355) = false := bne_eq_false_iff_eq.mpr c27
     clear c27
     simp only [Option.some.injEq, Prod.mk.injEq] at H
     obtain ⟨rfl, rfl⟩ := H
     have hcz28_0 : wr.cell? ⟨gb344, 0, none⟩ = some (.slice A0_0 l0_0.length c0_0) := (blk_cell BK344.out 0).trans rfl
     have hcz28_1 : wr.cell? ⟨gb344, 1, none⟩ = some (.slice A0_1 l0_1.length c0_1) := (blk_cell BK344.out 1).trans rfl
     have hcz28_2 : wr.cell? ⟨gb344, 2, none⟩ = some (.slice A0_2 l0_2.length c0_2) := (blk_cell BK344.out 2).trans rfl
     have hfz28_0 := blk_frozen BK344.out 0
     have hfz28_1 := blk_frozen BK344.out 1
     have hfz28_2 := blk_frozen BK344.out 2
     go_wp2_with (((with_reducible refine gate_callee (f := 73) rfl ?_); refine goesL_ (some 43) rfl rfl Try.func73 (by kernel_rfl) rfl #[.agg #[.slice A0_0 l0_0.length c0_0, .slice A0_1 l0_1.length c0_1, .slice A0_2 l0_2.length c0_2]] rfl (by (try simp only [List.map_toArray, List.map_cons, List.map_nil]); rfl) ?_; (with_reducible refine (impl_Jobs_whole.calls k2 _ _ l0_0 _ _ l0_1 _ _ l0_2 t355 _ ?side1 ?side2 ?side3 ?side4 ?side5 ?side6 A26.out).mono ?_); (case side1 => exact (Kd.C_below HR0_0.out HB.out)); (case side2 => exact HC0_0.out); (case side3 => exact (Kd.C_below HR0_1.out HB.out)); (case side4 => exact HC0_1.out); (case side5 => exact (Kd.C_below HR0_2.out HB.out)); (case side6 => exact HC0_2.out); rintro e w29 ⟨rfl, hb⟩; refine ⟨_, rfl, ?_⟩; have n0_ := Aside0.mk (Kd.R_below HO_4.out hb); have n1_ := Aside0.mk (Kd.R_below HO_5.out hb); have n2_ := Aside0.mk (Kd.R_below HO_6.out hb); have n3_ := Aside0.mk (blk_below (g := gb344) (o := .cells #[.slice A0_0 l0_0.length c0_0, .slice A0_1 l0_1.length c0_1, .slice A0_2 l0_2.length c0_2] 33 (0, 0)) BK344.out hb); have n4_ := Aside0.mk (below_step HB.out hb); clear HO_4; clear HO_5; clear HO_6; clear BK344; clear HB; have HO_4 := n0_; have HO_5 := n1_; have HO_6 := n2_; have BK344 := n3_; have HB := n4_; clear n0_ n1_ n2_ n3_ n4_; (try clear hb); (try clear hb2); (try clear hk); (try clear hi)))
     go_ret2
     exact ⟨_, by rfl, by exact Kd.R_mono HO_6.out (fun _ hk => trivial), by exact HB.out⟩
   rw [if_neg c27] at H
   have c27b0 : (x7_1 == t355) = false := beq_eq_false_iff_ne.mpr c27
   have c27b1 : (x7_1 != t355) = true := bne_iff_ne.mpr c27
   have H' := Aside0.mk H
   clear H
   have hcz30_0 : wr.cell? ⟨gb344, 0, none⟩ = some (.slice A0_0 l0_0.length c0_0) := (blk_cell BK344.out 0).trans rfl
   have hcz30_1 : wr.cell? ⟨gb344, 1, none⟩ = some (.slice A0_1 l0_1.length c0_1) := (blk_cell BK344.out 1).trans rfl
   have hcz30_2 : wr.cell? ⟨gb344, 2, none⟩ = some (.slice A0_2 l0_2.length c0_2) := (blk_cell BK344.out 2).trans rfl
   have hfz30_0 := blk_frozen BK344.out 0
   have hfz30_1 := blk_frozen BK344.out 1
   have hfz30_2 := blk_frozen BK344.out 2
   go_wp2_with (((with_reducible refine gate_callee (f := 73) rfl ?_); refine goesL_ (some 43) rfl rfl Try.func73 (by kernel_rfl) rfl #[.agg #[.slice A0_0 l0_0.length c0_0, .slice A0_1 l0_1.length c0_1, .slice A0_2 l0_2.length c0_2]] rfl (by (try simp only [List.map_toArray, List.map_cons, List.map_nil]); rfl) ?_; (with_reducible refine (impl_Jobs_whole.calls k2 _ _ l0_0 _ _ l0_1 _ _ l0_2 t355 _ ?side1 ?side2 ?side3 ?side4 ?side5 ?side6 A26.out).mono ?_); (case side1 => exact (Kd.C_below HR0_0.out HB.out)); (case side2 => exact HC0_0.out); (case side3 => exact (Kd.C_below HR0_1.out HB.out)); (case side4 => exact HC0_1.out); (case side5 => exact (Kd.C_below HR0_2.out HB.out)); (case side6 => exact HC0_2.out); rintro e w31 ⟨rfl, hb⟩; refine ⟨_, rfl, ?_⟩; have n0_ := Aside0.mk (Kd.R_below HO_4.out hb); have n1_ := Aside0.mk (Kd.R_below HO_5.out hb); have n2_ := Aside0.mk (Kd.R_below HO_6.out hb); have n3_ := Aside0.mk (blk_below (g := gb344) (o := .cells #[.slice A0_0 l0_0.length c0_0, .slice A0_1 l0_1.length c0_1, .slice A0_2 l0_2.length c0_2] 33 (0, 0)) BK344.out hb); have n4_ := Aside0.mk (below_step HB.out hb); clear HO_4; clear HO_5; clear HO_6; clear BK344; clear HB; have HO_4 := n0_; have HO_5 := n1_; have HO_6 := n2_; have BK344 := n3_; have HB := n4_; clear n0_ n1_ n2_ n3_ n4_; (try clear hb); (try clear hb2); (try clear hk); (try clear hi); have hcz32_0 : w31.cell? ⟨gb344, 0, none⟩ = some (.slice A0_0 l0_0.length c0_0) := (blk_cell BK344.out 0).trans rfl; have hcz32_1 : w31.cell? ⟨gb344, 1, none⟩ = some (.slice A0_1 l0_1.length c0_1) := (blk_cell BK344.out 1).trans rfl; have hcz32_2 : w31.cell? ⟨gb344, 2, none⟩ = some (.slice A0_2 l0_2.length c0_2) := (blk_cell BK344.out 2).trans rfl; have hfz32_0 := blk_frozen BK344.out 0; have hfz32_1 := blk_frozen BK344.out 1; have hfz32_2 := blk_frozen BK344.out 2))
   go_loopg [9, 49] k2 (fun kq v9 v49 w' => ∃ (x4_3 : List Int) (x5_3 : List Int) (x9_3 : Int) (x49_3 : Int), v9 = .int .i64 x9_3 ∧ v49 = .int .i64 x49_3 ∧ Aside0 (impl_Jobs_earliest.l2 kq x4_3 x5_3 x6_1 x7_1 x9_3 l0_1 (l0_1.length : Int) x49_3 l0_0 l0_1 l0_2 = some (r1, r2)) ∧ Aside0 (kq ≤ k2) ∧ Aside0 (Kd.R (Kd.int .i64) 2 w' w.heap.size (fun k_ => some k_ ≠ (v351 : Value).ownBlock ∧ some k_ ≠ (u6 : Value).ownBlock) (.slice Ao17 x4_1.length co17) x4_3) ∧ Aside0 (Kd.R (Kd.int .i64) 2 w' w.heap.size (fun k_ => some k_ ≠ ((.slice Ao17 x4_1.length co17) : Value).ownBlock ∧ some k_ ≠ (u6 : Value).ownBlock) v351 x5_3) ∧ Aside0 (Kd.R (Kd.int .i64) 2 w' w.heap.size (fun k_ => some k_ ≠ ((.slice Ao17 x4_1.length co17) : Value).ownBlock ∧ some k_ ≠ (v351 : Value).ownBlock) u6 x6_1) ∧ Aside0 (w'.heap[gb344]? = some (.cells #[(.slice A0_0 l0_0.length c0_0), (.slice A0_1 l0_1.length c0_1), (.slice A0_2 l0_2.length c0_2)] 33 (0, 0))) ∧ Aside0 (Below w.heap.size w w'))
   case atStart => exact ⟨(x4_1), (x5_1), (-1), (0), (by rfl), (by rfl), H', ⟨Nat.le_refl _⟩, ⟨by exact HO_4.out⟩, ⟨by exact HO_5.out⟩, ⟨by exact HO_6.out⟩, ⟨by exact BK344.out⟩, ⟨by exact HB.out⟩⟩
   clear H'
   clear c18b0 c27 c27b0 c27b1 hcz30_0 hcz30_1 hcz30_2 hcz32_0 hcz32_1 hcz32_2 hfz30_0 hfz30_1 hfz30_2 hfz32_0 hfz32_1 hfz32_2
   obtain ⟨x4_3, x5_3, x9_3, x49_3, rfl, rfl, HA, HK3, HO_4, HO_5, HO_6, BK344, HB⟩ := hrel
   have hl4_3 := (Kd.R_reads' HO_4.out).1
   rw [hl4_3] at HO_4
   (try simp only [hl4_3])
   (try simp only [hl4_3] at BK344)
   (try simp only [hl4_3] at HO_5)
   (try simp only [hl4_3] at HO_6)
   cases gk with
   | zero => exact absurd HA.out (by simp [impl_Jobs_earliest.l2])
   | succ k3 =>
    have H := HA.out
    clear HA
    simp only [impl_Jobs_earliest.l2] at H
    by_cases c33 : x49_3 < (l0_1.length : Int)
    rotate_left
    · rw [if_neg c33] at H
      have c33b0 : decide (x49_3 < (l0_1.length : Int)) = false := decide_eq_false c33
      clear c33
      by_cases c82 : x9_3 = (-1)
      · rw [if_pos c82] at H
        have c82b0 : (x9_3 == (-1)) = true := beq_iff_eq.mpr c82
        have c82b1 : (x9_3 != (-1)) = false := bne_eq_false_iff_eq.mpr c82
        clear c82
        by_cases c83 : x6_1.length < 17592186044416
        rotate_left
        · rw [if_neg c83] at H
          exact absurd H (by simp)
        rw [if_pos c83] at H
        have LMc83 := Aside0.mk c83
        clear c83
        obtain ⟨y356, hy356⟩ : ∃ y_ : List Int, y_ = (x6_1 ++ [x9_3]) := ⟨_, rfl⟩
        replace H : (impl_Jobs_earliest.l0 k3 x4_3 x5_3 y356 (wrap64 (x7_1 + 1)) l0_0 l0_1 l0_2) = some (r1, r2) := by (rw [hy356]; with_reducible exact H)
        have Ny356 := Aside0.mk hy356
        clear hy356
        have H' := Aside0.mk H
        clear H
        go_wp2_with (((with_reducible refine gate_builtin (b := .append) (xs := #[.tmp 106, .tmp 108]) rfl ?_); at_builtin; refine Kd.R_append (Kd.int .i64) (w0 := w) w.heap.size rfl (.tmp 106) (.tmp 108) 22 2 (.int .i64 0) 8 rfl Try.underlying22 info2 rfl (by decide) (by omega) u6 x6_1 x9_3 [.int .i64 x9_3] (fun k_ => some k_ ≠ (.slice Ao17 x4_3.length co17 : Value).ownBlock ∧ some k_ ≠ (v351 : Value).ownBlock) (fun _ => False) rfl rfl ?aP (fun _ hk => hk.elim) ?aF ?aO ?aB ?aS ?aL ?_; (case aP => exact rfl); (case aB => exact HB.out); (case aF => exact (fun k_ hk => ⟨Kd.fresh' (Kd.R_lt HO_4.out) k_ hk, Kd.fresh' (Kd.R_lt HO_5.out) k_ hk⟩)); (case aO => exact HO_6.out); (case aS => exact (below_size HB.out)); (case aL => have := LMc83.out; omega); intro v357 w84 ho hb hg hat; rw [← Ny356.out] at ho; have n0_ := Aside0.mk (Kd.R_after (ok := (fun k_ => some k_ ≠ (v351 : Value).ownBlock)) HO_4.out hg hat); have n1_ := Aside0.mk (Kd.R_after (ok := (fun k_ => some k_ ≠ (.slice Ao17 x4_3.length co17 : Value).ownBlock)) HO_5.out hg hat); have n2_ := Aside0.mk (blk_grown (g := gb344) (o := .cells #[.slice A0_0 l0_0.length c0_0, .slice A0_1 l0_1.length c0_1, .slice A0_2 l0_2.length c0_2] 33 (0, 0)) BK344.out hg (Kd.R_ne HO_6.out BK344.out (by decide))); have n3_ := Aside0.mk (hb); have n4_ := Aside0.mk (ho); clear HO_4; clear HO_5; clear BK344; clear HB; clear HO_6; have HO_4 := n0_; have HO_5 := n1_; have BK344 := n2_; have HB := n3_; have HO358 := n4_; clear n0_ n1_ n2_ n3_ n4_; clear ho hb hg hat))
        (try simp only [← hl4_3])
        go_roundg k3
        case measure => have := HK1.out; have := HK2.out; have := HK3.out; omega
        case rel => exact ⟨(x4_3), (x5_3), (y356), (wrap64 (x7_1 + 1)), (by rfl), H', ⟨by have := HK1.out; have := HK2.out; have := HK3.out; omega⟩, ⟨by (try simp only [hl4_3]); exact HO_4.out⟩, ⟨by (try simp only [hl4_3]); exact HO_5.out⟩, ⟨by (try simp only [hl4_3]); exact HO358.out⟩, ⟨by (try simp only [hl4_3]); exact BK344.out⟩, ⟨by exact HB.out⟩⟩
      rw [if_neg c82] at H
      have c82b0 : (x9_3 == (-1)) = false := beq_eq_false_iff_ne.mpr c82
      have c82b1 : (x9_3 != (-1)) = true := bne_iff_ne.mpr c82
      by_cases c85 : 0 ≤ x9_3
      rotate_left
      · rw [if_neg c85] at H
        exact absurd H (by simp)
      rw [if_pos c85] at H
      have c85b0 : decide (0 ≤ x9_3) = true := decide_eq_true c85
      clear c85
      by_cases c86 : x9_3 < (x4_3.length : Int)
      rotate_left
      · rw [if_neg c86] at H
        exact absurd H (by simp)
      rw [if_pos c86] at H
      have c86b0 : decide (x9_3 < (x4_3.length : Int)) = true := decide_eq_true c86
      clear c86
      obtain ⟨y360, hy360⟩ : ∃ y_ : List Int, y_ = (x4_3.set (x9_3 : Int).toNat (wrap64 ((rd x4_3 x9_3) - 1))) := ⟨_, rfl⟩
      replace H : (if x6_1.length < 17592186044416 then (impl_Jobs_earliest.l0 k3 y360 x5_3 (x6_1 ++ [x9_3]) (wrap64 (x7_1 + 1)) l0_0 l0_1 l0_2) else (none)) = some (r1, r2) := by (rw [hy360]; with_reducible exact H)
      have Ny360 := Aside0.mk hy360
      clear hy360
      by_cases c88 : x6_1.length < 17592186044416
      rotate_left
      · rw [if_neg c88] at H
        exact absurd H (by simp)
      rw [if_pos c88] at H
      have LMc88 := Aside0.mk c88
      clear c88
      obtain ⟨y361, hy361⟩ : ∃ y_ : List Int, y_ = (x6_1 ++ [x9_3]) := ⟨_, rfl⟩
      replace H : (impl_Jobs_earliest.l0 k3 y360 x5_3 y361 (wrap64 (x7_1 + 1)) l0_0 l0_1 l0_2) = some (r1, r2) := by (rw [hy361]; with_reducible exact H)
      have Ny361 := Aside0.mk hy361
      clear hy361
      have H' := Aside0.mk H
      clear H
      have p359 : 0 ≤ (x9_3 : Int) := of_decide_eq_true (by (with_reducible assumption))
      have q359 : x9_3 < (x4_3.length : Int) := of_decide_eq_true (by (with_reducible assumption))
      obtain ⟨ad359, e359, hx359_0⟩ := Kd.at_int (Kd.R_reads' HO_4.out).2.2 x9_3 p359 q359
      cases e359
      replace p359 := eq_true p359
      replace q359 := eq_true q359
      have p87 : 0 ≤ (x9_3 : Int) := of_decide_eq_true (by (with_reducible assumption))
      have q87 : (x9_3 : Int) < ((x4_3.length : Int) : Int) := of_decide_eq_true (by (with_reducible assumption))
      obtain ⟨go87, co87, eo87, gb87, gl87, cl87, HG87⟩ := Kd.R_form HO_4.out (by omega)
      (cases eo87)
      have GB87 := Aside0.mk gb87
      have GG87 := Aside0.mk HG87
      clear gb87 gl87 HG87
      (simp only [add_plain] at hx359_0)
      obtain ⟨hx87_0, hf87_0⟩ := Kd.R_celln 0 HO_4.out (x9_3 : Int) p87 q87
      replace p87 := eq_true p87
      replace q87 := eq_true q87
      have HP89 := Kd.R_putg HO_4.out (x9_3 : Int) (wrap64 ((rd x4_3 x9_3) - 1))
      go_wp2_with (first | ((with_reducible refine gate_store (t := 2) (p := 105) rfl ?_); refine store_event (t := 2) (p := 105) (v := ?vo_w90) (w1 := (wr.setCell ⟨go87, (x9_3 : Int).toNat, none⟩ (.int .i64 (wrap64 ((rd x4_3 x9_3) - 1))))) ?hg ?ho ?hn ?hr ?_; (case ho => rfl); (case hg => rfl); (case hn => rfl); (case hr => (go_simp; done)); intro w90 hw; have hg : wr.grownBy w90 (some go87) := (by rw [hw]; exact HP89.2); have hp_ : Kd.R (Kd.int .i64) 2 w90 w.heap.size (fun k_ => some k_ ≠ (v351 : Value).ownBlock ∧ some k_ ≠ (u6 : Value).ownBlock) (.slice (some ⟨go87, 0, none⟩) x4_3.length co17) y360 := (by rw [hw, Ny360.out]; exact HP89.1); clear HP89; have n0_ := Aside0.mk (hp_); have n1_ := Aside0.mk (Kd.R_after (v := (.slice (some ⟨go87, 0, none⟩) x4_3.length co17)) (v1 := (.slice (some ⟨go87, 0, none⟩) x4_3.length co17)) (ok := (fun k_ => some k_ ≠ (u6 : Value).ownBlock)) (by exact Kd.R_mono HO_5.out (fun _ hk => ⟨hk.2, hk.1⟩)) hg (.inl rfl)); have n2_ := Aside0.mk (Kd.R_after (v := (.slice (some ⟨go87, 0, none⟩) x4_3.length co17)) (v1 := (.slice (some ⟨go87, 0, none⟩) x4_3.length co17)) (ok := (fun k_ => some k_ ≠ (v351 : Value).ownBlock)) (by exact Kd.R_mono HO_6.out (fun _ hk => ⟨hk.2, hk.1⟩)) hg (.inl rfl)); have n3_ := Aside0.mk (blk_grown (g := gb344) (o := .cells #[.slice A0_0 l0_0.length c0_0, .slice A0_1 l0_1.length c0_1, .slice A0_2 l0_2.length c0_2] 33 (0, 0)) BK344.out hg (Kd.R_ne HO_4.out BK344.out (by decide))); have n4_ := Aside0.mk ((by rw [hw]; exact below_set (HB.out) GB87.out : Below w.heap.size w w90)); clear HO_4; clear HO_5; clear HO_6; clear BK344; clear HB; have HO_4 := n0_; have HO_5 := n1_; have HO_6 := n2_; have BK344 := n3_; have HB := n4_; clear n0_ n1_ n2_ n3_ n4_; clear hg hw hp_) | ((with_reducible refine gate_builtin (b := .append) (xs := #[.tmp 106, .tmp 108]) rfl ?_); at_builtin; refine Kd.R_append (Kd.int .i64) (w0 := w) w.heap.size rfl (.tmp 106) (.tmp 108) 22 2 (.int .i64 0) 8 rfl Try.underlying22 info2 rfl (by decide) (by omega) u6 x6_1 x9_3 [.int .i64 x9_3] (fun k_ => some k_ ≠ (.slice (some ⟨go87, 0, none⟩) x4_3.length co17 : Value).ownBlock ∧ some k_ ≠ (v351 : Value).ownBlock) (fun _ => False) rfl rfl ?aP (fun _ hk => hk.elim) ?aF ?aO ?aB ?aS ?aL ?_; (case aP => exact rfl); (case aB => exact HB.out); (case aF => exact (fun k_ hk => ⟨Kd.fresh' (Kd.R_lt HO_4.out) k_ hk, Kd.fresh' (Kd.R_lt HO_5.out) k_ hk⟩)); (case aO => exact (by exact Kd.R_mono HO_6.out (fun _ hk => ⟨hk.2, hk.1⟩))); (case aS => exact (below_size HB.out)); (case aL => have := LMc88.out; omega); intro v362 w91 ho hb hg hat; rw [← Ny361.out] at ho; have n0_ := Aside0.mk (Kd.R_after (ok := (fun k_ => some k_ ≠ (v351 : Value).ownBlock)) HO_4.out hg hat); have n1_ := Aside0.mk (Kd.R_after (ok := (fun k_ => some k_ ≠ (.slice (some ⟨go87, 0, none⟩) x4_3.length co17 : Value).ownBlock)) (by exact Kd.R_mono HO_5.out (fun _ hk => ⟨hk.2, hk.1⟩)) hg hat); have n2_ := Aside0.mk (blk_grown (g := gb344) (o := .cells #[.slice A0_0 l0_0.length c0_0, .slice A0_1 l0_1.length c0_1, .slice A0_2 l0_2.length c0_2] 33 (0, 0)) BK344.out hg (Kd.R_ne HO_6.out BK344.out (by decide))); have n3_ := Aside0.mk (hb); have n4_ := Aside0.mk (ho); clear HO_4; clear HO_5; clear BK344; clear HB; clear HO_6; have HO_4 := n0_; have HO_5 := n1_; have BK344 := n2_; have HB := n3_; have HO363 := n4_; clear n0_ n1_ n2_ n3_ n4_; clear ho hb hg hat))
      (try simp only [← hl4_3])
      go_roundg k3
      case measure => have := HK1.out; have := HK2.out; have := HK3.out; omega
      case rel => exact ⟨(y360), (x5_3), (y361), (wrap64 (x7_1 + 1)), (by rfl), H', ⟨by have := HK1.out; have := HK2.out; have := HK3.out; omega⟩, ⟨by (try simp only [hl4_3]); exact HO_4.out⟩, ⟨by (try simp only [hl4_3]); exact HO_5.out⟩, ⟨by (try simp only [hl4_3]); exact HO363.out⟩, ⟨by (try simp only [hl4_3]); exact BK344.out⟩, ⟨by exact HB.out⟩⟩
    rw [if_pos c33] at H
    have c33b0 : decide (x49_3 < (l0_1.length : Int)) = true := decide_eq_true c33
    clear c33
    by_cases c34 : 0 ≤ x49_3
    rotate_left
    · rw [if_neg c34] at H
      exact absurd H (by simp)
    rw [if_pos c34] at H
    have c34b0 : decide (0 ≤ x49_3) = true := decide_eq_true c34
    clear c34
    by_cases c35 : x49_3 < (l0_1.length : Int)
    rotate_left
    · rw [if_neg c35] at H
      exact absurd H (by simp)
    rw [if_pos c35] at H
    have c35b0 : decide (x49_3 < (l0_1.length : Int)) = true := decide_eq_true c35
    clear c35
    by_cases c36 : (rd l0_1 x49_3) = 0
    · rw [if_pos c36] at H
      exact absurd H (by simp)
    rw [if_neg c36] at H
    have c36b0 : ((rd l0_1 x49_3) == 0) = false := beq_eq_false_iff_ne.mpr c36
    have c36b1 : ((rd l0_1 x49_3) != 0) = true := bne_iff_ne.mpr c36
    by_cases c37 : (Int.tmod x7_1 (rd l0_1 x49_3)) = 0
    rotate_left
    · rw [if_neg c37] at H
      have c37b0 : ((Int.tmod x7_1 (rd l0_1 x49_3)) == 0) = false := beq_eq_false_iff_ne.mpr c37
      have c37b1 : ((Int.tmod x7_1 (rd l0_1 x49_3)) != 0) = true := bne_iff_ne.mpr c37
      by_cases c69 : x49_3 < (x4_3.length : Int)
      rotate_left
      · rw [if_neg c69] at H
        exact absurd H (by simp)
      rw [if_pos c69] at H
      have c69b0 : decide (x49_3 < (x4_3.length : Int)) = true := decide_eq_true c69
      clear c69
      by_cases c70 : (rd x4_3 x49_3) > 0
      rotate_left
      · rw [if_neg c70] at H
        have c70b0 : decide (0 < (rd x4_3 x49_3)) = false := decide_eq_false c70
        clear c70
        have H' := Aside0.mk H
        clear H
        have p364 : 0 ≤ (x49_3 : Int) := of_decide_eq_true (by (with_reducible assumption))
        have q364 : x49_3 < (l0_1.length : Int) := of_decide_eq_true (by (with_reducible assumption))
        obtain ⟨ad364, e364, hx364_0⟩ := Kd.at_int HR0_1.out x49_3 p364 q364
        cases e364
        replace hx364_0 := (HB.out.cell (World.block_lt_of_cell? w _ hx364_0)).trans hx364_0
        replace p364 := eq_true p364
        replace q364 := eq_true q364
        try go_wp2
        have n0_ := Aside0.mk (Kd.R_drew HO_4.out)
        have n1_ := Aside0.mk (Kd.R_drew HO_5.out)
        have n2_ := Aside0.mk (Kd.R_drew HO_6.out)
        have n3_ := Aside0.mk (blk_drew BK344.out)
        have n4_ := Aside0.mk (below_drew1 HB.out)
        clear HO_4
        clear HO_5
        clear HO_6
        clear BK344
        clear HB
        have HO_4 := n0_
        have HO_5 := n1_
        have HO_6 := n2_
        have BK344 := n3_
        have HB := n4_
        clear n0_ n1_ n2_ n3_ n4_
        have p372 : 0 ≤ (x49_3 : Int) := of_decide_eq_true (by (with_reducible assumption))
        have q372 : x49_3 < (x4_3.length : Int) := of_decide_eq_true (by (with_reducible assumption))
        obtain ⟨ad372, e372, hx372_0⟩ := Kd.at_int (Kd.R_reads' HO_4.out).2.2 x49_3 p372 q372
        cases e372
        replace p372 := eq_true p372
        replace q372 := eq_true q372
        refine start_ (n := 20) (S := fun w' => w'.cell? (ad372.add (x49_3).toNat) = some (.int .i64 (rd x4_3 x49_3))) (ds := []) bQ67_12 (by kernel_rfl) rfl rfl (hx372_0) (fun hHeld => ?_); refine with_tabW impl_Jobs_earliest.tab19 impl_Jobs_earliest.bits19 (fun HT_ HW_ => ?_)
        generalize wr.drew = w81 at HO_4 HO_5 HO_6 BK344 HB hx372_0 hHeld ⊢
        refine pure_ (i := 0) (N := some 76) (v := ?_) (a' := ?_) bQ67_13 rfl rfl (any_of HT_.out (by kernel_rfl)) (fun _ _ _ h => h) (Or.inl ⟨by rfl, ?_⟩) ?_ ?_
        rotate_left
        · intro w'
          go_simp
          with_reducible rfl
        rotate_left
        · simp only [Act.put, List.setIfInBounds_toArray, List.set_cons_zero, List.set_cons_succ, i64_w, i32_w]
          rfl
        refine pure_ (i := 1) (N := some 77) (v := ?_) (a' := ?_) bQ67_14 rfl rfl (any_of HT_.out (by kernel_rfl)) (fun _ _ _ h => h) (Or.inl ⟨by rfl, ?_⟩) ?_ ?_
        rotate_left
        · intro w'
          go_simp
          with_reducible rfl
        rotate_left
        · simp only [Act.put, List.setIfInBounds_toArray, List.set_cons_zero, List.set_cons_succ, i64_w, i32_w]
          rfl
        refine pure_ (i := 2) (N := some 78) (v := ?_) (a' := ?_) bQ67_15 rfl rfl (any_of HT_.out (by kernel_rfl)) (fun _ _ _ h => h) (Or.inl ⟨by rfl, ?_⟩) ?_ ?_
        rotate_left
        · intro w'
          go_simp
          with_reducible rfl
        rotate_left
        · simp only [Act.put, List.setIfInBounds_toArray, List.set_cons_zero, List.set_cons_succ, i64_w, i32_w]
          rfl
        refine take_ (i := 3) (N := some 79) (v := ?_) (a' := ?_) bQ67_16 rfl rfl (take_ofW HT_.out HW_.out (by kernel_rfl)) (fun _ _ _ h => h) (Or.inl ⟨by rfl, ?_⟩) hHeld ?_ ?_
        rotate_left
        · intro w' s0
          go_simp
          with_reducible rfl
        rotate_left
        · simp only [Act.put, List.setIfInBounds_toArray, List.set_cons_zero, List.set_cons_succ, i64_w, i32_w]
          rfl
        refine pure_ (i := 4) (N := some 80) (v := ?_) (a' := ?_) bQ67_17 rfl rfl (any_of HT_.out (by kernel_rfl)) (fun _ _ _ h => h) (Or.inl ⟨by rfl, ?_⟩) ?_ ?_
        rotate_left
        · intro w'
          go_simp
          with_reducible rfl
        rotate_left
        · simp only [Act.put, List.setIfInBounds_toArray, List.set_cons_zero, List.set_cons_succ, i64_w, i32_w]
          rfl
        refine pure_ (i := 5) (N := some 81) (v := ?_) (a' := ?_) bQ67_18 rfl rfl (any_of HT_.out (by kernel_rfl)) (fun _ _ _ h => h) (Or.inl ⟨by rfl, ?_⟩) ?_ ?_
        rotate_left
        · intro w'
          go_simp
          with_reducible rfl
        rotate_left
        · simp only [Act.put, List.setIfInBounds_toArray, List.set_cons_zero, List.set_cons_succ, i64_w, i32_w]
          rfl
        refine pure_ (i := 6) (N := some 82) (v := undef) (a' := ?_) bQ67_19 rfl rfl (any_of HT_.out (by kernel_rfl)) (fun _ _ _ h => h) (Or.inr ⟨by rfl, rfl⟩) ?_ ?_
        rotate_left
        · simp only [Act.put, List.setIfInBounds_toArray, List.set_cons_zero, List.set_cons_succ, i64_w, i32_w]
          rfl
        refine pure_ (i := 7) (N := some 83) (v := undef) (a' := ?_) bQ67_20 rfl rfl (any_of HT_.out (by kernel_rfl)) (fun _ _ _ h => h) (Or.inr ⟨by rfl, rfl⟩) ?_ ?_
        rotate_left
        · simp only [Act.put, List.setIfInBounds_toArray, List.set_cons_zero, List.set_cons_succ, i64_w, i32_w]
          rfl
        refine pure_ (i := 8) (N := some 84) (v := undef) (a' := ?_) bQ67_21 rfl rfl (any_of HT_.out (by kernel_rfl)) (fun _ _ _ h => h) (Or.inr ⟨by rfl, rfl⟩) ?_ ?_
        rotate_left
        · simp only [Act.put, List.setIfInBounds_toArray, List.set_cons_zero, List.set_cons_succ, i64_w, i32_w]
          rfl
        refine pure_ (i := 9) (N := some 85) (v := undef) (a' := ?_) bQ67_22 rfl rfl (any_of HT_.out (by kernel_rfl)) (fun _ _ _ h => h) (Or.inr ⟨by rfl, rfl⟩) ?_ ?_
        rotate_left
        · simp only [Act.put, List.setIfInBounds_toArray, List.set_cons_zero, List.set_cons_succ, i64_w, i32_w]
          rfl
        refine pure_ (i := 10) (N := some 86) (v := undef) (a' := ?_) bQ67_23 rfl rfl (any_of HT_.out (by kernel_rfl)) (fun _ _ _ h => h) (Or.inr ⟨by rfl, rfl⟩) ?_ ?_
        rotate_left
        · simp only [Act.put, List.setIfInBounds_toArray, List.set_cons_zero, List.set_cons_succ, i64_w, i32_w]
          rfl
        refine pure_ (i := 11) (N := some 87) (v := undef) (a' := ?_) bQ67_24 rfl rfl (any_of HT_.out (by kernel_rfl)) (fun _ _ _ h => h) (Or.inr ⟨by rfl, rfl⟩) ?_ ?_
        rotate_left
        · simp only [Act.put, List.setIfInBounds_toArray, List.set_cons_zero, List.set_cons_succ, i64_w, i32_w]
          rfl
        refine pure_ (i := 12) (N := some 88) (v := undef) (a' := ?_) bQ67_25 rfl rfl (any_of HT_.out (by kernel_rfl)) (fun _ _ _ h => h) (Or.inr ⟨by rfl, rfl⟩) ?_ ?_
        rotate_left
        · simp only [Act.put, List.setIfInBounds_toArray, List.set_cons_zero, List.set_cons_succ, i64_w, i32_w]
          rfl
        refine pure_ (i := 13) (N := some 89) (v := undef) (a' := ?_) bQ67_26 rfl rfl (any_of HT_.out (by kernel_rfl)) (fun _ _ _ h => h) (Or.inr ⟨by rfl, rfl⟩) ?_ ?_
        rotate_left
        · simp only [Act.put, List.setIfInBounds_toArray, List.set_cons_zero, List.set_cons_succ, i64_w, i32_w]
          rfl
        refine pure_ (i := 14) (N := some 90) (v := undef) (a' := ?_) bQ67_27 rfl rfl (any_of HT_.out (by kernel_rfl)) (fun _ _ _ h => h) (Or.inr ⟨by rfl, rfl⟩) ?_ ?_
        rotate_left
        · simp only [Act.put, List.setIfInBounds_toArray, List.set_cons_zero, List.set_cons_succ, i64_w, i32_w]
          rfl
        refine pure_ (i := 15) (N := some 91) (v := undef) (a' := ?_) bQ67_28 rfl rfl (any_of HT_.out (by kernel_rfl)) (fun _ _ _ h => h) (Or.inr ⟨by rfl, rfl⟩) ?_ ?_
        rotate_left
        · simp only [Act.put, List.setIfInBounds_toArray, List.set_cons_zero, List.set_cons_succ, i64_w, i32_w]
          rfl
        refine pure_ (i := 16) (N := some 92) (v := undef) (a' := ?_) bQ67_29 rfl rfl (any_of HT_.out (by kernel_rfl)) (fun _ _ _ h => h) (Or.inr ⟨by rfl, rfl⟩) ?_ ?_
        rotate_left
        · simp only [Act.put, List.setIfInBounds_toArray, List.set_cons_zero, List.set_cons_succ, i64_w, i32_w]
          rfl
        refine pure_ (i := 17) (N := some 93) (v := undef) (a' := ?_) bQ67_30 rfl rfl (any_of HT_.out (by kernel_rfl)) (fun _ _ _ h => h) (Or.inr ⟨by rfl, rfl⟩) ?_ ?_
        rotate_left
        · simp only [Act.put, List.setIfInBounds_toArray, List.set_cons_zero, List.set_cons_succ, i64_w, i32_w]
          rfl
        refine pure_ (i := 18) (N := some 94) (v := undef) (a' := ?_) bQ67_31 rfl rfl (any_of HT_.out (by kernel_rfl)) (fun _ _ _ h => h) (Or.inr ⟨by rfl, rfl⟩) ?_ ?_
        rotate_left
        · simp only [Act.put, List.setIfInBounds_toArray, List.set_cons_zero, List.set_cons_succ, i64_w, i32_w]
          rfl
        refine pure_ (i := 19) (N := some 95) (v := ?_) (a' := ?_) bQ67_32 rfl rfl (any_of HT_.out (by kernel_rfl)) (fun _ _ _ h => h) (Or.inl ⟨by rfl, ?_⟩) ?_ ?_
        rotate_left
        · intro w'
          go_simp
          with_reducible rfl
        rotate_left
        · simp only [Act.put, List.setIfInBounds_toArray, List.set_cons_zero, List.set_cons_succ, i64_w, i32_w]
          rfl
        refine done_ (done_of HT_.out (by kernel_rfl)) ?_
        try go_wp2
        (try simp only [← hl4_3])
        go_roundg k3
        case measure => have := HK1.out; have := HK2.out; have := HK3.out; omega
        case rel => exact ⟨(x4_3), (x5_3), (x9_3), (wrap64 (x49_3 + 1)), (by rfl), (by rfl), H', ⟨by have := HK1.out; have := HK2.out; have := HK3.out; omega⟩, ⟨by (try simp only [hl4_3]); exact HO_4.out⟩, ⟨by (try simp only [hl4_3]); exact HO_5.out⟩, ⟨by (try simp only [hl4_3]); exact HO_6.out⟩, ⟨by (try simp only [hl4_3]); exact BK344.out⟩, ⟨by exact HB.out⟩⟩
      rw [if_pos c70] at H
      have c70b0 : decide (0 < (rd x4_3 x49_3)) = true := decide_eq_true c70
      clear c70
      by_cases c71 : x9_3 = (-1)
      · rw [if_pos c71] at H
        have c71b0 : (x9_3 == (-1)) = true := beq_iff_eq.mpr c71
        have c71b1 : (x9_3 != (-1)) = false := bne_eq_false_iff_eq.mpr c71
        clear c71
        have H' := Aside0.mk H
        clear H
        have p364 : 0 ≤ (x49_3 : Int) := of_decide_eq_true (by (with_reducible assumption))
        have q364 : x49_3 < (l0_1.length : Int) := of_decide_eq_true (by (with_reducible assumption))
        obtain ⟨ad364, e364, hx364_0⟩ := Kd.at_int HR0_1.out x49_3 p364 q364
        cases e364
        replace hx364_0 := (HB.out.cell (World.block_lt_of_cell? w _ hx364_0)).trans hx364_0
        replace p364 := eq_true p364
        replace q364 := eq_true q364
        try go_wp2
        have n0_ := Aside0.mk (Kd.R_drew HO_4.out)
        have n1_ := Aside0.mk (Kd.R_drew HO_5.out)
        have n2_ := Aside0.mk (Kd.R_drew HO_6.out)
        have n3_ := Aside0.mk (blk_drew BK344.out)
        have n4_ := Aside0.mk (below_drew1 HB.out)
        clear HO_4
        clear HO_5
        clear HO_6
        clear BK344
        clear HB
        have HO_4 := n0_
        have HO_5 := n1_
        have HO_6 := n2_
        have BK344 := n3_
        have HB := n4_
        clear n0_ n1_ n2_ n3_ n4_
        have p372 : 0 ≤ (x49_3 : Int) := of_decide_eq_true (by (with_reducible assumption))
        have q372 : x49_3 < (x4_3.length : Int) := of_decide_eq_true (by (with_reducible assumption))
        obtain ⟨ad372, e372, hx372_0⟩ := Kd.at_int (Kd.R_reads' HO_4.out).2.2 x49_3 p372 q372
        cases e372
        replace p372 := eq_true p372
        replace q372 := eq_true q372
        refine start_ (n := 20) (S := fun w' => w'.cell? (ad372.add (x49_3).toNat) = some (.int .i64 (rd x4_3 x49_3))) (ds := []) bQ67_12 (by kernel_rfl) rfl rfl (hx372_0) (fun hHeld => ?_); refine with_tabW impl_Jobs_earliest.tab19 impl_Jobs_earliest.bits19 (fun HT_ HW_ => ?_)
        generalize wr.drew = w72 at HO_4 HO_5 HO_6 BK344 HB hx372_0 hHeld ⊢
        refine pure_ (i := 0) (N := some 76) (v := ?_) (a' := ?_) bQ67_13 rfl rfl (any_of HT_.out (by kernel_rfl)) (fun _ _ _ h => h) (Or.inl ⟨by rfl, ?_⟩) ?_ ?_
        rotate_left
        · intro w'
          go_simp
          with_reducible rfl
        rotate_left
        · simp only [Act.put, List.setIfInBounds_toArray, List.set_cons_zero, List.set_cons_succ, i64_w, i32_w]
          rfl
        refine pure_ (i := 1) (N := some 77) (v := ?_) (a' := ?_) bQ67_14 rfl rfl (any_of HT_.out (by kernel_rfl)) (fun _ _ _ h => h) (Or.inl ⟨by rfl, ?_⟩) ?_ ?_
        rotate_left
        · intro w'
          go_simp
          with_reducible rfl
        rotate_left
        · simp only [Act.put, List.setIfInBounds_toArray, List.set_cons_zero, List.set_cons_succ, i64_w, i32_w]
          rfl
        refine pure_ (i := 2) (N := some 78) (v := ?_) (a' := ?_) bQ67_15 rfl rfl (any_of HT_.out (by kernel_rfl)) (fun _ _ _ h => h) (Or.inl ⟨by rfl, ?_⟩) ?_ ?_
        rotate_left
        · intro w'
          go_simp
          with_reducible rfl
        rotate_left
        · simp only [Act.put, List.setIfInBounds_toArray, List.set_cons_zero, List.set_cons_succ, i64_w, i32_w]
          rfl
        refine take_ (i := 3) (N := some 79) (v := ?_) (a' := ?_) bQ67_16 rfl rfl (take_ofW HT_.out HW_.out (by kernel_rfl)) (fun _ _ _ h => h) (Or.inl ⟨by rfl, ?_⟩) hHeld ?_ ?_
        rotate_left
        · intro w' s0
          go_simp
          with_reducible rfl
        rotate_left
        · simp only [Act.put, List.setIfInBounds_toArray, List.set_cons_zero, List.set_cons_succ, i64_w, i32_w]
          rfl
        refine pure_ (i := 4) (N := some 80) (v := ?_) (a' := ?_) bQ67_17 rfl rfl (any_of HT_.out (by kernel_rfl)) (fun _ _ _ h => h) (Or.inl ⟨by rfl, ?_⟩) ?_ ?_
        rotate_left
        · intro w'
          go_simp
          with_reducible rfl
        rotate_left
        · simp only [Act.put, List.setIfInBounds_toArray, List.set_cons_zero, List.set_cons_succ, i64_w, i32_w]
          rfl
        refine pure_ (i := 5) (N := some 81) (v := ?_) (a' := ?_) bQ67_18 rfl rfl (any_of HT_.out (by kernel_rfl)) (fun _ _ _ h => h) (Or.inl ⟨by rfl, ?_⟩) ?_ ?_
        rotate_left
        · intro w'
          go_simp
          with_reducible rfl
        rotate_left
        · simp only [Act.put, List.setIfInBounds_toArray, List.set_cons_zero, List.set_cons_succ, i64_w, i32_w]
          rfl
        refine pure_ (i := 6) (N := some 82) (v := ?_) (a' := ?_) bQ67_19 rfl rfl (any_of HT_.out (by kernel_rfl)) (fun _ _ _ h => h) (Or.inl ⟨by rfl, ?_⟩) ?_ ?_
        rotate_left
        · intro w'
          go_simp
          with_reducible rfl
        rotate_left
        · simp only [Act.put, List.setIfInBounds_toArray, List.set_cons_zero, List.set_cons_succ, i64_w, i32_w]
          rfl
        refine pure_ (i := 7) (N := some 83) (v := ?_) (a' := ?_) bQ67_20 rfl rfl (any_of HT_.out (by kernel_rfl)) (fun _ _ _ h => h) (Or.inl ⟨by rfl, ?_⟩) ?_ ?_
        rotate_left
        · intro w'
          go_simp
          with_reducible rfl
        rotate_left
        · simp only [Act.put, List.setIfInBounds_toArray, List.set_cons_zero, List.set_cons_succ, i64_w, i32_w]
          rfl
        refine pure_ (i := 8) (N := some 84) (v := ?_) (a' := ?_) bQ67_21 rfl rfl (any_of HT_.out (by kernel_rfl)) (fun _ _ _ h => h) (Or.inl ⟨by rfl, ?_⟩) ?_ ?_
        rotate_left
        · intro w'
          go_simp
          with_reducible rfl
        rotate_left
        · simp only [Act.put, List.setIfInBounds_toArray, List.set_cons_zero, List.set_cons_succ, i64_w, i32_w]
          rfl
        refine pure_ (i := 9) (N := some 85) (v := undef) (a' := ?_) bQ67_22 rfl rfl (any_of HT_.out (by kernel_rfl)) (fun _ _ _ h => h) (Or.inr ⟨by rfl, rfl⟩) ?_ ?_
        rotate_left
        · simp only [Act.put, List.setIfInBounds_toArray, List.set_cons_zero, List.set_cons_succ, i64_w, i32_w]
          rfl
        refine pure_ (i := 10) (N := some 86) (v := undef) (a' := ?_) bQ67_23 rfl rfl (any_of HT_.out (by kernel_rfl)) (fun _ _ _ h => h) (Or.inr ⟨by rfl, rfl⟩) ?_ ?_
        rotate_left
        · simp only [Act.put, List.setIfInBounds_toArray, List.set_cons_zero, List.set_cons_succ, i64_w, i32_w]
          rfl
        refine pure_ (i := 11) (N := some 87) (v := undef) (a' := ?_) bQ67_24 rfl rfl (any_of HT_.out (by kernel_rfl)) (fun _ _ _ h => h) (Or.inr ⟨by rfl, rfl⟩) ?_ ?_
        rotate_left
        · simp only [Act.put, List.setIfInBounds_toArray, List.set_cons_zero, List.set_cons_succ, i64_w, i32_w]
          rfl
        refine pure_ (i := 12) (N := some 88) (v := undef) (a' := ?_) bQ67_25 rfl rfl (any_of HT_.out (by kernel_rfl)) (fun _ _ _ h => h) (Or.inr ⟨by rfl, rfl⟩) ?_ ?_
        rotate_left
        · simp only [Act.put, List.setIfInBounds_toArray, List.set_cons_zero, List.set_cons_succ, i64_w, i32_w]
          rfl
        refine pure_ (i := 13) (N := some 89) (v := undef) (a' := ?_) bQ67_26 rfl rfl (any_of HT_.out (by kernel_rfl)) (fun _ _ _ h => h) (Or.inr ⟨by rfl, rfl⟩) ?_ ?_
        rotate_left
        · simp only [Act.put, List.setIfInBounds_toArray, List.set_cons_zero, List.set_cons_succ, i64_w, i32_w]
          rfl
        refine pure_ (i := 14) (N := some 90) (v := undef) (a' := ?_) bQ67_27 rfl rfl (any_of HT_.out (by kernel_rfl)) (fun _ _ _ h => h) (Or.inr ⟨by rfl, rfl⟩) ?_ ?_
        rotate_left
        · simp only [Act.put, List.setIfInBounds_toArray, List.set_cons_zero, List.set_cons_succ, i64_w, i32_w]
          rfl
        refine pure_ (i := 15) (N := some 91) (v := undef) (a' := ?_) bQ67_28 rfl rfl (any_of HT_.out (by kernel_rfl)) (fun _ _ _ h => h) (Or.inr ⟨by rfl, rfl⟩) ?_ ?_
        rotate_left
        · simp only [Act.put, List.setIfInBounds_toArray, List.set_cons_zero, List.set_cons_succ, i64_w, i32_w]
          rfl
        refine pure_ (i := 16) (N := some 92) (v := undef) (a' := ?_) bQ67_29 rfl rfl (any_of HT_.out (by kernel_rfl)) (fun _ _ _ h => h) (Or.inr ⟨by rfl, rfl⟩) ?_ ?_
        rotate_left
        · simp only [Act.put, List.setIfInBounds_toArray, List.set_cons_zero, List.set_cons_succ, i64_w, i32_w]
          rfl
        refine pure_ (i := 17) (N := some 93) (v := undef) (a' := ?_) bQ67_30 rfl rfl (any_of HT_.out (by kernel_rfl)) (fun _ _ _ h => h) (Or.inr ⟨by rfl, rfl⟩) ?_ ?_
        rotate_left
        · simp only [Act.put, List.setIfInBounds_toArray, List.set_cons_zero, List.set_cons_succ, i64_w, i32_w]
          rfl
        refine pure_ (i := 18) (N := some 94) (v := ?_) (a' := ?_) bQ67_31 rfl rfl (any_of HT_.out (by kernel_rfl)) (fun _ _ _ h => h) (Or.inl ⟨by rfl, ?_⟩) ?_ ?_
        rotate_left
        · intro w'
          go_simp
          with_reducible rfl
        rotate_left
        · simp only [Act.put, List.setIfInBounds_toArray, List.set_cons_zero, List.set_cons_succ, i64_w, i32_w]
          rfl
        refine pure_ (i := 19) (N := some 95) (v := ?_) (a' := ?_) bQ67_32 rfl rfl (any_of HT_.out (by kernel_rfl)) (fun _ _ _ h => h) (Or.inl ⟨by rfl, ?_⟩) ?_ ?_
        rotate_left
        · intro w'
          go_simp
          with_reducible rfl
        rotate_left
        · simp only [Act.put, List.setIfInBounds_toArray, List.set_cons_zero, List.set_cons_succ, i64_w, i32_w]
          rfl
        refine done_ (done_of HT_.out (by kernel_rfl)) ?_
        try go_wp2
        (try simp only [← hl4_3])
        go_roundg k3
        case measure => have := HK1.out; have := HK2.out; have := HK3.out; omega
        case rel => exact ⟨(x4_3), (x5_3), (x49_3), (wrap64 (x49_3 + 1)), (by rfl), (by rfl), H', ⟨by have := HK1.out; have := HK2.out; have := HK3.out; omega⟩, ⟨by (try simp only [hl4_3]); exact HO_4.out⟩, ⟨by (try simp only [hl4_3]); exact HO_5.out⟩, ⟨by (try simp only [hl4_3]); exact HO_6.out⟩, ⟨by (try simp only [hl4_3]); exact BK344.out⟩, ⟨by exact HB.out⟩⟩
      rw [if_neg c71] at H
      have c71b0 : (x9_3 == (-1)) = false := beq_eq_false_iff_ne.mpr c71
      have c71b1 : (x9_3 != (-1)) = true := bne_iff_ne.mpr c71
      by_cases c73 : x49_3 < (x5_3.length : Int)
      rotate_left
      · rw [if_neg c73] at H
        exact absurd H (by simp)
      rw [if_pos c73] at H
      have c73b0 : decide (x49_3 < (x5_3.length : Int)) = true := decide_eq_true c73
      clear c73
      by_cases c74 : 0 ≤ x9_3
      rotate_left
      · rw [if_neg c74] at H
        exact absurd H (by simp)
      rw [if_pos c74] at H
      have c74b0 : decide (0 ≤ x9_3) = true := decide_eq_true c74
      clear c74
      by_cases c75 : x9_3 < (x5_3.length : Int)
      rotate_left
      · rw [if_neg c75] at H
        exact absurd H (by simp)
      rw [if_pos c75] at H
      have c75b0 : decide (x9_3 < (x5_3.length : Int)) = true := decide_eq_true c75
      clear c75
      by_cases c76 : (rd x5_3 x49_3) < (rd x5_3 x9_3)
      · rw [if_pos c76] at H
        have c76b0 : decide ((rd x5_3 x49_3) < (rd x5_3 x9_3)) = true := decide_eq_true c76
        clear c76
        have H' := Aside0.mk H
        clear H
        have p364 : 0 ≤ (x49_3 : Int) := of_decide_eq_true (by (with_reducible assumption))
        have q364 : x49_3 < (l0_1.length : Int) := of_decide_eq_true (by (with_reducible assumption))
        obtain ⟨ad364, e364, hx364_0⟩ := Kd.at_int HR0_1.out x49_3 p364 q364
        cases e364
        replace hx364_0 := (HB.out.cell (World.block_lt_of_cell? w _ hx364_0)).trans hx364_0
        replace p364 := eq_true p364
        replace q364 := eq_true q364
        try go_wp2
        have n0_ := Aside0.mk (Kd.R_drew HO_4.out)
        have n1_ := Aside0.mk (Kd.R_drew HO_5.out)
        have n2_ := Aside0.mk (Kd.R_drew HO_6.out)
        have n3_ := Aside0.mk (blk_drew BK344.out)
        have n4_ := Aside0.mk (below_drew1 HB.out)
        clear HO_4
        clear HO_5
        clear HO_6
        clear BK344
        clear HB
        have HO_4 := n0_
        have HO_5 := n1_
        have HO_6 := n2_
        have BK344 := n3_
        have HB := n4_
        clear n0_ n1_ n2_ n3_ n4_
        have p372 : 0 ≤ (x49_3 : Int) := of_decide_eq_true (by (with_reducible assumption))
        have q372 : x49_3 < (x4_3.length : Int) := of_decide_eq_true (by (with_reducible assumption))
        obtain ⟨ad372, e372, hx372_0⟩ := Kd.at_int (Kd.R_reads' HO_4.out).2.2 x49_3 p372 q372
        cases e372
        replace p372 := eq_true p372
        replace q372 := eq_true q372
        obtain ⟨Ao78, co78, eo78⟩ := Kd.R_slice HO_5.out
        (subst eo78)
        have p373 : 0 ≤ (x49_3 : Int) := of_decide_eq_true (by (with_reducible assumption))
        have q373 : x49_3 < (x5_3.length : Int) := of_decide_eq_true (by (with_reducible assumption))
        obtain ⟨ad373, e373, hx373_0⟩ := Kd.at_int (Kd.R_reads' HO_5.out).2.2 x49_3 p373 q373
        cases e373
        replace p373 := eq_true p373
        replace q373 := eq_true q373
        have p374 : 0 ≤ (x9_3 : Int) := of_decide_eq_true (by (with_reducible assumption))
        have q374 : x9_3 < (x5_3.length : Int) := of_decide_eq_true (by (with_reducible assumption))
        obtain ⟨ad374, e374, hx374_0⟩ := Kd.at_int (Kd.R_reads' HO_5.out).2.2 x9_3 p374 q374
        obtain rfl : ad373 = ad374 := (by injection e374)
        replace p374 := eq_true p374
        replace q374 := eq_true q374
        refine start_ (n := 20) (S := fun w' => w'.cell? (ad372.add (x49_3).toNat) = some (.int .i64 (rd x4_3 x49_3)) ∧ w'.cell? (ad373.add (x49_3).toNat) = some (.int .i64 (rd x5_3 x49_3)) ∧ w'.cell? (ad373.add (x9_3).toNat) = some (.int .i64 (rd x5_3 x9_3))) (ds := []) bQ67_12 (by kernel_rfl) rfl rfl ⟨hx372_0, hx373_0, hx374_0⟩ (fun hHeld => ?_); refine with_tabW impl_Jobs_earliest.tab19 impl_Jobs_earliest.bits19 (fun HT_ HW_ => ?_)
        generalize wr.drew = w77 at HO_4 HO_5 HO_6 BK344 HB hx372_0 hx373_0 hx374_0 hHeld ⊢
        refine pure_ (i := 0) (N := some 76) (v := ?_) (a' := ?_) bQ67_13 rfl rfl (any_of HT_.out (by kernel_rfl)) (fun _ _ _ h => h) (Or.inl ⟨by rfl, ?_⟩) ?_ ?_
        rotate_left
        · intro w'
          go_simp
          with_reducible rfl
        rotate_left
        · simp only [Act.put, List.setIfInBounds_toArray, List.set_cons_zero, List.set_cons_succ, i64_w, i32_w]
          rfl
        refine pure_ (i := 1) (N := some 77) (v := ?_) (a' := ?_) bQ67_14 rfl rfl (any_of HT_.out (by kernel_rfl)) (fun _ _ _ h => h) (Or.inl ⟨by rfl, ?_⟩) ?_ ?_
        rotate_left
        · intro w'
          go_simp
          with_reducible rfl
        rotate_left
        · simp only [Act.put, List.setIfInBounds_toArray, List.set_cons_zero, List.set_cons_succ, i64_w, i32_w]
          rfl
        refine pure_ (i := 2) (N := some 78) (v := ?_) (a' := ?_) bQ67_15 rfl rfl (any_of HT_.out (by kernel_rfl)) (fun _ _ _ h => h) (Or.inl ⟨by rfl, ?_⟩) ?_ ?_
        rotate_left
        · intro w'
          go_simp
          with_reducible rfl
        rotate_left
        · simp only [Act.put, List.setIfInBounds_toArray, List.set_cons_zero, List.set_cons_succ, i64_w, i32_w]
          rfl
        refine take_ (i := 3) (N := some 79) (v := ?_) (a' := ?_) bQ67_16 rfl rfl (take_ofW HT_.out HW_.out (by kernel_rfl)) (fun _ _ _ h => h) (Or.inl ⟨by rfl, ?_⟩) hHeld ?_ ?_
        rotate_left
        · rintro w' ⟨s0, s1, s2⟩
          go_simp
          with_reducible rfl
        rotate_left
        · simp only [Act.put, List.setIfInBounds_toArray, List.set_cons_zero, List.set_cons_succ, i64_w, i32_w]
          rfl
        refine pure_ (i := 4) (N := some 80) (v := ?_) (a' := ?_) bQ67_17 rfl rfl (any_of HT_.out (by kernel_rfl)) (fun _ _ _ h => h) (Or.inl ⟨by rfl, ?_⟩) ?_ ?_
        rotate_left
        · intro w'
          go_simp
          with_reducible rfl
        rotate_left
        · simp only [Act.put, List.setIfInBounds_toArray, List.set_cons_zero, List.set_cons_succ, i64_w, i32_w]
          rfl
        refine pure_ (i := 5) (N := some 81) (v := ?_) (a' := ?_) bQ67_18 rfl rfl (any_of HT_.out (by kernel_rfl)) (fun _ _ _ h => h) (Or.inl ⟨by rfl, ?_⟩) ?_ ?_
        rotate_left
        · intro w'
          go_simp
          with_reducible rfl
        rotate_left
        · simp only [Act.put, List.setIfInBounds_toArray, List.set_cons_zero, List.set_cons_succ, i64_w, i32_w]
          rfl
        refine pure_ (i := 6) (N := some 82) (v := ?_) (a' := ?_) bQ67_19 rfl rfl (any_of HT_.out (by kernel_rfl)) (fun _ _ _ h => h) (Or.inl ⟨by rfl, ?_⟩) ?_ ?_
        rotate_left
        · intro w'
          go_simp
          with_reducible rfl
        rotate_left
        · simp only [Act.put, List.setIfInBounds_toArray, List.set_cons_zero, List.set_cons_succ, i64_w, i32_w]
          rfl
        refine pure_ (i := 7) (N := some 83) (v := ?_) (a' := ?_) bQ67_20 rfl rfl (any_of HT_.out (by kernel_rfl)) (fun _ _ _ h => h) (Or.inl ⟨by rfl, ?_⟩) ?_ ?_
        rotate_left
        · intro w'
          go_simp
          with_reducible rfl
        rotate_left
        · simp only [Act.put, List.setIfInBounds_toArray, List.set_cons_zero, List.set_cons_succ, i64_w, i32_w]
          rfl
        refine pure_ (i := 8) (N := some 84) (v := ?_) (a' := ?_) bQ67_21 rfl rfl (any_of HT_.out (by kernel_rfl)) (fun _ _ _ h => h) (Or.inl ⟨by rfl, ?_⟩) ?_ ?_
        rotate_left
        · intro w'
          go_simp
          with_reducible rfl
        rotate_left
        · simp only [Act.put, List.setIfInBounds_toArray, List.set_cons_zero, List.set_cons_succ, i64_w, i32_w]
          rfl
        refine pure_ (i := 9) (N := some 85) (v := ?_) (a' := ?_) bQ67_22 rfl rfl (any_of HT_.out (by kernel_rfl)) (fun _ _ _ h => h) (Or.inl ⟨by rfl, ?_⟩) ?_ ?_
        rotate_left
        · intro w'
          go_simp
          with_reducible rfl
        rotate_left
        · simp only [Act.put, List.setIfInBounds_toArray, List.set_cons_zero, List.set_cons_succ, i64_w, i32_w]
          rfl
        refine pure_ (i := 10) (N := some 86) (v := ?_) (a' := ?_) bQ67_23 rfl rfl (any_of HT_.out (by kernel_rfl)) (fun _ _ _ h => h) (Or.inl ⟨by rfl, ?_⟩) ?_ ?_
        rotate_left
        · intro w'
          go_simp
          with_reducible rfl
        rotate_left
        · simp only [Act.put, List.setIfInBounds_toArray, List.set_cons_zero, List.set_cons_succ, i64_w, i32_w]
          rfl
        refine pure_ (i := 11) (N := some 87) (v := ?_) (a' := ?_) bQ67_24 rfl rfl (any_of HT_.out (by kernel_rfl)) (fun _ _ _ h => h) (Or.inl ⟨by rfl, ?_⟩) ?_ ?_
        rotate_left
        · intro w'
          go_simp
          with_reducible rfl
        rotate_left
        · simp only [Act.put, List.setIfInBounds_toArray, List.set_cons_zero, List.set_cons_succ, i64_w, i32_w]
          rfl
        refine pure_ (i := 13) (N := some 89) (v := ?_) (a' := ?_) bQ67_33 rfl rfl (any_of HT_.out (by kernel_rfl)) (fun _ _ _ h => h) (Or.inl ⟨by rfl, ?_⟩) ?_ ?_
        rotate_left
        · intro w'
          go_simp
          with_reducible rfl
        rotate_left
        · simp only [Act.put, List.setIfInBounds_toArray, List.set_cons_zero, List.set_cons_succ, i64_w, i32_w]
          rfl
        refine pure_ (i := 14) (N := some 90) (v := ?_) (a' := ?_) bQ67_34 rfl rfl (any_of HT_.out (by kernel_rfl)) (fun _ _ _ h => h) (Or.inl ⟨by rfl, ?_⟩) ?_ ?_
        rotate_left
        · intro w'
          go_simp
          with_reducible rfl
        rotate_left
        · simp only [Act.put, List.setIfInBounds_toArray, List.set_cons_zero, List.set_cons_succ, i64_w, i32_w]
          rfl
        refine pure_ (i := 15) (N := some 91) (v := ?_) (a' := ?_) bQ67_35 rfl rfl (any_of HT_.out (by kernel_rfl)) (fun _ _ _ h => h) (Or.inl ⟨by rfl, ?_⟩) ?_ ?_
        rotate_left
        · intro w'
          go_simp
          with_reducible rfl
        rotate_left
        · simp only [Act.put, List.setIfInBounds_toArray, List.set_cons_zero, List.set_cons_succ, i64_w, i32_w]
          rfl
        refine take_ (i := 12) (N := some 88) (v := ?_) (a' := ?_) bQ67_28 rfl rfl (take_ofW HT_.out HW_.out (by kernel_rfl)) (fun _ _ _ h => h) (Or.inl ⟨by rfl, ?_⟩) hHeld ?_ ?_
        rotate_left
        · rintro w' ⟨s0, s1, s2⟩
          go_simp
          with_reducible rfl
        rotate_left
        · simp only [Act.put, List.setIfInBounds_toArray, List.set_cons_zero, List.set_cons_succ, i64_w, i32_w]
          rfl
        refine take_ (i := 16) (N := some 92) (v := ?_) (a' := ?_) bQ67_29 rfl rfl (take_ofW HT_.out HW_.out (by kernel_rfl)) (fun _ _ _ h => h) (Or.inl ⟨by rfl, ?_⟩) hHeld ?_ ?_
        rotate_left
        · rintro w' ⟨s0, s1, s2⟩
          go_simp
          with_reducible rfl
        rotate_left
        · simp only [Act.put, List.setIfInBounds_toArray, List.set_cons_zero, List.set_cons_succ, i64_w, i32_w]
          rfl
        refine pure_ (i := 17) (N := some 93) (v := ?_) (a' := ?_) bQ67_30 rfl rfl (any_of HT_.out (by kernel_rfl)) (fun _ _ _ h => h) (Or.inl ⟨by rfl, ?_⟩) ?_ ?_
        rotate_left
        · intro w'
          go_simp
          with_reducible rfl
        rotate_left
        · simp only [Act.put, List.setIfInBounds_toArray, List.set_cons_zero, List.set_cons_succ, i64_w, i32_w]
          rfl
        refine pure_ (i := 18) (N := some 94) (v := ?_) (a' := ?_) bQ67_31 rfl rfl (any_of HT_.out (by kernel_rfl)) (fun _ _ _ h => h) (Or.inl ⟨by rfl, ?_⟩) ?_ ?_
        rotate_left
        · intro w'
          go_simp
          with_reducible rfl
        rotate_left
        · simp only [Act.put, List.setIfInBounds_toArray, List.set_cons_zero, List.set_cons_succ, i64_w, i32_w]
          rfl
        refine pure_ (i := 19) (N := some 95) (v := ?_) (a' := ?_) bQ67_32 rfl rfl (any_of HT_.out (by kernel_rfl)) (fun _ _ _ h => h) (Or.inl ⟨by rfl, ?_⟩) ?_ ?_
        rotate_left
        · intro w'
          go_simp
          with_reducible rfl
        rotate_left
        · simp only [Act.put, List.setIfInBounds_toArray, List.set_cons_zero, List.set_cons_succ, i64_w, i32_w]
          rfl
        refine done_ (done_of HT_.out (by kernel_rfl)) ?_
        try go_wp2
        (try simp only [← hl4_3])
        go_roundg k3
        case measure => have := HK1.out; have := HK2.out; have := HK3.out; omega
        case rel => exact ⟨(x4_3), (x5_3), (x49_3), (wrap64 (x49_3 + 1)), (by rfl), (by rfl), H', ⟨by have := HK1.out; have := HK2.out; have := HK3.out; omega⟩, ⟨by (try simp only [hl4_3]); exact HO_4.out⟩, ⟨by (try simp only [hl4_3]); exact HO_5.out⟩, ⟨by (try simp only [hl4_3]); exact HO_6.out⟩, ⟨by (try simp only [hl4_3]); exact BK344.out⟩, ⟨by exact HB.out⟩⟩
      rw [if_neg c76] at H
      have c76b0 : decide ((rd x5_3 x49_3) < (rd x5_3 x9_3)) = false := decide_eq_false c76
      clear c76
      have H' := Aside0.mk H
      clear H
      have p364 : 0 ≤ (x49_3 : Int) := of_decide_eq_true (by (with_reducible assumption))
      have q364 : x49_3 < (l0_1.length : Int) := of_decide_eq_true (by (with_reducible assumption))
      obtain ⟨ad364, e364, hx364_0⟩ := Kd.at_int HR0_1.out x49_3 p364 q364
      cases e364
      replace hx364_0 := (HB.out.cell (World.block_lt_of_cell? w _ hx364_0)).trans hx364_0
      replace p364 := eq_true p364
      replace q364 := eq_true q364
      try go_wp2
      have n0_ := Aside0.mk (Kd.R_drew HO_4.out)
      have n1_ := Aside0.mk (Kd.R_drew HO_5.out)
      have n2_ := Aside0.mk (Kd.R_drew HO_6.out)
      have n3_ := Aside0.mk (blk_drew BK344.out)
      have n4_ := Aside0.mk (below_drew1 HB.out)
      clear HO_4
      clear HO_5
      clear HO_6
      clear BK344
      clear HB
      have HO_4 := n0_
      have HO_5 := n1_
      have HO_6 := n2_
      have BK344 := n3_
      have HB := n4_
      clear n0_ n1_ n2_ n3_ n4_
      have p372 : 0 ≤ (x49_3 : Int) := of_decide_eq_true (by (with_reducible assumption))
      have q372 : x49_3 < (x4_3.length : Int) := of_decide_eq_true (by (with_reducible assumption))
      obtain ⟨ad372, e372, hx372_0⟩ := Kd.at_int (Kd.R_reads' HO_4.out).2.2 x49_3 p372 q372
      cases e372
      replace p372 := eq_true p372
      replace q372 := eq_true q372
      obtain ⟨Ao80, co80, eo80⟩ := Kd.R_slice HO_5.out
      (subst eo80)
      have p373 : 0 ≤ (x49_3 : Int) := of_decide_eq_true (by (with_reducible assumption))
      have q373 : x49_3 < (x5_3.length : Int) := of_decide_eq_true (by (with_reducible assumption))
      obtain ⟨ad373, e373, hx373_0⟩ := Kd.at_int (Kd.R_reads' HO_5.out).2.2 x49_3 p373 q373
      cases e373
      replace p373 := eq_true p373
      replace q373 := eq_true q373
      have p374 : 0 ≤ (x9_3 : Int) := of_decide_eq_true (by (with_reducible assumption))
      have q374 : x9_3 < (x5_3.length : Int) := of_decide_eq_true (by (with_reducible assumption))
      obtain ⟨ad374, e374, hx374_0⟩ := Kd.at_int (Kd.R_reads' HO_5.out).2.2 x9_3 p374 q374
      obtain rfl : ad373 = ad374 := (by injection e374)
      replace p374 := eq_true p374
      replace q374 := eq_true q374
      refine start_ (n := 20) (S := fun w' => w'.cell? (ad372.add (x49_3).toNat) = some (.int .i64 (rd x4_3 x49_3)) ∧ w'.cell? (ad373.add (x49_3).toNat) = some (.int .i64 (rd x5_3 x49_3)) ∧ w'.cell? (ad373.add (x9_3).toNat) = some (.int .i64 (rd x5_3 x9_3))) (ds := []) bQ67_12 (by kernel_rfl) rfl rfl ⟨hx372_0, hx373_0, hx374_0⟩ (fun hHeld => ?_); refine with_tabW impl_Jobs_earliest.tab19 impl_Jobs_earliest.bits19 (fun HT_ HW_ => ?_)
      generalize wr.drew = w79 at HO_4 HO_5 HO_6 BK344 HB hx372_0 hx373_0 hx374_0 hHeld ⊢
      refine pure_ (i := 0) (N := some 76) (v := ?_) (a' := ?_) bQ67_13 rfl rfl (any_of HT_.out (by kernel_rfl)) (fun _ _ _ h => h) (Or.inl ⟨by rfl, ?_⟩) ?_ ?_
      rotate_left
      · intro w'
        go_simp
        with_reducible rfl
      rotate_left
      · simp only [Act.put, List.setIfInBounds_toArray, List.set_cons_zero, List.set_cons_succ, i64_w, i32_w]
        rfl
      refine pure_ (i := 1) (N := some 77) (v := ?_) (a' := ?_) bQ67_14 rfl rfl (any_of HT_.out (by kernel_rfl)) (fun _ _ _ h => h) (Or.inl ⟨by rfl, ?_⟩) ?_ ?_
      rotate_left
      · intro w'
        go_simp
        with_reducible rfl
      rotate_left
      · simp only [Act.put, List.setIfInBounds_toArray, List.set_cons_zero, List.set_cons_succ, i64_w, i32_w]
        rfl
      refine pure_ (i := 2) (N := some 78) (v := ?_) (a' := ?_) bQ67_15 rfl rfl (any_of HT_.out (by kernel_rfl)) (fun _ _ _ h => h) (Or.inl ⟨by rfl, ?_⟩) ?_ ?_
      rotate_left
      · intro w'
        go_simp
        with_reducible rfl
      rotate_left
      · simp only [Act.put, List.setIfInBounds_toArray, List.set_cons_zero, List.set_cons_succ, i64_w, i32_w]
        rfl
      refine take_ (i := 3) (N := some 79) (v := ?_) (a' := ?_) bQ67_16 rfl rfl (take_ofW HT_.out HW_.out (by kernel_rfl)) (fun _ _ _ h => h) (Or.inl ⟨by rfl, ?_⟩) hHeld ?_ ?_
      rotate_left
      · rintro w' ⟨s0, s1, s2⟩
        go_simp
        with_reducible rfl
      rotate_left
      · simp only [Act.put, List.setIfInBounds_toArray, List.set_cons_zero, List.set_cons_succ, i64_w, i32_w]
        rfl
      refine pure_ (i := 4) (N := some 80) (v := ?_) (a' := ?_) bQ67_17 rfl rfl (any_of HT_.out (by kernel_rfl)) (fun _ _ _ h => h) (Or.inl ⟨by rfl, ?_⟩) ?_ ?_
      rotate_left
      · intro w'
        go_simp
        with_reducible rfl
      rotate_left
      · simp only [Act.put, List.setIfInBounds_toArray, List.set_cons_zero, List.set_cons_succ, i64_w, i32_w]
        rfl
      refine pure_ (i := 5) (N := some 81) (v := ?_) (a' := ?_) bQ67_18 rfl rfl (any_of HT_.out (by kernel_rfl)) (fun _ _ _ h => h) (Or.inl ⟨by rfl, ?_⟩) ?_ ?_
      rotate_left
      · intro w'
        go_simp
        with_reducible rfl
      rotate_left
      · simp only [Act.put, List.setIfInBounds_toArray, List.set_cons_zero, List.set_cons_succ, i64_w, i32_w]
        rfl
      refine pure_ (i := 6) (N := some 82) (v := ?_) (a' := ?_) bQ67_19 rfl rfl (any_of HT_.out (by kernel_rfl)) (fun _ _ _ h => h) (Or.inl ⟨by rfl, ?_⟩) ?_ ?_
      rotate_left
      · intro w'
        go_simp
        with_reducible rfl
      rotate_left
      · simp only [Act.put, List.setIfInBounds_toArray, List.set_cons_zero, List.set_cons_succ, i64_w, i32_w]
        rfl
      refine pure_ (i := 7) (N := some 83) (v := ?_) (a' := ?_) bQ67_20 rfl rfl (any_of HT_.out (by kernel_rfl)) (fun _ _ _ h => h) (Or.inl ⟨by rfl, ?_⟩) ?_ ?_
      rotate_left
      · intro w'
        go_simp
        with_reducible rfl
      rotate_left
      · simp only [Act.put, List.setIfInBounds_toArray, List.set_cons_zero, List.set_cons_succ, i64_w, i32_w]
        rfl
      refine pure_ (i := 8) (N := some 84) (v := ?_) (a' := ?_) bQ67_21 rfl rfl (any_of HT_.out (by kernel_rfl)) (fun _ _ _ h => h) (Or.inl ⟨by rfl, ?_⟩) ?_ ?_
      rotate_left
      · intro w'
        go_simp
        with_reducible rfl
      rotate_left
      · simp only [Act.put, List.setIfInBounds_toArray, List.set_cons_zero, List.set_cons_succ, i64_w, i32_w]
        rfl
      refine pure_ (i := 9) (N := some 85) (v := ?_) (a' := ?_) bQ67_22 rfl rfl (any_of HT_.out (by kernel_rfl)) (fun _ _ _ h => h) (Or.inl ⟨by rfl, ?_⟩) ?_ ?_
      rotate_left
      · intro w'
        go_simp
        with_reducible rfl
      rotate_left
      · simp only [Act.put, List.setIfInBounds_toArray, List.set_cons_zero, List.set_cons_succ, i64_w, i32_w]
        rfl
      refine pure_ (i := 10) (N := some 86) (v := ?_) (a' := ?_) bQ67_23 rfl rfl (any_of HT_.out (by kernel_rfl)) (fun _ _ _ h => h) (Or.inl ⟨by rfl, ?_⟩) ?_ ?_
      rotate_left
      · intro w'
        go_simp
        with_reducible rfl
      rotate_left
      · simp only [Act.put, List.setIfInBounds_toArray, List.set_cons_zero, List.set_cons_succ, i64_w, i32_w]
        rfl
      refine pure_ (i := 11) (N := some 87) (v := ?_) (a' := ?_) bQ67_24 rfl rfl (any_of HT_.out (by kernel_rfl)) (fun _ _ _ h => h) (Or.inl ⟨by rfl, ?_⟩) ?_ ?_
      rotate_left
      · intro w'
        go_simp
        with_reducible rfl
      rotate_left
      · simp only [Act.put, List.setIfInBounds_toArray, List.set_cons_zero, List.set_cons_succ, i64_w, i32_w]
        rfl
      refine pure_ (i := 13) (N := some 89) (v := ?_) (a' := ?_) bQ67_33 rfl rfl (any_of HT_.out (by kernel_rfl)) (fun _ _ _ h => h) (Or.inl ⟨by rfl, ?_⟩) ?_ ?_
      rotate_left
      · intro w'
        go_simp
        with_reducible rfl
      rotate_left
      · simp only [Act.put, List.setIfInBounds_toArray, List.set_cons_zero, List.set_cons_succ, i64_w, i32_w]
        rfl
      refine pure_ (i := 14) (N := some 90) (v := ?_) (a' := ?_) bQ67_34 rfl rfl (any_of HT_.out (by kernel_rfl)) (fun _ _ _ h => h) (Or.inl ⟨by rfl, ?_⟩) ?_ ?_
      rotate_left
      · intro w'
        go_simp
        with_reducible rfl
      rotate_left
      · simp only [Act.put, List.setIfInBounds_toArray, List.set_cons_zero, List.set_cons_succ, i64_w, i32_w]
        rfl
      refine pure_ (i := 15) (N := some 91) (v := ?_) (a' := ?_) bQ67_35 rfl rfl (any_of HT_.out (by kernel_rfl)) (fun _ _ _ h => h) (Or.inl ⟨by rfl, ?_⟩) ?_ ?_
      rotate_left
      · intro w'
        go_simp
        with_reducible rfl
      rotate_left
      · simp only [Act.put, List.setIfInBounds_toArray, List.set_cons_zero, List.set_cons_succ, i64_w, i32_w]
        rfl
      refine take_ (i := 12) (N := some 88) (v := ?_) (a' := ?_) bQ67_28 rfl rfl (take_ofW HT_.out HW_.out (by kernel_rfl)) (fun _ _ _ h => h) (Or.inl ⟨by rfl, ?_⟩) hHeld ?_ ?_
      rotate_left
      · rintro w' ⟨s0, s1, s2⟩
        go_simp
        with_reducible rfl
      rotate_left
      · simp only [Act.put, List.setIfInBounds_toArray, List.set_cons_zero, List.set_cons_succ, i64_w, i32_w]
        rfl
      refine take_ (i := 16) (N := some 92) (v := ?_) (a' := ?_) bQ67_29 rfl rfl (take_ofW HT_.out HW_.out (by kernel_rfl)) (fun _ _ _ h => h) (Or.inl ⟨by rfl, ?_⟩) hHeld ?_ ?_
      rotate_left
      · rintro w' ⟨s0, s1, s2⟩
        go_simp
        with_reducible rfl
      rotate_left
      · simp only [Act.put, List.setIfInBounds_toArray, List.set_cons_zero, List.set_cons_succ, i64_w, i32_w]
        rfl
      refine pure_ (i := 17) (N := some 93) (v := ?_) (a' := ?_) bQ67_30 rfl rfl (any_of HT_.out (by kernel_rfl)) (fun _ _ _ h => h) (Or.inl ⟨by rfl, ?_⟩) ?_ ?_
      rotate_left
      · intro w'
        go_simp
        with_reducible rfl
      rotate_left
      · simp only [Act.put, List.setIfInBounds_toArray, List.set_cons_zero, List.set_cons_succ, i64_w, i32_w]
        rfl
      refine pure_ (i := 18) (N := some 94) (v := ?_) (a' := ?_) bQ67_31 rfl rfl (any_of HT_.out (by kernel_rfl)) (fun _ _ _ h => h) (Or.inl ⟨by rfl, ?_⟩) ?_ ?_
      rotate_left
      · intro w'
        go_simp
        with_reducible rfl
      rotate_left
      · simp only [Act.put, List.setIfInBounds_toArray, List.set_cons_zero, List.set_cons_succ, i64_w, i32_w]
        rfl
      refine pure_ (i := 19) (N := some 95) (v := ?_) (a' := ?_) bQ67_32 rfl rfl (any_of HT_.out (by kernel_rfl)) (fun _ _ _ h => h) (Or.inl ⟨by rfl, ?_⟩) ?_ ?_
      rotate_left
      · intro w'
        go_simp
        with_reducible rfl
      rotate_left
      · simp only [Act.put, List.setIfInBounds_toArray, List.set_cons_zero, List.set_cons_succ, i64_w, i32_w]
        rfl
      refine done_ (done_of HT_.out (by kernel_rfl)) ?_
      try go_wp2
      (try simp only [← hl4_3])
      go_roundg k3
      case measure => have := HK1.out; have := HK2.out; have := HK3.out; omega
      case rel => exact ⟨(x4_3), (x5_3), (x9_3), (wrap64 (x49_3 + 1)), (by rfl), (by rfl), H', ⟨by have := HK1.out; have := HK2.out; have := HK3.out; omega⟩, ⟨by (try simp only [hl4_3]); exact HO_4.out⟩, ⟨by (try simp only [hl4_3]); exact HO_5.out⟩, ⟨by (try simp only [hl4_3]); exact HO_6.out⟩, ⟨by (try simp only [hl4_3]); exact BK344.out⟩, ⟨by exact HB.out⟩⟩
    rw [if_pos c37] at H
    have c37b0 : ((Int.tmod x7_1 (rd l0_1 x49_3)) == 0) = true := beq_iff_eq.mpr c37
    have c37b1 : ((Int.tmod x7_1 (rd l0_1 x49_3)) != 0) = false := bne_eq_false_iff_eq.mpr c37
    clear c37
    by_cases c38 : x49_3 < (l0_0.length : Int)
    rotate_left
    · rw [if_neg c38] at H
      exact absurd H (by simp)
    rw [if_pos c38] at H
    have c38b0 : decide (x49_3 < (l0_0.length : Int)) = true := decide_eq_true c38
    clear c38
    by_cases c39 : x49_3 < (l0_2.length : Int)
    rotate_left
    · rw [if_neg c39] at H
      exact absurd H (by simp)
    rw [if_pos c39] at H
    have c39b0 : decide (x49_3 < (l0_2.length : Int)) = true := decide_eq_true c39
    clear c39
    by_cases c40 : x49_3 < (x4_3.length : Int)
    rotate_left
    · rw [if_neg c40] at H
      exact absurd H (by simp)
    rw [if_pos c40] at H
    have c40b0 : decide (x49_3 < (x4_3.length : Int)) = true := decide_eq_true c40
    clear c40
    obtain ⟨y367, hy367⟩ : ∃ y_ : List Int, y_ = (x4_3.set (x49_3 : Int).toNat (rd l0_0 x49_3)) := ⟨_, rfl⟩
    replace H : (if x49_3 < (x5_3.length : Int) then ((some (x5_3.set (x49_3 : Int).toNat (wrap64 (x7_1 + (rd l0_2 x49_3))) : List Int)).bind fun y368 => (if (rd y367 x49_3) > 0 then (if x9_3 = (-1) then (impl_Jobs_earliest.l2 k3 y367 y368 x6_1 x7_1 x49_3 l0_1 (l0_1.length : Int) (wrap64 (x49_3 + 1)) l0_0 l0_1 l0_2) else (if 0 ≤ x9_3 then (if x9_3 < (x5_3.length : Int) then (if (rd y368 x49_3) < (rd y368 x9_3) then (impl_Jobs_earliest.l2 k3 y367 y368 x6_1 x7_1 x49_3 l0_1 (l0_1.length : Int) (wrap64 (x49_3 + 1)) l0_0 l0_1 l0_2) else (impl_Jobs_earliest.l2 k3 y367 y368 x6_1 x7_1 x9_3 l0_1 (l0_1.length : Int) (wrap64 (x49_3 + 1)) l0_0 l0_1 l0_2)) else (none)) else (none))) else (impl_Jobs_earliest.l2 k3 y367 y368 x6_1 x7_1 x9_3 l0_1 (l0_1.length : Int) (wrap64 (x49_3 + 1)) l0_0 l0_1 l0_2))) else (none)) = some (r1, r2) := by (have H2_ := (Option.bind_some _ _).symm.trans H; rw [hy367]; with_reducible exact H2_)
    have Ny367 := Aside0.mk hy367
    clear hy367
    by_cases c42 : x49_3 < (x5_3.length : Int)
    rotate_left
    · rw [if_neg c42] at H
      exact absurd H (by simp)
    rw [if_pos c42] at H
    have c42b0 : decide (x49_3 < (x5_3.length : Int)) = true := decide_eq_true c42
    clear c42
    obtain ⟨y368, hy368⟩ : ∃ y_ : List Int, y_ = (x5_3.set (x49_3 : Int).toNat (wrap64 (x7_1 + (rd l0_2 x49_3)))) := ⟨_, rfl⟩
    replace H : (if (rd y367 x49_3) > 0 then (if x9_3 = (-1) then (impl_Jobs_earliest.l2 k3 y367 y368 x6_1 x7_1 x49_3 l0_1 (l0_1.length : Int) (wrap64 (x49_3 + 1)) l0_0 l0_1 l0_2) else (if 0 ≤ x9_3 then (if x9_3 < (x5_3.length : Int) then (if (rd y368 x49_3) < (rd y368 x9_3) then (impl_Jobs_earliest.l2 k3 y367 y368 x6_1 x7_1 x49_3 l0_1 (l0_1.length : Int) (wrap64 (x49_3 + 1)) l0_0 l0_1 l0_2) else (impl_Jobs_earliest.l2 k3 y367 y368 x6_1 x7_1 x9_3 l0_1 (l0_1.length : Int) (wrap64 (x49_3 + 1)) l0_0 l0_1 l0_2)) else (none)) else (none))) else (impl_Jobs_earliest.l2 k3 y367 y368 x6_1 x7_1 x9_3 l0_1 (l0_1.length : Int) (wrap64 (x49_3 + 1)) l0_0 l0_1 l0_2)) = some (r1, r2) := by (have H2_ := (Option.bind_some _ _).symm.trans H; rw [hy368]; with_reducible exact H2_)
    have Ny368 := Aside0.mk hy368
    clear hy368
    by_cases c44 : (rd y367 x49_3) > 0
    rotate_left
    · rw [if_neg c44] at H
      have c44b0 : decide (0 < (rd y367 x49_3)) = false := decide_eq_false c44
      clear c44
      have H' := Aside0.mk H
      clear H
      have p364 : 0 ≤ (x49_3 : Int) := of_decide_eq_true (by (with_reducible assumption))
      have q364 : x49_3 < (l0_1.length : Int) := of_decide_eq_true (by (with_reducible assumption))
      obtain ⟨ad364, e364, hx364_0⟩ := Kd.at_int HR0_1.out x49_3 p364 q364
      cases e364
      replace hx364_0 := (HB.out.cell (World.block_lt_of_cell? w _ hx364_0)).trans hx364_0
      replace p364 := eq_true p364
      replace q364 := eq_true q364
      try go_wp2
      have n0_ := Aside0.mk (Kd.R_drew HO_4.out)
      have n1_ := Aside0.mk (Kd.R_drew HO_5.out)
      have n2_ := Aside0.mk (Kd.R_drew HO_6.out)
      have n3_ := Aside0.mk (blk_drew BK344.out)
      have n4_ := Aside0.mk (below_drew1 HB.out)
      clear HO_4
      clear HO_5
      clear HO_6
      clear BK344
      clear HB
      have HO_4 := n0_
      have HO_5 := n1_
      have HO_6 := n2_
      have BK344 := n3_
      have HB := n4_
      clear n0_ n1_ n2_ n3_ n4_
      have p365 : 0 ≤ (x49_3 : Int) := of_decide_eq_true (by (with_reducible assumption))
      have q365 : x49_3 < (l0_0.length : Int) := of_decide_eq_true (by (with_reducible assumption))
      obtain ⟨ad365, e365, hx365_0⟩ := Kd.at_int HR0_0.out x49_3 p365 q365
      have hw365_0 := hx365_0
      cases e365
      replace hx365_0 := (HB.out.cell (World.block_lt_of_cell? w _ hx365_0)).trans hx365_0
      replace p365 := eq_true p365
      replace q365 := eq_true q365
      have p366 : 0 ≤ (x49_3 : Int) := of_decide_eq_true (by (with_reducible assumption))
      have q366 : x49_3 < (l0_2.length : Int) := of_decide_eq_true (by (with_reducible assumption))
      obtain ⟨ad366, e366, hx366_0⟩ := Kd.at_int HR0_2.out x49_3 p366 q366
      have hw366_0 := hx366_0
      cases e366
      replace hx366_0 := (HB.out.cell (World.block_lt_of_cell? w _ hx366_0)).trans hx366_0
      replace p366 := eq_true p366
      replace q366 := eq_true q366
      have p41 : 0 ≤ (x49_3 : Int) := of_decide_eq_true (by (with_reducible assumption))
      have q41 : (x49_3 : Int) < ((x4_3.length : Int) : Int) := of_decide_eq_true (by (with_reducible assumption))
      obtain ⟨go41, co41, eo41, gb41, gl41, cl41, HG41⟩ := Kd.R_form HO_4.out (by omega)
      (cases eo41)
      have GB41 := Aside0.mk gb41
      have GG41 := Aside0.mk HG41
      clear gb41 gl41 HG41
      obtain ⟨hx41_0, hf41_0⟩ := Kd.R_celln 0 HO_4.out (x49_3 : Int) p41 q41
      replace p41 := eq_true p41
      replace q41 := eq_true q41
      have HP65 := Kd.R_putn HO_4.out (x49_3 : Int) (rd l0_0 x49_3)
      rw [← Ny367.out] at HP65
      have HQ65 := Aside0.mk HP65
      clear HP65
      have p43 : 0 ≤ (x49_3 : Int) := of_decide_eq_true (by (with_reducible assumption))
      have q43 : (x49_3 : Int) < ((x5_3.length : Int) : Int) := of_decide_eq_true (by (with_reducible assumption))
      obtain ⟨go43, co43, eo43, gb43, gl43, cl43, HG43⟩ := Kd.R_form HO_5.out (by omega)
      (cases eo43)
      have GB43 := Aside0.mk gb43
      have GG43 := Aside0.mk HG43
      clear gb43 gl43 HG43
      obtain ⟨hx43_0, hf43_0⟩ := Kd.R_celln 0 (Kd.R_far (p := ⟨go41, (x49_3 : Int).toNat, none⟩) (Kd.R_mono HO_5.out (fun k_ hk => (⟨hk, fun e_ => hk.1 (by rw [e_]; rfl)⟩ : _ ∧ k_ ≠ go41))) (fun _ hk => hk.2) (.int .i64 (rd l0_0 x49_3))) (x49_3 : Int) p43 q43
      replace p43 := eq_true p43
      replace q43 := eq_true q43
      have HP66 := Kd.R_putn (Kd.R_far (p := ⟨go41, (x49_3 : Int).toNat, none⟩) (Kd.R_mono HO_5.out (fun k_ hk => (⟨hk, fun e_ => hk.1 (by rw [e_]; rfl)⟩ : _ ∧ k_ ≠ go41))) (fun _ hk => hk.2) (.int .i64 (rd l0_0 x49_3))) (x49_3 : Int) (wrap64 (x7_1 + (rd l0_2 x49_3)))
      rw [← Ny368.out] at HP66
      have HQ66 := Aside0.mk HP66
      clear HP66
      refine start_ (n := 20) (S := fun w' => w'.cell? ⟨gb344, 0, none⟩ = some (.slice (some ad365) l0_0.length c0_0) ∧ w'.cell? ⟨gb344, 1, none⟩ = some (.slice (some ad364) l0_1.length c0_1) ∧ w'.cell? ⟨gb344, 2, none⟩ = some (.slice (some ad366) l0_2.length c0_2) ∧ w'.cell? (ad365.add (x49_3).toNat) = some (.int .i64 (rd l0_0 x49_3)) ∧ w'.cell? (ad366.add (x49_3).toNat) = some (.int .i64 (rd l0_2 x49_3))) (ds := [17, 19]) bQ67_12 (by kernel_rfl) rfl rfl ⟨(blk_cell BK344.out 0).trans rfl, (blk_cell BK344.out 1).trans rfl, (blk_cell BK344.out 2).trans rfl, ((HB.out.cell (World.block_lt_of_cell? w _ hw365_0)).trans hw365_0), ((HB.out.cell (World.block_lt_of_cell? w _ hw366_0)).trans hw366_0)⟩ (fun hHeld => ?_); refine with_tabW impl_Jobs_earliest.tab18 impl_Jobs_earliest.bits18 (fun HT_ HW_ => ?_)
      generalize wr.drew = w64 at HO_4 HO_5 HO_6 BK344 HB GG41 GG43 HQ65 HQ66 hf41_0 hf43_0 hx365_0 hx366_0 hx41_0 hx43_0 hHeld ⊢
      refine pure_ (i := 0) (N := some 58) (v := ?_) (a' := ?_) bQ67_13 rfl rfl (any_of HT_.out (by kernel_rfl)) (fun _ _ _ h => h) (Or.inl ⟨by rfl, ?_⟩) ?_ ?_
      rotate_left
      · intro w'
        go_simp
        with_reducible rfl
      rotate_left
      · simp only [Act.put, List.setIfInBounds_toArray, List.set_cons_zero, List.set_cons_succ, i64_w, i32_w]
        rfl
      refine pure_ (i := 1) (N := some 59) (v := ?_) (a' := ?_) bQ67_14 rfl rfl (any_of HT_.out (by kernel_rfl)) (fun _ _ _ h => h) (Or.inl ⟨by rfl, ?_⟩) ?_ ?_
      rotate_left
      · intro w'
        go_simp
        with_reducible rfl
      rotate_left
      · simp only [Act.put, List.setIfInBounds_toArray, List.set_cons_zero, List.set_cons_succ, i64_w, i32_w]
        rfl
      refine pure_ (i := 2) (N := some 60) (v := ?_) (a' := ?_) bQ67_15 rfl rfl (any_of HT_.out (by kernel_rfl)) (fun _ _ _ h => h) (Or.inl ⟨by rfl, ?_⟩) ?_ ?_
      rotate_left
      · intro w'
        go_simp
        with_reducible rfl
      rotate_left
      · simp only [Act.put, List.setIfInBounds_toArray, List.set_cons_zero, List.set_cons_succ, i64_w, i32_w]
        rfl
      refine pure_ (i := 3) (N := some 61) (v := ?_) (a' := ?_) bQ67_16 rfl rfl (any_of HT_.out (by kernel_rfl)) (fun _ _ _ h => h) (Or.inl ⟨by rfl, ?_⟩) ?_ ?_
      rotate_left
      · intro w'
        go_simp
        with_reducible rfl
      rotate_left
      · simp only [Act.put, List.setIfInBounds_toArray, List.set_cons_zero, List.set_cons_succ, i64_w, i32_w]
        rfl
      refine pure_ (i := 4) (N := some 62) (v := ?_) (a' := ?_) bQ67_17 rfl rfl (any_of HT_.out (by kernel_rfl)) (fun _ _ _ h => h) (Or.inl ⟨by rfl, ?_⟩) ?_ ?_
      rotate_left
      · intro w'
        go_simp
        with_reducible rfl
      rotate_left
      · simp only [Act.put, List.setIfInBounds_toArray, List.set_cons_zero, List.set_cons_succ, i64_w, i32_w]
        rfl
      refine pure_ (i := 6) (N := some 64) (v := ?_) (a' := ?_) bQ67_36 rfl rfl (any_of HT_.out (by kernel_rfl)) (fun _ _ _ h => h) (Or.inl ⟨by rfl, ?_⟩) ?_ ?_
      rotate_left
      · intro w'
        go_simp
        with_reducible rfl
      rotate_left
      · simp only [Act.put, List.setIfInBounds_toArray, List.set_cons_zero, List.set_cons_succ, i64_w, i32_w]
        rfl
      refine pure_ (i := 9) (N := some 67) (v := ?_) (a' := ?_) bQ67_37 rfl rfl (any_of HT_.out (by kernel_rfl)) (fun _ _ _ h => h) (Or.inl ⟨by rfl, ?_⟩) ?_ ?_
      rotate_left
      · intro w'
        go_simp
        with_reducible rfl
      rotate_left
      · simp only [Act.put, List.setIfInBounds_toArray, List.set_cons_zero, List.set_cons_succ, i64_w, i32_w]
        rfl
      refine pure_ (i := 10) (N := some 68) (v := ?_) (a' := ?_) bQ67_38 rfl rfl (any_of HT_.out (by kernel_rfl)) (fun _ _ _ h => h) (Or.inl ⟨by rfl, ?_⟩) ?_ ?_
      rotate_left
      · intro w'
        go_simp
        with_reducible rfl
      rotate_left
      · simp only [Act.put, List.setIfInBounds_toArray, List.set_cons_zero, List.set_cons_succ, i64_w, i32_w]
        rfl
      refine pure_ (i := 12) (N := some 70) (v := ?_) (a' := ?_) bQ67_39 rfl rfl (any_of HT_.out (by kernel_rfl)) (fun _ _ _ h => h) (Or.inl ⟨by rfl, ?_⟩) ?_ ?_
      rotate_left
      · intro w'
        go_simp
        with_reducible rfl
      rotate_left
      · simp only [Act.put, List.setIfInBounds_toArray, List.set_cons_zero, List.set_cons_succ, i64_w, i32_w]
        rfl
      refine take_ (i := 5) (N := some 63) (v := ?_) (a' := ?_) bQ67_40 rfl rfl (take_ofW HT_.out HW_.out (by kernel_rfl)) (fun _ _ _ h => h) (Or.inl ⟨by rfl, ?_⟩) hHeld ?_ ?_
      rotate_left
      · rintro w' ⟨s0, s1, s2, s3, s4⟩
        go_simp
        with_reducible rfl
      rotate_left
      · simp only [Act.put, List.setIfInBounds_toArray, List.set_cons_zero, List.set_cons_succ, i64_w, i32_w]
        rfl
      refine pure_ (i := 7) (N := some 65) (v := ?_) (a' := ?_) bQ67_41 rfl rfl (any_of HT_.out (by kernel_rfl)) (fun _ _ _ h => h) (Or.inl ⟨by rfl, ?_⟩) ?_ ?_
      rotate_left
      · intro w'
        go_simp
        with_reducible rfl
      rotate_left
      · simp only [Act.put, List.setIfInBounds_toArray, List.set_cons_zero, List.set_cons_succ, i64_w, i32_w]
        rfl
      refine take_ (i := 8) (N := some 66) (v := ?_) (a' := ?_) bQ67_42 rfl rfl (take_ofW HT_.out HW_.out (by kernel_rfl)) (fun _ _ _ h => h) (Or.inl ⟨by rfl, ?_⟩) hHeld ?_ ?_
      rotate_left
      · rintro w' ⟨s0, s1, s2, s3, s4⟩
        go_simp
        with_reducible rfl
      rotate_left
      · simp only [Act.put, List.setIfInBounds_toArray, List.set_cons_zero, List.set_cons_succ, i64_w, i32_w]
        rfl
      refine take_ (i := 11) (N := some 69) (v := ?_) (a' := ?_) bQ67_25 rfl rfl (take_ofW HT_.out HW_.out (by kernel_rfl)) (fun _ _ _ h => h) (Or.inl ⟨by rfl, ?_⟩) hHeld ?_ ?_
      rotate_left
      · rintro w' ⟨s0, s1, s2, s3, s4⟩
        go_simp
        with_reducible rfl
      rotate_left
      · simp only [Act.put, List.setIfInBounds_toArray, List.set_cons_zero, List.set_cons_succ, i64_w, i32_w]
        rfl
      refine pure_ (i := 13) (N := some 71) (v := ?_) (a' := ?_) bQ67_26 rfl rfl (any_of HT_.out (by kernel_rfl)) (fun _ _ _ h => h) (Or.inl ⟨by rfl, ?_⟩) ?_ ?_
      rotate_left
      · intro w'
        go_simp
        with_reducible rfl
      rotate_left
      · simp only [Act.put, List.setIfInBounds_toArray, List.set_cons_zero, List.set_cons_succ, i64_w, i32_w]
        rfl
      refine take_ (i := 14) (N := some 72) (v := ?_) (a' := ?_) bQ67_27 rfl rfl (take_ofW HT_.out HW_.out (by kernel_rfl)) (fun _ _ _ h => h) (Or.inl ⟨by rfl, ?_⟩) hHeld ?_ ?_
      rotate_left
      · rintro w' ⟨s0, s1, s2, s3, s4⟩
        go_simp
        with_reducible rfl
      rotate_left
      · simp only [Act.put, List.setIfInBounds_toArray, List.set_cons_zero, List.set_cons_succ, i64_w, i32_w]
        rfl
      refine pure_ (i := 15) (N := some 73) (v := ?_) (a' := ?_) bQ67_28 rfl rfl (any_of HT_.out (by kernel_rfl)) (fun _ _ _ h => h) (Or.inl ⟨by rfl, ?_⟩) ?_ ?_
      rotate_left
      · intro w'
        go_simp
        with_reducible rfl
      rotate_left
      · simp only [Act.put, List.setIfInBounds_toArray, List.set_cons_zero, List.set_cons_succ, i64_w, i32_w]
        rfl
      refine pure_ (i := 16) (N := some 74) (v := ?_) (a' := ?_) bQ67_29 rfl rfl (any_of HT_.out (by kernel_rfl)) (fun _ _ _ h => h) (Or.inl ⟨by rfl, ?_⟩) ?_ ?_
      rotate_left
      · intro w'
        go_simp
        with_reducible rfl
      rotate_left
      · simp only [Act.put, List.setIfInBounds_toArray, List.set_cons_zero, List.set_cons_succ, i64_w, i32_w]
        rfl
      refine last_ (i := 17) (N := none) bQ67_30 rfl rfl (one_of HT_.out (by kernel_rfl)) (by decide) (fun K hK => ?_)
      refine skip_ (w1 := ?_) (by rfl) rfl ?_ ?_
      rotate_left
      · go_simp
        rfl
      refine hK.out _ _ ?_
      clear hK K
      refine pure_ (i := 18) (N := some 75) (v := ?_) (a' := ?_) bQ67_31 rfl rfl (any_of HT_.out (by kernel_rfl)) (fun _ _ _ h => h) (Or.inl ⟨by rfl, ?_⟩) ?_ ?_
      rotate_left
      · intro w'
        go_simp
        with_reducible rfl
      rotate_left
      · simp only [Act.put, List.setIfInBounds_toArray, List.set_cons_zero, List.set_cons_succ, i64_w, i32_w]
        rfl
      refine last_ (i := 19) (N := none) bQ67_32 rfl rfl (one_of HT_.out (by kernel_rfl)) (by decide) (fun K hK => ?_)
      refine skip_ (w1 := ?_) (by rfl) rfl ?_ ?_
      rotate_left
      · go_simp
        rfl
      refine hK.out _ _ ?_
      clear hK K
      refine done_ (done_of HT_.out (by kernel_rfl)) ?_
      try go_wp2
      have n0_ : Aside0 (Kd.R (Kd.int .i64) 2 ((w64.setCell ⟨go41, (x49_3 : Int).toNat, none⟩ (.int .i64 (rd l0_0 x49_3))).setCell ⟨go43, (x49_3 : Int).toNat, none⟩ (.int .i64 (wrap64 (x7_1 + (rd l0_2 x49_3))))) w.heap.size (fun k_ => some k_ ≠ (.slice (some ⟨go43, 0, none⟩) x5_3.length co43 : Value).ownBlock ∧ some k_ ≠ (u6 : Value).ownBlock) (.slice (some ⟨go41, 0, none⟩) x4_3.length co17) y367) := ⟨by exact Kd.R_mono (Kd.R_far (p := ⟨go43, (x49_3 : Int).toNat, none⟩) (Kd.R_mono HQ65.out (fun k_ hk => (⟨hk, fun e_ => hk.1 (by rw [e_]; rfl)⟩ : _ ∧ k_ ≠ go43))) (fun _ hk => hk.2) (.int .i64 (wrap64 (x7_1 + (rd l0_2 x49_3))))) (fun _ hk => ⟨hk.1.1, hk.1.2⟩)⟩
      have n1_ : Aside0 (Kd.R (Kd.int .i64) 2 ((w64.setCell ⟨go41, (x49_3 : Int).toNat, none⟩ (.int .i64 (rd l0_0 x49_3))).setCell ⟨go43, (x49_3 : Int).toNat, none⟩ (.int .i64 (wrap64 (x7_1 + (rd l0_2 x49_3))))) w.heap.size (fun k_ => some k_ ≠ (.slice (some ⟨go41, 0, none⟩) x4_3.length co17 : Value).ownBlock ∧ some k_ ≠ (u6 : Value).ownBlock) (.slice (some ⟨go43, 0, none⟩) x5_3.length co43) y368) := ⟨by exact Kd.R_mono HQ66.out (fun _ hk => ⟨hk.1.1, hk.1.2⟩)⟩
      have n2_ : Aside0 (Kd.R (Kd.int .i64) 2 ((w64.setCell ⟨go41, (x49_3 : Int).toNat, none⟩ (.int .i64 (rd l0_0 x49_3))).setCell ⟨go43, (x49_3 : Int).toNat, none⟩ (.int .i64 (wrap64 (x7_1 + (rd l0_2 x49_3))))) w.heap.size (fun k_ => some k_ ≠ (.slice (some ⟨go41, 0, none⟩) x4_3.length co17 : Value).ownBlock ∧ some k_ ≠ (.slice (some ⟨go43, 0, none⟩) x5_3.length co43 : Value).ownBlock) u6 x6_1) := ⟨by exact Kd.R_mono (Kd.R_far (p := ⟨go43, (x49_3 : Int).toNat, none⟩) (Kd.R_far (p := ⟨go41, (x49_3 : Int).toNat, none⟩) (Kd.R_mono (Kd.R_mono HO_6.out (fun k_ hk => (⟨hk, fun e_ => hk.1 (by rw [e_]; rfl)⟩ : _ ∧ k_ ≠ go41))) (fun k_ hk => (⟨hk, fun e_ => hk.1.2 (by rw [e_]; rfl)⟩ : _ ∧ k_ ≠ go43))) (fun _ hk => hk.1.2) (.int .i64 (rd l0_0 x49_3))) (fun _ hk => hk.2) (.int .i64 (wrap64 (x7_1 + (rd l0_2 x49_3))))) (fun _ hk => ⟨hk.1.1.1, hk.1.1.2⟩)⟩
      have n3_ : Aside0 (((w64.setCell ⟨go41, (x49_3 : Int).toNat, none⟩ (.int .i64 (rd l0_0 x49_3))).setCell ⟨go43, (x49_3 : Int).toNat, none⟩ (.int .i64 (wrap64 (x7_1 + (rd l0_2 x49_3))))).heap[gb344]? = some (.cells #[.slice (some ad365) l0_0.length c0_0, .slice (some ad364) l0_1.length c0_1, .slice (some ad366) l0_2.length c0_2] 33 (0, 0))) := ⟨by refine blk_far ?_ (by have h_ := Kd.R_ne HO_5.out BK344.out (by decide); intro e_; exact h_ (by rw [e_]; rfl)) _; refine blk_far ?_ (by have h_ := Kd.R_ne HO_4.out BK344.out (by decide); intro e_; exact h_ (by rw [e_]; rfl)) _; exact BK344.out⟩
      have n4_ : Aside0 (Below w.heap.size w ((w64.setCell ⟨go41, (x49_3 : Int).toNat, none⟩ (.int .i64 (rd l0_0 x49_3))).setCell ⟨go43, (x49_3 : Int).toNat, none⟩ (.int .i64 (wrap64 (x7_1 + (rd l0_2 x49_3)))))) := ⟨by repeat (with_reducible first | exact HB.out | refine below_set ?_ GB41.out | refine below_set ?_ GB43.out)⟩
      (try clear HO_4)
      (try clear HO_5)
      (try clear HO_6)
      (try clear BK344)
      (try clear HB)
      generalize ((w64.setCell ⟨go41, (x49_3 : Int).toNat, none⟩ (.int .i64 (rd l0_0 x49_3))).setCell ⟨go43, (x49_3 : Int).toNat, none⟩ (.int .i64 (wrap64 (x7_1 + (rd l0_2 x49_3))))) = w67 at n0_ n1_ n2_ n3_ n4_ ⊢
      have HO_4 := n0_
      have HO_5 := n1_
      have HO_6 := n2_
      have BK344 := n3_
      have HB := n4_
      clear n0_ n1_ n2_ n3_ n4_
      have n0_ := Aside0.mk (Kd.R_drew HO_4.out)
      have n1_ := Aside0.mk (Kd.R_drew HO_5.out)
      have n2_ := Aside0.mk (Kd.R_drew HO_6.out)
      have n3_ := Aside0.mk (blk_drew BK344.out)
      have n4_ := Aside0.mk (below_drew1 HB.out)
      clear HO_4
      clear HO_5
      clear HO_6
      clear BK344
      clear HB
      have HO_4 := n0_
      have HO_5 := n1_
      have HO_6 := n2_
      have BK344 := n3_
      have HB := n4_
      clear n0_ n1_ n2_ n3_ n4_
      have p369 : 0 ≤ (x49_3 : Int) := of_decide_eq_true (by (with_reducible assumption))
      have q369 : x49_3 < (y367.length : Int) := (by have h_ : (x49_3 : Int) < ((x4_3.length : Int) : Int) := of_decide_eq_true (by (with_reducible assumption)); (have e_ := (Kd.R_reads' HO_4.out).1; omega))
      have ql369 : ((x49_3 : Int) < ((x4_3.length : Int) : Int)) = True := eq_true (of_decide_eq_true (by (with_reducible assumption)))
      obtain ⟨ad369, e369, hx369_0⟩ := Kd.at_int (Kd.R_reads' HO_4.out).2.2 x49_3 p369 q369
      obtain rfl : (⟨go41, 0, none⟩ : Addr) = ad369 := (by injection e369)
      (simp only [add_plain] at hx369_0)
      replace p369 := eq_true p369
      replace q369 := eq_true q369
      refine start_ (n := 20) (S := fun w' => w'.cell? ⟨go41, (x49_3).toNat, none⟩ = some (.int .i64 (rd y367 x49_3))) (ds := []) bQ67_12 (by kernel_rfl) rfl rfl (hx369_0) (fun hHeld => ?_); refine with_tabW impl_Jobs_earliest.tab19 impl_Jobs_earliest.bits19 (fun HT_ HW_ => ?_)
      generalize w67.drew = w68 at HO_4 HO_5 HO_6 BK344 HB HQ65 HQ66 hx369_0 hHeld ⊢
      refine pure_ (i := 0) (N := some 76) (v := ?_) (a' := ?_) bQ67_13 rfl rfl (any_of HT_.out (by kernel_rfl)) (fun _ _ _ h => h) (Or.inl ⟨by rfl, ?_⟩) ?_ ?_
      rotate_left
      · intro w'
        go_simp
        with_reducible rfl
      rotate_left
      · simp only [Act.put, List.setIfInBounds_toArray, List.set_cons_zero, List.set_cons_succ, i64_w, i32_w]
        rfl
      refine pure_ (i := 1) (N := some 77) (v := ?_) (a' := ?_) bQ67_14 rfl rfl (any_of HT_.out (by kernel_rfl)) (fun _ _ _ h => h) (Or.inl ⟨by rfl, ?_⟩) ?_ ?_
      rotate_left
      · intro w'
        go_simp
        with_reducible rfl
      rotate_left
      · simp only [Act.put, List.setIfInBounds_toArray, List.set_cons_zero, List.set_cons_succ, i64_w, i32_w]
        rfl
      refine pure_ (i := 2) (N := some 78) (v := ?_) (a' := ?_) bQ67_15 rfl rfl (any_of HT_.out (by kernel_rfl)) (fun _ _ _ h => h) (Or.inl ⟨by rfl, ?_⟩) ?_ ?_
      rotate_left
      · intro w'
        go_simp
        with_reducible rfl
      rotate_left
      · simp only [Act.put, List.setIfInBounds_toArray, List.set_cons_zero, List.set_cons_succ, i64_w, i32_w]
        rfl
      refine take_ (i := 3) (N := some 79) (v := ?_) (a' := ?_) bQ67_16 rfl rfl (take_ofW HT_.out HW_.out (by kernel_rfl)) (fun _ _ _ h => h) (Or.inl ⟨by rfl, ?_⟩) hHeld ?_ ?_
      rotate_left
      · intro w' s0
        go_simp
        with_reducible rfl
      rotate_left
      · simp only [Act.put, List.setIfInBounds_toArray, List.set_cons_zero, List.set_cons_succ, i64_w, i32_w]
        rfl
      refine pure_ (i := 4) (N := some 80) (v := ?_) (a' := ?_) bQ67_17 rfl rfl (any_of HT_.out (by kernel_rfl)) (fun _ _ _ h => h) (Or.inl ⟨by rfl, ?_⟩) ?_ ?_
      rotate_left
      · intro w'
        go_simp
        with_reducible rfl
      rotate_left
      · simp only [Act.put, List.setIfInBounds_toArray, List.set_cons_zero, List.set_cons_succ, i64_w, i32_w]
        rfl
      refine pure_ (i := 5) (N := some 81) (v := ?_) (a' := ?_) bQ67_18 rfl rfl (any_of HT_.out (by kernel_rfl)) (fun _ _ _ h => h) (Or.inl ⟨by rfl, ?_⟩) ?_ ?_
      rotate_left
      · intro w'
        go_simp
        with_reducible rfl
      rotate_left
      · simp only [Act.put, List.setIfInBounds_toArray, List.set_cons_zero, List.set_cons_succ, i64_w, i32_w]
        rfl
      refine pure_ (i := 6) (N := some 82) (v := undef) (a' := ?_) bQ67_19 rfl rfl (any_of HT_.out (by kernel_rfl)) (fun _ _ _ h => h) (Or.inr ⟨by rfl, rfl⟩) ?_ ?_
      rotate_left
      · simp only [Act.put, List.setIfInBounds_toArray, List.set_cons_zero, List.set_cons_succ, i64_w, i32_w]
        rfl
      refine pure_ (i := 7) (N := some 83) (v := undef) (a' := ?_) bQ67_20 rfl rfl (any_of HT_.out (by kernel_rfl)) (fun _ _ _ h => h) (Or.inr ⟨by rfl, rfl⟩) ?_ ?_
      rotate_left
      · simp only [Act.put, List.setIfInBounds_toArray, List.set_cons_zero, List.set_cons_succ, i64_w, i32_w]
        rfl
      refine pure_ (i := 8) (N := some 84) (v := undef) (a' := ?_) bQ67_21 rfl rfl (any_of HT_.out (by kernel_rfl)) (fun _ _ _ h => h) (Or.inr ⟨by rfl, rfl⟩) ?_ ?_
      rotate_left
      · simp only [Act.put, List.setIfInBounds_toArray, List.set_cons_zero, List.set_cons_succ, i64_w, i32_w]
        rfl
      refine pure_ (i := 9) (N := some 85) (v := undef) (a' := ?_) bQ67_22 rfl rfl (any_of HT_.out (by kernel_rfl)) (fun _ _ _ h => h) (Or.inr ⟨by rfl, rfl⟩) ?_ ?_
      rotate_left
      · simp only [Act.put, List.setIfInBounds_toArray, List.set_cons_zero, List.set_cons_succ, i64_w, i32_w]
        rfl
      refine pure_ (i := 10) (N := some 86) (v := undef) (a' := ?_) bQ67_23 rfl rfl (any_of HT_.out (by kernel_rfl)) (fun _ _ _ h => h) (Or.inr ⟨by rfl, rfl⟩) ?_ ?_
      rotate_left
      · simp only [Act.put, List.setIfInBounds_toArray, List.set_cons_zero, List.set_cons_succ, i64_w, i32_w]
        rfl
      refine pure_ (i := 11) (N := some 87) (v := undef) (a' := ?_) bQ67_24 rfl rfl (any_of HT_.out (by kernel_rfl)) (fun _ _ _ h => h) (Or.inr ⟨by rfl, rfl⟩) ?_ ?_
      rotate_left
      · simp only [Act.put, List.setIfInBounds_toArray, List.set_cons_zero, List.set_cons_succ, i64_w, i32_w]
        rfl
      refine pure_ (i := 12) (N := some 88) (v := undef) (a' := ?_) bQ67_25 rfl rfl (any_of HT_.out (by kernel_rfl)) (fun _ _ _ h => h) (Or.inr ⟨by rfl, rfl⟩) ?_ ?_
      rotate_left
      · simp only [Act.put, List.setIfInBounds_toArray, List.set_cons_zero, List.set_cons_succ, i64_w, i32_w]
        rfl
      refine pure_ (i := 13) (N := some 89) (v := undef) (a' := ?_) bQ67_26 rfl rfl (any_of HT_.out (by kernel_rfl)) (fun _ _ _ h => h) (Or.inr ⟨by rfl, rfl⟩) ?_ ?_
      rotate_left
      · simp only [Act.put, List.setIfInBounds_toArray, List.set_cons_zero, List.set_cons_succ, i64_w, i32_w]
        rfl
      refine pure_ (i := 14) (N := some 90) (v := undef) (a' := ?_) bQ67_27 rfl rfl (any_of HT_.out (by kernel_rfl)) (fun _ _ _ h => h) (Or.inr ⟨by rfl, rfl⟩) ?_ ?_
      rotate_left
      · simp only [Act.put, List.setIfInBounds_toArray, List.set_cons_zero, List.set_cons_succ, i64_w, i32_w]
        rfl
      refine pure_ (i := 15) (N := some 91) (v := undef) (a' := ?_) bQ67_28 rfl rfl (any_of HT_.out (by kernel_rfl)) (fun _ _ _ h => h) (Or.inr ⟨by rfl, rfl⟩) ?_ ?_
      rotate_left
      · simp only [Act.put, List.setIfInBounds_toArray, List.set_cons_zero, List.set_cons_succ, i64_w, i32_w]
        rfl
      refine pure_ (i := 16) (N := some 92) (v := undef) (a' := ?_) bQ67_29 rfl rfl (any_of HT_.out (by kernel_rfl)) (fun _ _ _ h => h) (Or.inr ⟨by rfl, rfl⟩) ?_ ?_
      rotate_left
      · simp only [Act.put, List.setIfInBounds_toArray, List.set_cons_zero, List.set_cons_succ, i64_w, i32_w]
        rfl
      refine pure_ (i := 17) (N := some 93) (v := undef) (a' := ?_) bQ67_30 rfl rfl (any_of HT_.out (by kernel_rfl)) (fun _ _ _ h => h) (Or.inr ⟨by rfl, rfl⟩) ?_ ?_
      rotate_left
      · simp only [Act.put, List.setIfInBounds_toArray, List.set_cons_zero, List.set_cons_succ, i64_w, i32_w]
        rfl
      refine pure_ (i := 18) (N := some 94) (v := undef) (a' := ?_) bQ67_31 rfl rfl (any_of HT_.out (by kernel_rfl)) (fun _ _ _ h => h) (Or.inr ⟨by rfl, rfl⟩) ?_ ?_
      rotate_left
      · simp only [Act.put, List.setIfInBounds_toArray, List.set_cons_zero, List.set_cons_succ, i64_w, i32_w]
        rfl
      refine pure_ (i := 19) (N := some 95) (v := ?_) (a' := ?_) bQ67_32 rfl rfl (any_of HT_.out (by kernel_rfl)) (fun _ _ _ h => h) (Or.inl ⟨by rfl, ?_⟩) ?_ ?_
      rotate_left
      · intro w'
        go_simp
        with_reducible rfl
      rotate_left
      · simp only [Act.put, List.setIfInBounds_toArray, List.set_cons_zero, List.set_cons_succ, i64_w, i32_w]
        rfl
      refine done_ (done_of HT_.out (by kernel_rfl)) ?_
      try go_wp2
      (try simp only [← hl4_3])
      go_roundg k3
      case measure => have := HK1.out; have := HK2.out; have := HK3.out; omega
      case rel => exact ⟨(y367), (y368), (x9_3), (wrap64 (x49_3 + 1)), (by rfl), (by rfl), H', ⟨by have := HK1.out; have := HK2.out; have := HK3.out; omega⟩, ⟨by (try simp only [hl4_3]); exact HO_4.out⟩, ⟨by (try simp only [hl4_3]); exact HO_5.out⟩, ⟨by (try simp only [hl4_3]); exact HO_6.out⟩, ⟨by (try simp only [hl4_3]); exact BK344.out⟩, ⟨by exact HB.out⟩⟩
    rw [if_pos c44] at H
    have c44b0 : decide (0 < (rd y367 x49_3)) = true := decide_eq_true c44
    clear c44
    by_cases c45 : x9_3 = (-1)
    · rw [if_pos c45] at H
      have c45b0 : (x9_3 == (-1)) = true := beq_iff_eq.mpr c45
      have c45b1 : (x9_3 != (-1)) = false := bne_eq_false_iff_eq.mpr c45
      clear c45
      have H' := Aside0.mk H
      clear H
      have p364 : 0 ≤ (x49_3 : Int) := of_decide_eq_true (by (with_reducible assumption))
      have q364 : x49_3 < (l0_1.length : Int) := of_decide_eq_true (by (with_reducible assumption))
      obtain ⟨ad364, e364, hx364_0⟩ := Kd.at_int HR0_1.out x49_3 p364 q364
      cases e364
      replace hx364_0 := (HB.out.cell (World.block_lt_of_cell? w _ hx364_0)).trans hx364_0
      replace p364 := eq_true p364
      replace q364 := eq_true q364
      try go_wp2
      have n0_ := Aside0.mk (Kd.R_drew HO_4.out)
      have n1_ := Aside0.mk (Kd.R_drew HO_5.out)
      have n2_ := Aside0.mk (Kd.R_drew HO_6.out)
      have n3_ := Aside0.mk (blk_drew BK344.out)
      have n4_ := Aside0.mk (below_drew1 HB.out)
      clear HO_4
      clear HO_5
      clear HO_6
      clear BK344
      clear HB
      have HO_4 := n0_
      have HO_5 := n1_
      have HO_6 := n2_
      have BK344 := n3_
      have HB := n4_
      clear n0_ n1_ n2_ n3_ n4_
      have p365 : 0 ≤ (x49_3 : Int) := of_decide_eq_true (by (with_reducible assumption))
      have q365 : x49_3 < (l0_0.length : Int) := of_decide_eq_true (by (with_reducible assumption))
      obtain ⟨ad365, e365, hx365_0⟩ := Kd.at_int HR0_0.out x49_3 p365 q365
      have hw365_0 := hx365_0
      cases e365
      replace hx365_0 := (HB.out.cell (World.block_lt_of_cell? w _ hx365_0)).trans hx365_0
      replace p365 := eq_true p365
      replace q365 := eq_true q365
      have p366 : 0 ≤ (x49_3 : Int) := of_decide_eq_true (by (with_reducible assumption))
      have q366 : x49_3 < (l0_2.length : Int) := of_decide_eq_true (by (with_reducible assumption))
      obtain ⟨ad366, e366, hx366_0⟩ := Kd.at_int HR0_2.out x49_3 p366 q366
      have hw366_0 := hx366_0
      cases e366
      replace hx366_0 := (HB.out.cell (World.block_lt_of_cell? w _ hx366_0)).trans hx366_0
      replace p366 := eq_true p366
      replace q366 := eq_true q366
      have p41 : 0 ≤ (x49_3 : Int) := of_decide_eq_true (by (with_reducible assumption))
      have q41 : (x49_3 : Int) < ((x4_3.length : Int) : Int) := of_decide_eq_true (by (with_reducible assumption))
      obtain ⟨go41, co41, eo41, gb41, gl41, cl41, HG41⟩ := Kd.R_form HO_4.out (by omega)
      (cases eo41)
      have GB41 := Aside0.mk gb41
      have GG41 := Aside0.mk HG41
      clear gb41 gl41 HG41
      obtain ⟨hx41_0, hf41_0⟩ := Kd.R_celln 0 HO_4.out (x49_3 : Int) p41 q41
      replace p41 := eq_true p41
      replace q41 := eq_true q41
      have HP47 := Kd.R_putn HO_4.out (x49_3 : Int) (rd l0_0 x49_3)
      rw [← Ny367.out] at HP47
      have HQ47 := Aside0.mk HP47
      clear HP47
      have p43 : 0 ≤ (x49_3 : Int) := of_decide_eq_true (by (with_reducible assumption))
      have q43 : (x49_3 : Int) < ((x5_3.length : Int) : Int) := of_decide_eq_true (by (with_reducible assumption))
      obtain ⟨go43, co43, eo43, gb43, gl43, cl43, HG43⟩ := Kd.R_form HO_5.out (by omega)
      (cases eo43)
      have GB43 := Aside0.mk gb43
      have GG43 := Aside0.mk HG43
      clear gb43 gl43 HG43
      obtain ⟨hx43_0, hf43_0⟩ := Kd.R_celln 0 (Kd.R_far (p := ⟨go41, (x49_3 : Int).toNat, none⟩) (Kd.R_mono HO_5.out (fun k_ hk => (⟨hk, fun e_ => hk.1 (by rw [e_]; rfl)⟩ : _ ∧ k_ ≠ go41))) (fun _ hk => hk.2) (.int .i64 (rd l0_0 x49_3))) (x49_3 : Int) p43 q43
      replace p43 := eq_true p43
      replace q43 := eq_true q43
      have HP48 := Kd.R_putn (Kd.R_far (p := ⟨go41, (x49_3 : Int).toNat, none⟩) (Kd.R_mono HO_5.out (fun k_ hk => (⟨hk, fun e_ => hk.1 (by rw [e_]; rfl)⟩ : _ ∧ k_ ≠ go41))) (fun _ hk => hk.2) (.int .i64 (rd l0_0 x49_3))) (x49_3 : Int) (wrap64 (x7_1 + (rd l0_2 x49_3)))
      rw [← Ny368.out] at HP48
      have HQ48 := Aside0.mk HP48
      clear HP48
      refine start_ (n := 20) (S := fun w' => w'.cell? ⟨gb344, 0, none⟩ = some (.slice (some ad365) l0_0.length c0_0) ∧ w'.cell? ⟨gb344, 1, none⟩ = some (.slice (some ad364) l0_1.length c0_1) ∧ w'.cell? ⟨gb344, 2, none⟩ = some (.slice (some ad366) l0_2.length c0_2) ∧ w'.cell? (ad365.add (x49_3).toNat) = some (.int .i64 (rd l0_0 x49_3)) ∧ w'.cell? (ad366.add (x49_3).toNat) = some (.int .i64 (rd l0_2 x49_3))) (ds := [17, 19]) bQ67_12 (by kernel_rfl) rfl rfl ⟨(blk_cell BK344.out 0).trans rfl, (blk_cell BK344.out 1).trans rfl, (blk_cell BK344.out 2).trans rfl, ((HB.out.cell (World.block_lt_of_cell? w _ hw365_0)).trans hw365_0), ((HB.out.cell (World.block_lt_of_cell? w _ hw366_0)).trans hw366_0)⟩ (fun hHeld => ?_); refine with_tabW impl_Jobs_earliest.tab18 impl_Jobs_earliest.bits18 (fun HT_ HW_ => ?_)
      generalize wr.drew = w46 at HO_4 HO_5 HO_6 BK344 HB GG41 GG43 HQ47 HQ48 hf41_0 hf43_0 hx365_0 hx366_0 hx41_0 hx43_0 hHeld ⊢
      refine pure_ (i := 0) (N := some 58) (v := ?_) (a' := ?_) bQ67_13 rfl rfl (any_of HT_.out (by kernel_rfl)) (fun _ _ _ h => h) (Or.inl ⟨by rfl, ?_⟩) ?_ ?_
      rotate_left
      · intro w'
        go_simp
        with_reducible rfl
      rotate_left
      · simp only [Act.put, List.setIfInBounds_toArray, List.set_cons_zero, List.set_cons_succ, i64_w, i32_w]
        rfl
      refine pure_ (i := 1) (N := some 59) (v := ?_) (a' := ?_) bQ67_14 rfl rfl (any_of HT_.out (by kernel_rfl)) (fun _ _ _ h => h) (Or.inl ⟨by rfl, ?_⟩) ?_ ?_
      rotate_left
      · intro w'
        go_simp
        with_reducible rfl
      rotate_left
      · simp only [Act.put, List.setIfInBounds_toArray, List.set_cons_zero, List.set_cons_succ, i64_w, i32_w]
        rfl
      refine pure_ (i := 2) (N := some 60) (v := ?_) (a' := ?_) bQ67_15 rfl rfl (any_of HT_.out (by kernel_rfl)) (fun _ _ _ h => h) (Or.inl ⟨by rfl, ?_⟩) ?_ ?_
      rotate_left
      · intro w'
        go_simp
        with_reducible rfl
      rotate_left
      · simp only [Act.put, List.setIfInBounds_toArray, List.set_cons_zero, List.set_cons_succ, i64_w, i32_w]
        rfl
      refine pure_ (i := 3) (N := some 61) (v := ?_) (a' := ?_) bQ67_16 rfl rfl (any_of HT_.out (by kernel_rfl)) (fun _ _ _ h => h) (Or.inl ⟨by rfl, ?_⟩) ?_ ?_
      rotate_left
      · intro w'
        go_simp
        with_reducible rfl
      rotate_left
      · simp only [Act.put, List.setIfInBounds_toArray, List.set_cons_zero, List.set_cons_succ, i64_w, i32_w]
        rfl
      refine pure_ (i := 4) (N := some 62) (v := ?_) (a' := ?_) bQ67_17 rfl rfl (any_of HT_.out (by kernel_rfl)) (fun _ _ _ h => h) (Or.inl ⟨by rfl, ?_⟩) ?_ ?_
      rotate_left
      · intro w'
        go_simp
        with_reducible rfl
      rotate_left
      · simp only [Act.put, List.setIfInBounds_toArray, List.set_cons_zero, List.set_cons_succ, i64_w, i32_w]
        rfl
      refine pure_ (i := 6) (N := some 64) (v := ?_) (a' := ?_) bQ67_36 rfl rfl (any_of HT_.out (by kernel_rfl)) (fun _ _ _ h => h) (Or.inl ⟨by rfl, ?_⟩) ?_ ?_
      rotate_left
      · intro w'
        go_simp
        with_reducible rfl
      rotate_left
      · simp only [Act.put, List.setIfInBounds_toArray, List.set_cons_zero, List.set_cons_succ, i64_w, i32_w]
        rfl
      refine pure_ (i := 9) (N := some 67) (v := ?_) (a' := ?_) bQ67_37 rfl rfl (any_of HT_.out (by kernel_rfl)) (fun _ _ _ h => h) (Or.inl ⟨by rfl, ?_⟩) ?_ ?_
      rotate_left
      · intro w'
        go_simp
        with_reducible rfl
      rotate_left
      · simp only [Act.put, List.setIfInBounds_toArray, List.set_cons_zero, List.set_cons_succ, i64_w, i32_w]
        rfl
      refine pure_ (i := 10) (N := some 68) (v := ?_) (a' := ?_) bQ67_38 rfl rfl (any_of HT_.out (by kernel_rfl)) (fun _ _ _ h => h) (Or.inl ⟨by rfl, ?_⟩) ?_ ?_
      rotate_left
      · intro w'
        go_simp
        with_reducible rfl
      rotate_left
      · simp only [Act.put, List.setIfInBounds_toArray, List.set_cons_zero, List.set_cons_succ, i64_w, i32_w]
        rfl
      refine pure_ (i := 12) (N := some 70) (v := ?_) (a' := ?_) bQ67_39 rfl rfl (any_of HT_.out (by kernel_rfl)) (fun _ _ _ h => h) (Or.inl ⟨by rfl, ?_⟩) ?_ ?_
      rotate_left
      · intro w'
        go_simp
        with_reducible rfl
      rotate_left
      · simp only [Act.put, List.setIfInBounds_toArray, List.set_cons_zero, List.set_cons_succ, i64_w, i32_w]
        rfl
      refine take_ (i := 5) (N := some 63) (v := ?_) (a' := ?_) bQ67_40 rfl rfl (take_ofW HT_.out HW_.out (by kernel_rfl)) (fun _ _ _ h => h) (Or.inl ⟨by rfl, ?_⟩) hHeld ?_ ?_
      rotate_left
      · rintro w' ⟨s0, s1, s2, s3, s4⟩
        go_simp
        with_reducible rfl
      rotate_left
      · simp only [Act.put, List.setIfInBounds_toArray, List.set_cons_zero, List.set_cons_succ, i64_w, i32_w]
        rfl
      refine pure_ (i := 7) (N := some 65) (v := ?_) (a' := ?_) bQ67_41 rfl rfl (any_of HT_.out (by kernel_rfl)) (fun _ _ _ h => h) (Or.inl ⟨by rfl, ?_⟩) ?_ ?_
      rotate_left
      · intro w'
        go_simp
        with_reducible rfl
      rotate_left
      · simp only [Act.put, List.setIfInBounds_toArray, List.set_cons_zero, List.set_cons_succ, i64_w, i32_w]
        rfl
      refine take_ (i := 8) (N := some 66) (v := ?_) (a' := ?_) bQ67_42 rfl rfl (take_ofW HT_.out HW_.out (by kernel_rfl)) (fun _ _ _ h => h) (Or.inl ⟨by rfl, ?_⟩) hHeld ?_ ?_
      rotate_left
      · rintro w' ⟨s0, s1, s2, s3, s4⟩
        go_simp
        with_reducible rfl
      rotate_left
      · simp only [Act.put, List.setIfInBounds_toArray, List.set_cons_zero, List.set_cons_succ, i64_w, i32_w]
        rfl
      refine take_ (i := 11) (N := some 69) (v := ?_) (a' := ?_) bQ67_25 rfl rfl (take_ofW HT_.out HW_.out (by kernel_rfl)) (fun _ _ _ h => h) (Or.inl ⟨by rfl, ?_⟩) hHeld ?_ ?_
      rotate_left
      · rintro w' ⟨s0, s1, s2, s3, s4⟩
        go_simp
        with_reducible rfl
      rotate_left
      · simp only [Act.put, List.setIfInBounds_toArray, List.set_cons_zero, List.set_cons_succ, i64_w, i32_w]
        rfl
      refine pure_ (i := 13) (N := some 71) (v := ?_) (a' := ?_) bQ67_26 rfl rfl (any_of HT_.out (by kernel_rfl)) (fun _ _ _ h => h) (Or.inl ⟨by rfl, ?_⟩) ?_ ?_
      rotate_left
      · intro w'
        go_simp
        with_reducible rfl
      rotate_left
      · simp only [Act.put, List.setIfInBounds_toArray, List.set_cons_zero, List.set_cons_succ, i64_w, i32_w]
        rfl
      refine take_ (i := 14) (N := some 72) (v := ?_) (a' := ?_) bQ67_27 rfl rfl (take_ofW HT_.out HW_.out (by kernel_rfl)) (fun _ _ _ h => h) (Or.inl ⟨by rfl, ?_⟩) hHeld ?_ ?_
      rotate_left
      · rintro w' ⟨s0, s1, s2, s3, s4⟩
        go_simp
        with_reducible rfl
      rotate_left
      · simp only [Act.put, List.setIfInBounds_toArray, List.set_cons_zero, List.set_cons_succ, i64_w, i32_w]
        rfl
      refine pure_ (i := 15) (N := some 73) (v := ?_) (a' := ?_) bQ67_28 rfl rfl (any_of HT_.out (by kernel_rfl)) (fun _ _ _ h => h) (Or.inl ⟨by rfl, ?_⟩) ?_ ?_
      rotate_left
      · intro w'
        go_simp
        with_reducible rfl
      rotate_left
      · simp only [Act.put, List.setIfInBounds_toArray, List.set_cons_zero, List.set_cons_succ, i64_w, i32_w]
        rfl
      refine pure_ (i := 16) (N := some 74) (v := ?_) (a' := ?_) bQ67_29 rfl rfl (any_of HT_.out (by kernel_rfl)) (fun _ _ _ h => h) (Or.inl ⟨by rfl, ?_⟩) ?_ ?_
      rotate_left
      · intro w'
        go_simp
        with_reducible rfl
      rotate_left
      · simp only [Act.put, List.setIfInBounds_toArray, List.set_cons_zero, List.set_cons_succ, i64_w, i32_w]
        rfl
      refine last_ (i := 17) (N := none) bQ67_30 rfl rfl (one_of HT_.out (by kernel_rfl)) (by decide) (fun K hK => ?_)
      refine skip_ (w1 := ?_) (by rfl) rfl ?_ ?_
      rotate_left
      · go_simp
        rfl
      refine hK.out _ _ ?_
      clear hK K
      refine pure_ (i := 18) (N := some 75) (v := ?_) (a' := ?_) bQ67_31 rfl rfl (any_of HT_.out (by kernel_rfl)) (fun _ _ _ h => h) (Or.inl ⟨by rfl, ?_⟩) ?_ ?_
      rotate_left
      · intro w'
        go_simp
        with_reducible rfl
      rotate_left
      · simp only [Act.put, List.setIfInBounds_toArray, List.set_cons_zero, List.set_cons_succ, i64_w, i32_w]
        rfl
      refine last_ (i := 19) (N := none) bQ67_32 rfl rfl (one_of HT_.out (by kernel_rfl)) (by decide) (fun K hK => ?_)
      refine skip_ (w1 := ?_) (by rfl) rfl ?_ ?_
      rotate_left
      · go_simp
        rfl
      refine hK.out _ _ ?_
      clear hK K
      refine done_ (done_of HT_.out (by kernel_rfl)) ?_
      try go_wp2
      have n0_ : Aside0 (Kd.R (Kd.int .i64) 2 ((w46.setCell ⟨go41, (x49_3 : Int).toNat, none⟩ (.int .i64 (rd l0_0 x49_3))).setCell ⟨go43, (x49_3 : Int).toNat, none⟩ (.int .i64 (wrap64 (x7_1 + (rd l0_2 x49_3))))) w.heap.size (fun k_ => some k_ ≠ (.slice (some ⟨go43, 0, none⟩) x5_3.length co43 : Value).ownBlock ∧ some k_ ≠ (u6 : Value).ownBlock) (.slice (some ⟨go41, 0, none⟩) x4_3.length co17) y367) := ⟨by exact Kd.R_mono (Kd.R_far (p := ⟨go43, (x49_3 : Int).toNat, none⟩) (Kd.R_mono HQ47.out (fun k_ hk => (⟨hk, fun e_ => hk.1 (by rw [e_]; rfl)⟩ : _ ∧ k_ ≠ go43))) (fun _ hk => hk.2) (.int .i64 (wrap64 (x7_1 + (rd l0_2 x49_3))))) (fun _ hk => ⟨hk.1.1, hk.1.2⟩)⟩
      have n1_ : Aside0 (Kd.R (Kd.int .i64) 2 ((w46.setCell ⟨go41, (x49_3 : Int).toNat, none⟩ (.int .i64 (rd l0_0 x49_3))).setCell ⟨go43, (x49_3 : Int).toNat, none⟩ (.int .i64 (wrap64 (x7_1 + (rd l0_2 x49_3))))) w.heap.size (fun k_ => some k_ ≠ (.slice (some ⟨go41, 0, none⟩) x4_3.length co17 : Value).ownBlock ∧ some k_ ≠ (u6 : Value).ownBlock) (.slice (some ⟨go43, 0, none⟩) x5_3.length co43) y368) := ⟨by exact Kd.R_mono HQ48.out (fun _ hk => ⟨hk.1.1, hk.1.2⟩)⟩
      have n2_ : Aside0 (Kd.R (Kd.int .i64) 2 ((w46.setCell ⟨go41, (x49_3 : Int).toNat, none⟩ (.int .i64 (rd l0_0 x49_3))).setCell ⟨go43, (x49_3 : Int).toNat, none⟩ (.int .i64 (wrap64 (x7_1 + (rd l0_2 x49_3))))) w.heap.size (fun k_ => some k_ ≠ (.slice (some ⟨go41, 0, none⟩) x4_3.length co17 : Value).ownBlock ∧ some k_ ≠ (.slice (some ⟨go43, 0, none⟩) x5_3.length co43 : Value).ownBlock) u6 x6_1) := ⟨by exact Kd.R_mono (Kd.R_far (p := ⟨go43, (x49_3 : Int).toNat, none⟩) (Kd.R_far (p := ⟨go41, (x49_3 : Int).toNat, none⟩) (Kd.R_mono (Kd.R_mono HO_6.out (fun k_ hk => (⟨hk, fun e_ => hk.1 (by rw [e_]; rfl)⟩ : _ ∧ k_ ≠ go41))) (fun k_ hk => (⟨hk, fun e_ => hk.1.2 (by rw [e_]; rfl)⟩ : _ ∧ k_ ≠ go43))) (fun _ hk => hk.1.2) (.int .i64 (rd l0_0 x49_3))) (fun _ hk => hk.2) (.int .i64 (wrap64 (x7_1 + (rd l0_2 x49_3))))) (fun _ hk => ⟨hk.1.1.1, hk.1.1.2⟩)⟩
      have n3_ : Aside0 (((w46.setCell ⟨go41, (x49_3 : Int).toNat, none⟩ (.int .i64 (rd l0_0 x49_3))).setCell ⟨go43, (x49_3 : Int).toNat, none⟩ (.int .i64 (wrap64 (x7_1 + (rd l0_2 x49_3))))).heap[gb344]? = some (.cells #[.slice (some ad365) l0_0.length c0_0, .slice (some ad364) l0_1.length c0_1, .slice (some ad366) l0_2.length c0_2] 33 (0, 0))) := ⟨by refine blk_far ?_ (by have h_ := Kd.R_ne HO_5.out BK344.out (by decide); intro e_; exact h_ (by rw [e_]; rfl)) _; refine blk_far ?_ (by have h_ := Kd.R_ne HO_4.out BK344.out (by decide); intro e_; exact h_ (by rw [e_]; rfl)) _; exact BK344.out⟩
      have n4_ : Aside0 (Below w.heap.size w ((w46.setCell ⟨go41, (x49_3 : Int).toNat, none⟩ (.int .i64 (rd l0_0 x49_3))).setCell ⟨go43, (x49_3 : Int).toNat, none⟩ (.int .i64 (wrap64 (x7_1 + (rd l0_2 x49_3)))))) := ⟨by repeat (with_reducible first | exact HB.out | refine below_set ?_ GB41.out | refine below_set ?_ GB43.out)⟩
      (try clear HO_4)
      (try clear HO_5)
      (try clear HO_6)
      (try clear BK344)
      (try clear HB)
      generalize ((w46.setCell ⟨go41, (x49_3 : Int).toNat, none⟩ (.int .i64 (rd l0_0 x49_3))).setCell ⟨go43, (x49_3 : Int).toNat, none⟩ (.int .i64 (wrap64 (x7_1 + (rd l0_2 x49_3))))) = w49 at n0_ n1_ n2_ n3_ n4_ ⊢
      have HO_4 := n0_
      have HO_5 := n1_
      have HO_6 := n2_
      have BK344 := n3_
      have HB := n4_
      clear n0_ n1_ n2_ n3_ n4_
      have n0_ := Aside0.mk (Kd.R_drew HO_4.out)
      have n1_ := Aside0.mk (Kd.R_drew HO_5.out)
      have n2_ := Aside0.mk (Kd.R_drew HO_6.out)
      have n3_ := Aside0.mk (blk_drew BK344.out)
      have n4_ := Aside0.mk (below_drew1 HB.out)
      clear HO_4
      clear HO_5
      clear HO_6
      clear BK344
      clear HB
      have HO_4 := n0_
      have HO_5 := n1_
      have HO_6 := n2_
      have BK344 := n3_
      have HB := n4_
      clear n0_ n1_ n2_ n3_ n4_
      have p369 : 0 ≤ (x49_3 : Int) := of_decide_eq_true (by (with_reducible assumption))
      have q369 : x49_3 < (y367.length : Int) := (by have h_ : (x49_3 : Int) < ((x4_3.length : Int) : Int) := of_decide_eq_true (by (with_reducible assumption)); (have e_ := (Kd.R_reads' HO_4.out).1; omega))
      have ql369 : ((x49_3 : Int) < ((x4_3.length : Int) : Int)) = True := eq_true (of_decide_eq_true (by (with_reducible assumption)))
      obtain ⟨ad369, e369, hx369_0⟩ := Kd.at_int (Kd.R_reads' HO_4.out).2.2 x49_3 p369 q369
      obtain rfl : (⟨go41, 0, none⟩ : Addr) = ad369 := (by injection e369)
      (simp only [add_plain] at hx369_0)
      replace p369 := eq_true p369
      replace q369 := eq_true q369
      refine start_ (n := 20) (S := fun w' => w'.cell? ⟨go41, (x49_3).toNat, none⟩ = some (.int .i64 (rd y367 x49_3))) (ds := []) bQ67_12 (by kernel_rfl) rfl rfl (hx369_0) (fun hHeld => ?_); refine with_tabW impl_Jobs_earliest.tab19 impl_Jobs_earliest.bits19 (fun HT_ HW_ => ?_)
      generalize w49.drew = w50 at HO_4 HO_5 HO_6 BK344 HB HQ47 HQ48 hx369_0 hHeld ⊢
      refine pure_ (i := 0) (N := some 76) (v := ?_) (a' := ?_) bQ67_13 rfl rfl (any_of HT_.out (by kernel_rfl)) (fun _ _ _ h => h) (Or.inl ⟨by rfl, ?_⟩) ?_ ?_
      rotate_left
      · intro w'
        go_simp
        with_reducible rfl
      rotate_left
      · simp only [Act.put, List.setIfInBounds_toArray, List.set_cons_zero, List.set_cons_succ, i64_w, i32_w]
        rfl
      refine pure_ (i := 1) (N := some 77) (v := ?_) (a' := ?_) bQ67_14 rfl rfl (any_of HT_.out (by kernel_rfl)) (fun _ _ _ h => h) (Or.inl ⟨by rfl, ?_⟩) ?_ ?_
      rotate_left
      · intro w'
        go_simp
        with_reducible rfl
      rotate_left
      · simp only [Act.put, List.setIfInBounds_toArray, List.set_cons_zero, List.set_cons_succ, i64_w, i32_w]
        rfl
      refine pure_ (i := 2) (N := some 78) (v := ?_) (a' := ?_) bQ67_15 rfl rfl (any_of HT_.out (by kernel_rfl)) (fun _ _ _ h => h) (Or.inl ⟨by rfl, ?_⟩) ?_ ?_
      rotate_left
      · intro w'
        go_simp
        with_reducible rfl
      rotate_left
      · simp only [Act.put, List.setIfInBounds_toArray, List.set_cons_zero, List.set_cons_succ, i64_w, i32_w]
        rfl
      refine take_ (i := 3) (N := some 79) (v := ?_) (a' := ?_) bQ67_16 rfl rfl (take_ofW HT_.out HW_.out (by kernel_rfl)) (fun _ _ _ h => h) (Or.inl ⟨by rfl, ?_⟩) hHeld ?_ ?_
      rotate_left
      · intro w' s0
        go_simp
        with_reducible rfl
      rotate_left
      · simp only [Act.put, List.setIfInBounds_toArray, List.set_cons_zero, List.set_cons_succ, i64_w, i32_w]
        rfl
      refine pure_ (i := 4) (N := some 80) (v := ?_) (a' := ?_) bQ67_17 rfl rfl (any_of HT_.out (by kernel_rfl)) (fun _ _ _ h => h) (Or.inl ⟨by rfl, ?_⟩) ?_ ?_
      rotate_left
      · intro w'
        go_simp
        with_reducible rfl
      rotate_left
      · simp only [Act.put, List.setIfInBounds_toArray, List.set_cons_zero, List.set_cons_succ, i64_w, i32_w]
        rfl
      refine pure_ (i := 5) (N := some 81) (v := ?_) (a' := ?_) bQ67_18 rfl rfl (any_of HT_.out (by kernel_rfl)) (fun _ _ _ h => h) (Or.inl ⟨by rfl, ?_⟩) ?_ ?_
      rotate_left
      · intro w'
        go_simp
        with_reducible rfl
      rotate_left
      · simp only [Act.put, List.setIfInBounds_toArray, List.set_cons_zero, List.set_cons_succ, i64_w, i32_w]
        rfl
      refine pure_ (i := 6) (N := some 82) (v := ?_) (a' := ?_) bQ67_19 rfl rfl (any_of HT_.out (by kernel_rfl)) (fun _ _ _ h => h) (Or.inl ⟨by rfl, ?_⟩) ?_ ?_
      rotate_left
      · intro w'
        go_simp
        with_reducible rfl
      rotate_left
      · simp only [Act.put, List.setIfInBounds_toArray, List.set_cons_zero, List.set_cons_succ, i64_w, i32_w]
        rfl
      refine pure_ (i := 7) (N := some 83) (v := ?_) (a' := ?_) bQ67_20 rfl rfl (any_of HT_.out (by kernel_rfl)) (fun _ _ _ h => h) (Or.inl ⟨by rfl, ?_⟩) ?_ ?_
      rotate_left
      · intro w'
        go_simp
        with_reducible rfl
      rotate_left
      · simp only [Act.put, List.setIfInBounds_toArray, List.set_cons_zero, List.set_cons_succ, i64_w, i32_w]
        rfl
      refine pure_ (i := 8) (N := some 84) (v := ?_) (a' := ?_) bQ67_21 rfl rfl (any_of HT_.out (by kernel_rfl)) (fun _ _ _ h => h) (Or.inl ⟨by rfl, ?_⟩) ?_ ?_
      rotate_left
      · intro w'
        go_simp
        with_reducible rfl
      rotate_left
      · simp only [Act.put, List.setIfInBounds_toArray, List.set_cons_zero, List.set_cons_succ, i64_w, i32_w]
        rfl
      refine pure_ (i := 9) (N := some 85) (v := undef) (a' := ?_) bQ67_22 rfl rfl (any_of HT_.out (by kernel_rfl)) (fun _ _ _ h => h) (Or.inr ⟨by rfl, rfl⟩) ?_ ?_
      rotate_left
      · simp only [Act.put, List.setIfInBounds_toArray, List.set_cons_zero, List.set_cons_succ, i64_w, i32_w]
        rfl
      refine pure_ (i := 10) (N := some 86) (v := undef) (a' := ?_) bQ67_23 rfl rfl (any_of HT_.out (by kernel_rfl)) (fun _ _ _ h => h) (Or.inr ⟨by rfl, rfl⟩) ?_ ?_
      rotate_left
      · simp only [Act.put, List.setIfInBounds_toArray, List.set_cons_zero, List.set_cons_succ, i64_w, i32_w]
        rfl
      refine pure_ (i := 11) (N := some 87) (v := undef) (a' := ?_) bQ67_24 rfl rfl (any_of HT_.out (by kernel_rfl)) (fun _ _ _ h => h) (Or.inr ⟨by rfl, rfl⟩) ?_ ?_
      rotate_left
      · simp only [Act.put, List.setIfInBounds_toArray, List.set_cons_zero, List.set_cons_succ, i64_w, i32_w]
        rfl
      refine pure_ (i := 12) (N := some 88) (v := undef) (a' := ?_) bQ67_25 rfl rfl (any_of HT_.out (by kernel_rfl)) (fun _ _ _ h => h) (Or.inr ⟨by rfl, rfl⟩) ?_ ?_
      rotate_left
      · simp only [Act.put, List.setIfInBounds_toArray, List.set_cons_zero, List.set_cons_succ, i64_w, i32_w]
        rfl
      refine pure_ (i := 13) (N := some 89) (v := undef) (a' := ?_) bQ67_26 rfl rfl (any_of HT_.out (by kernel_rfl)) (fun _ _ _ h => h) (Or.inr ⟨by rfl, rfl⟩) ?_ ?_
      rotate_left
      · simp only [Act.put, List.setIfInBounds_toArray, List.set_cons_zero, List.set_cons_succ, i64_w, i32_w]
        rfl
      refine pure_ (i := 14) (N := some 90) (v := undef) (a' := ?_) bQ67_27 rfl rfl (any_of HT_.out (by kernel_rfl)) (fun _ _ _ h => h) (Or.inr ⟨by rfl, rfl⟩) ?_ ?_
      rotate_left
      · simp only [Act.put, List.setIfInBounds_toArray, List.set_cons_zero, List.set_cons_succ, i64_w, i32_w]
        rfl
      refine pure_ (i := 15) (N := some 91) (v := undef) (a' := ?_) bQ67_28 rfl rfl (any_of HT_.out (by kernel_rfl)) (fun _ _ _ h => h) (Or.inr ⟨by rfl, rfl⟩) ?_ ?_
      rotate_left
      · simp only [Act.put, List.setIfInBounds_toArray, List.set_cons_zero, List.set_cons_succ, i64_w, i32_w]
        rfl
      refine pure_ (i := 16) (N := some 92) (v := undef) (a' := ?_) bQ67_29 rfl rfl (any_of HT_.out (by kernel_rfl)) (fun _ _ _ h => h) (Or.inr ⟨by rfl, rfl⟩) ?_ ?_
      rotate_left
      · simp only [Act.put, List.setIfInBounds_toArray, List.set_cons_zero, List.set_cons_succ, i64_w, i32_w]
        rfl
      refine pure_ (i := 17) (N := some 93) (v := undef) (a' := ?_) bQ67_30 rfl rfl (any_of HT_.out (by kernel_rfl)) (fun _ _ _ h => h) (Or.inr ⟨by rfl, rfl⟩) ?_ ?_
      rotate_left
      · simp only [Act.put, List.setIfInBounds_toArray, List.set_cons_zero, List.set_cons_succ, i64_w, i32_w]
        rfl
      refine pure_ (i := 18) (N := some 94) (v := ?_) (a' := ?_) bQ67_31 rfl rfl (any_of HT_.out (by kernel_rfl)) (fun _ _ _ h => h) (Or.inl ⟨by rfl, ?_⟩) ?_ ?_
      rotate_left
      · intro w'
        go_simp
        with_reducible rfl
      rotate_left
      · simp only [Act.put, List.setIfInBounds_toArray, List.set_cons_zero, List.set_cons_succ, i64_w, i32_w]
        rfl
      refine pure_ (i := 19) (N := some 95) (v := ?_) (a' := ?_) bQ67_32 rfl rfl (any_of HT_.out (by kernel_rfl)) (fun _ _ _ h => h) (Or.inl ⟨by rfl, ?_⟩) ?_ ?_
      rotate_left
      · intro w'
        go_simp
        with_reducible rfl
      rotate_left
      · simp only [Act.put, List.setIfInBounds_toArray, List.set_cons_zero, List.set_cons_succ, i64_w, i32_w]
        rfl
      refine done_ (done_of HT_.out (by kernel_rfl)) ?_
      try go_wp2
      (try simp only [← hl4_3])
      go_roundg k3
      case measure => have := HK1.out; have := HK2.out; have := HK3.out; omega
      case rel => exact ⟨(y367), (y368), (x49_3), (wrap64 (x49_3 + 1)), (by rfl), (by rfl), H', ⟨by have := HK1.out; have := HK2.out; have := HK3.out; omega⟩, ⟨by (try simp only [hl4_3]); exact HO_4.out⟩, ⟨by (try simp only [hl4_3]); exact HO_5.out⟩, ⟨by (try simp only [hl4_3]); exact HO_6.out⟩, ⟨by (try simp only [hl4_3]); exact BK344.out⟩, ⟨by exact HB.out⟩⟩
    rw [if_neg c45] at H
    have c45b0 : (x9_3 == (-1)) = false := beq_eq_false_iff_ne.mpr c45
    have c45b1 : (x9_3 != (-1)) = true := bne_iff_ne.mpr c45
    by_cases c51 : 0 ≤ x9_3
    rotate_left
    · rw [if_neg c51] at H
      exact absurd H (by simp)
    rw [if_pos c51] at H
    have c51b0 : decide (0 ≤ x9_3) = true := decide_eq_true c51
    clear c51
    by_cases c52 : x9_3 < (x5_3.length : Int)
    rotate_left
    · rw [if_neg c52] at H
      exact absurd H (by simp)
    rw [if_pos c52] at H
    have c52b0 : decide (x9_3 < (x5_3.length : Int)) = true := decide_eq_true c52
    clear c52
    by_cases c53 : (rd y368 x49_3) < (rd y368 x9_3)
    · rw [if_pos c53] at H
      have c53b0 : decide ((rd y368 x49_3) < (rd y368 x9_3)) = true := decide_eq_true c53
      clear c53
      have H' := Aside0.mk H
      clear H
      have p364 : 0 ≤ (x49_3 : Int) := of_decide_eq_true (by (with_reducible assumption))
      have q364 : x49_3 < (l0_1.length : Int) := of_decide_eq_true (by (with_reducible assumption))
      obtain ⟨ad364, e364, hx364_0⟩ := Kd.at_int HR0_1.out x49_3 p364 q364
      cases e364
      replace hx364_0 := (HB.out.cell (World.block_lt_of_cell? w _ hx364_0)).trans hx364_0
      replace p364 := eq_true p364
      replace q364 := eq_true q364
      try go_wp2
      have n0_ := Aside0.mk (Kd.R_drew HO_4.out)
      have n1_ := Aside0.mk (Kd.R_drew HO_5.out)
      have n2_ := Aside0.mk (Kd.R_drew HO_6.out)
      have n3_ := Aside0.mk (blk_drew BK344.out)
      have n4_ := Aside0.mk (below_drew1 HB.out)
      clear HO_4
      clear HO_5
      clear HO_6
      clear BK344
      clear HB
      have HO_4 := n0_
      have HO_5 := n1_
      have HO_6 := n2_
      have BK344 := n3_
      have HB := n4_
      clear n0_ n1_ n2_ n3_ n4_
      have p365 : 0 ≤ (x49_3 : Int) := of_decide_eq_true (by (with_reducible assumption))
      have q365 : x49_3 < (l0_0.length : Int) := of_decide_eq_true (by (with_reducible assumption))
      obtain ⟨ad365, e365, hx365_0⟩ := Kd.at_int HR0_0.out x49_3 p365 q365
      have hw365_0 := hx365_0
      cases e365
      replace hx365_0 := (HB.out.cell (World.block_lt_of_cell? w _ hx365_0)).trans hx365_0
      replace p365 := eq_true p365
      replace q365 := eq_true q365
      have p366 : 0 ≤ (x49_3 : Int) := of_decide_eq_true (by (with_reducible assumption))
      have q366 : x49_3 < (l0_2.length : Int) := of_decide_eq_true (by (with_reducible assumption))
      obtain ⟨ad366, e366, hx366_0⟩ := Kd.at_int HR0_2.out x49_3 p366 q366
      have hw366_0 := hx366_0
      cases e366
      replace hx366_0 := (HB.out.cell (World.block_lt_of_cell? w _ hx366_0)).trans hx366_0
      replace p366 := eq_true p366
      replace q366 := eq_true q366
      have p41 : 0 ≤ (x49_3 : Int) := of_decide_eq_true (by (with_reducible assumption))
      have q41 : (x49_3 : Int) < ((x4_3.length : Int) : Int) := of_decide_eq_true (by (with_reducible assumption))
      obtain ⟨go41, co41, eo41, gb41, gl41, cl41, HG41⟩ := Kd.R_form HO_4.out (by omega)
      (cases eo41)
      have GB41 := Aside0.mk gb41
      have GG41 := Aside0.mk HG41
      clear gb41 gl41 HG41
      obtain ⟨hx41_0, hf41_0⟩ := Kd.R_celln 0 HO_4.out (x49_3 : Int) p41 q41
      replace p41 := eq_true p41
      replace q41 := eq_true q41
      have HP55 := Kd.R_putn HO_4.out (x49_3 : Int) (rd l0_0 x49_3)
      rw [← Ny367.out] at HP55
      have HQ55 := Aside0.mk HP55
      clear HP55
      have p43 : 0 ≤ (x49_3 : Int) := of_decide_eq_true (by (with_reducible assumption))
      have q43 : (x49_3 : Int) < ((x5_3.length : Int) : Int) := of_decide_eq_true (by (with_reducible assumption))
      obtain ⟨go43, co43, eo43, gb43, gl43, cl43, HG43⟩ := Kd.R_form HO_5.out (by omega)
      (cases eo43)
      have GB43 := Aside0.mk gb43
      have GG43 := Aside0.mk HG43
      clear gb43 gl43 HG43
      obtain ⟨hx43_0, hf43_0⟩ := Kd.R_celln 0 (Kd.R_far (p := ⟨go41, (x49_3 : Int).toNat, none⟩) (Kd.R_mono HO_5.out (fun k_ hk => (⟨hk, fun e_ => hk.1 (by rw [e_]; rfl)⟩ : _ ∧ k_ ≠ go41))) (fun _ hk => hk.2) (.int .i64 (rd l0_0 x49_3))) (x49_3 : Int) p43 q43
      replace p43 := eq_true p43
      replace q43 := eq_true q43
      have HP56 := Kd.R_putn (Kd.R_far (p := ⟨go41, (x49_3 : Int).toNat, none⟩) (Kd.R_mono HO_5.out (fun k_ hk => (⟨hk, fun e_ => hk.1 (by rw [e_]; rfl)⟩ : _ ∧ k_ ≠ go41))) (fun _ hk => hk.2) (.int .i64 (rd l0_0 x49_3))) (x49_3 : Int) (wrap64 (x7_1 + (rd l0_2 x49_3)))
      rw [← Ny368.out] at HP56
      have HQ56 := Aside0.mk HP56
      clear HP56
      refine start_ (n := 20) (S := fun w' => w'.cell? ⟨gb344, 0, none⟩ = some (.slice (some ad365) l0_0.length c0_0) ∧ w'.cell? ⟨gb344, 1, none⟩ = some (.slice (some ad364) l0_1.length c0_1) ∧ w'.cell? ⟨gb344, 2, none⟩ = some (.slice (some ad366) l0_2.length c0_2) ∧ w'.cell? (ad365.add (x49_3).toNat) = some (.int .i64 (rd l0_0 x49_3)) ∧ w'.cell? (ad366.add (x49_3).toNat) = some (.int .i64 (rd l0_2 x49_3))) (ds := [17, 19]) bQ67_12 (by kernel_rfl) rfl rfl ⟨(blk_cell BK344.out 0).trans rfl, (blk_cell BK344.out 1).trans rfl, (blk_cell BK344.out 2).trans rfl, ((HB.out.cell (World.block_lt_of_cell? w _ hw365_0)).trans hw365_0), ((HB.out.cell (World.block_lt_of_cell? w _ hw366_0)).trans hw366_0)⟩ (fun hHeld => ?_); refine with_tabW impl_Jobs_earliest.tab18 impl_Jobs_earliest.bits18 (fun HT_ HW_ => ?_)
      generalize wr.drew = w54 at HO_4 HO_5 HO_6 BK344 HB GG41 GG43 HQ55 HQ56 hf41_0 hf43_0 hx365_0 hx366_0 hx41_0 hx43_0 hHeld ⊢
      refine pure_ (i := 0) (N := some 58) (v := ?_) (a' := ?_) bQ67_13 rfl rfl (any_of HT_.out (by kernel_rfl)) (fun _ _ _ h => h) (Or.inl ⟨by rfl, ?_⟩) ?_ ?_
      rotate_left
      · intro w'
        go_simp
        with_reducible rfl
      rotate_left
      · simp only [Act.put, List.setIfInBounds_toArray, List.set_cons_zero, List.set_cons_succ, i64_w, i32_w]
        rfl
      refine pure_ (i := 1) (N := some 59) (v := ?_) (a' := ?_) bQ67_14 rfl rfl (any_of HT_.out (by kernel_rfl)) (fun _ _ _ h => h) (Or.inl ⟨by rfl, ?_⟩) ?_ ?_
      rotate_left
      · intro w'
        go_simp
        with_reducible rfl
      rotate_left
      · simp only [Act.put, List.setIfInBounds_toArray, List.set_cons_zero, List.set_cons_succ, i64_w, i32_w]
        rfl
      refine pure_ (i := 2) (N := some 60) (v := ?_) (a' := ?_) bQ67_15 rfl rfl (any_of HT_.out (by kernel_rfl)) (fun _ _ _ h => h) (Or.inl ⟨by rfl, ?_⟩) ?_ ?_
      rotate_left
      · intro w'
        go_simp
        with_reducible rfl
      rotate_left
      · simp only [Act.put, List.setIfInBounds_toArray, List.set_cons_zero, List.set_cons_succ, i64_w, i32_w]
        rfl
      refine pure_ (i := 3) (N := some 61) (v := ?_) (a' := ?_) bQ67_16 rfl rfl (any_of HT_.out (by kernel_rfl)) (fun _ _ _ h => h) (Or.inl ⟨by rfl, ?_⟩) ?_ ?_
      rotate_left
      · intro w'
        go_simp
        with_reducible rfl
      rotate_left
      · simp only [Act.put, List.setIfInBounds_toArray, List.set_cons_zero, List.set_cons_succ, i64_w, i32_w]
        rfl
      refine pure_ (i := 4) (N := some 62) (v := ?_) (a' := ?_) bQ67_17 rfl rfl (any_of HT_.out (by kernel_rfl)) (fun _ _ _ h => h) (Or.inl ⟨by rfl, ?_⟩) ?_ ?_
      rotate_left
      · intro w'
        go_simp
        with_reducible rfl
      rotate_left
      · simp only [Act.put, List.setIfInBounds_toArray, List.set_cons_zero, List.set_cons_succ, i64_w, i32_w]
        rfl
      refine pure_ (i := 6) (N := some 64) (v := ?_) (a' := ?_) bQ67_36 rfl rfl (any_of HT_.out (by kernel_rfl)) (fun _ _ _ h => h) (Or.inl ⟨by rfl, ?_⟩) ?_ ?_
      rotate_left
      · intro w'
        go_simp
        with_reducible rfl
      rotate_left
      · simp only [Act.put, List.setIfInBounds_toArray, List.set_cons_zero, List.set_cons_succ, i64_w, i32_w]
        rfl
      refine pure_ (i := 9) (N := some 67) (v := ?_) (a' := ?_) bQ67_37 rfl rfl (any_of HT_.out (by kernel_rfl)) (fun _ _ _ h => h) (Or.inl ⟨by rfl, ?_⟩) ?_ ?_
      rotate_left
      · intro w'
        go_simp
        with_reducible rfl
      rotate_left
      · simp only [Act.put, List.setIfInBounds_toArray, List.set_cons_zero, List.set_cons_succ, i64_w, i32_w]
        rfl
      refine pure_ (i := 10) (N := some 68) (v := ?_) (a' := ?_) bQ67_38 rfl rfl (any_of HT_.out (by kernel_rfl)) (fun _ _ _ h => h) (Or.inl ⟨by rfl, ?_⟩) ?_ ?_
      rotate_left
      · intro w'
        go_simp
        with_reducible rfl
      rotate_left
      · simp only [Act.put, List.setIfInBounds_toArray, List.set_cons_zero, List.set_cons_succ, i64_w, i32_w]
        rfl
      refine pure_ (i := 12) (N := some 70) (v := ?_) (a' := ?_) bQ67_39 rfl rfl (any_of HT_.out (by kernel_rfl)) (fun _ _ _ h => h) (Or.inl ⟨by rfl, ?_⟩) ?_ ?_
      rotate_left
      · intro w'
        go_simp
        with_reducible rfl
      rotate_left
      · simp only [Act.put, List.setIfInBounds_toArray, List.set_cons_zero, List.set_cons_succ, i64_w, i32_w]
        rfl
      refine take_ (i := 5) (N := some 63) (v := ?_) (a' := ?_) bQ67_40 rfl rfl (take_ofW HT_.out HW_.out (by kernel_rfl)) (fun _ _ _ h => h) (Or.inl ⟨by rfl, ?_⟩) hHeld ?_ ?_
      rotate_left
      · rintro w' ⟨s0, s1, s2, s3, s4⟩
        go_simp
        with_reducible rfl
      rotate_left
      · simp only [Act.put, List.setIfInBounds_toArray, List.set_cons_zero, List.set_cons_succ, i64_w, i32_w]
        rfl
      refine pure_ (i := 7) (N := some 65) (v := ?_) (a' := ?_) bQ67_41 rfl rfl (any_of HT_.out (by kernel_rfl)) (fun _ _ _ h => h) (Or.inl ⟨by rfl, ?_⟩) ?_ ?_
      rotate_left
      · intro w'
        go_simp
        with_reducible rfl
      rotate_left
      · simp only [Act.put, List.setIfInBounds_toArray, List.set_cons_zero, List.set_cons_succ, i64_w, i32_w]
        rfl
      refine take_ (i := 8) (N := some 66) (v := ?_) (a' := ?_) bQ67_42 rfl rfl (take_ofW HT_.out HW_.out (by kernel_rfl)) (fun _ _ _ h => h) (Or.inl ⟨by rfl, ?_⟩) hHeld ?_ ?_
      rotate_left
      · rintro w' ⟨s0, s1, s2, s3, s4⟩
        go_simp
        with_reducible rfl
      rotate_left
      · simp only [Act.put, List.setIfInBounds_toArray, List.set_cons_zero, List.set_cons_succ, i64_w, i32_w]
        rfl
      refine take_ (i := 11) (N := some 69) (v := ?_) (a' := ?_) bQ67_25 rfl rfl (take_ofW HT_.out HW_.out (by kernel_rfl)) (fun _ _ _ h => h) (Or.inl ⟨by rfl, ?_⟩) hHeld ?_ ?_
      rotate_left
      · rintro w' ⟨s0, s1, s2, s3, s4⟩
        go_simp
        with_reducible rfl
      rotate_left
      · simp only [Act.put, List.setIfInBounds_toArray, List.set_cons_zero, List.set_cons_succ, i64_w, i32_w]
        rfl
      refine pure_ (i := 13) (N := some 71) (v := ?_) (a' := ?_) bQ67_26 rfl rfl (any_of HT_.out (by kernel_rfl)) (fun _ _ _ h => h) (Or.inl ⟨by rfl, ?_⟩) ?_ ?_
      rotate_left
      · intro w'
        go_simp
        with_reducible rfl
      rotate_left
      · simp only [Act.put, List.setIfInBounds_toArray, List.set_cons_zero, List.set_cons_succ, i64_w, i32_w]
        rfl
      refine take_ (i := 14) (N := some 72) (v := ?_) (a' := ?_) bQ67_27 rfl rfl (take_ofW HT_.out HW_.out (by kernel_rfl)) (fun _ _ _ h => h) (Or.inl ⟨by rfl, ?_⟩) hHeld ?_ ?_
      rotate_left
      · rintro w' ⟨s0, s1, s2, s3, s4⟩
        go_simp
        with_reducible rfl
      rotate_left
      · simp only [Act.put, List.setIfInBounds_toArray, List.set_cons_zero, List.set_cons_succ, i64_w, i32_w]
        rfl
      refine pure_ (i := 15) (N := some 73) (v := ?_) (a' := ?_) bQ67_28 rfl rfl (any_of HT_.out (by kernel_rfl)) (fun _ _ _ h => h) (Or.inl ⟨by rfl, ?_⟩) ?_ ?_
      rotate_left
      · intro w'
        go_simp
        with_reducible rfl
      rotate_left
      · simp only [Act.put, List.setIfInBounds_toArray, List.set_cons_zero, List.set_cons_succ, i64_w, i32_w]
        rfl
      refine pure_ (i := 16) (N := some 74) (v := ?_) (a' := ?_) bQ67_29 rfl rfl (any_of HT_.out (by kernel_rfl)) (fun _ _ _ h => h) (Or.inl ⟨by rfl, ?_⟩) ?_ ?_
      rotate_left
      · intro w'
        go_simp
        with_reducible rfl
      rotate_left
      · simp only [Act.put, List.setIfInBounds_toArray, List.set_cons_zero, List.set_cons_succ, i64_w, i32_w]
        rfl
      refine last_ (i := 17) (N := none) bQ67_30 rfl rfl (one_of HT_.out (by kernel_rfl)) (by decide) (fun K hK => ?_)
      refine skip_ (w1 := ?_) (by rfl) rfl ?_ ?_
      rotate_left
      · go_simp
        rfl
      refine hK.out _ _ ?_
      clear hK K
      refine pure_ (i := 18) (N := some 75) (v := ?_) (a' := ?_) bQ67_31 rfl rfl (any_of HT_.out (by kernel_rfl)) (fun _ _ _ h => h) (Or.inl ⟨by rfl, ?_⟩) ?_ ?_
      rotate_left
      · intro w'
        go_simp
        with_reducible rfl
      rotate_left
      · simp only [Act.put, List.setIfInBounds_toArray, List.set_cons_zero, List.set_cons_succ, i64_w, i32_w]
        rfl
      refine last_ (i := 19) (N := none) bQ67_32 rfl rfl (one_of HT_.out (by kernel_rfl)) (by decide) (fun K hK => ?_)
      refine skip_ (w1 := ?_) (by rfl) rfl ?_ ?_
      rotate_left
      · go_simp
        rfl
      refine hK.out _ _ ?_
      clear hK K
      refine done_ (done_of HT_.out (by kernel_rfl)) ?_
      try go_wp2
      have n0_ : Aside0 (Kd.R (Kd.int .i64) 2 ((w54.setCell ⟨go41, (x49_3 : Int).toNat, none⟩ (.int .i64 (rd l0_0 x49_3))).setCell ⟨go43, (x49_3 : Int).toNat, none⟩ (.int .i64 (wrap64 (x7_1 + (rd l0_2 x49_3))))) w.heap.size (fun k_ => some k_ ≠ (.slice (some ⟨go43, 0, none⟩) x5_3.length co43 : Value).ownBlock ∧ some k_ ≠ (u6 : Value).ownBlock) (.slice (some ⟨go41, 0, none⟩) x4_3.length co17) y367) := ⟨by exact Kd.R_mono (Kd.R_far (p := ⟨go43, (x49_3 : Int).toNat, none⟩) (Kd.R_mono HQ55.out (fun k_ hk => (⟨hk, fun e_ => hk.1 (by rw [e_]; rfl)⟩ : _ ∧ k_ ≠ go43))) (fun _ hk => hk.2) (.int .i64 (wrap64 (x7_1 + (rd l0_2 x49_3))))) (fun _ hk => ⟨hk.1.1, hk.1.2⟩)⟩
      have n1_ : Aside0 (Kd.R (Kd.int .i64) 2 ((w54.setCell ⟨go41, (x49_3 : Int).toNat, none⟩ (.int .i64 (rd l0_0 x49_3))).setCell ⟨go43, (x49_3 : Int).toNat, none⟩ (.int .i64 (wrap64 (x7_1 + (rd l0_2 x49_3))))) w.heap.size (fun k_ => some k_ ≠ (.slice (some ⟨go41, 0, none⟩) x4_3.length co17 : Value).ownBlock ∧ some k_ ≠ (u6 : Value).ownBlock) (.slice (some ⟨go43, 0, none⟩) x5_3.length co43) y368) := ⟨by exact Kd.R_mono HQ56.out (fun _ hk => ⟨hk.1.1, hk.1.2⟩)⟩
      have n2_ : Aside0 (Kd.R (Kd.int .i64) 2 ((w54.setCell ⟨go41, (x49_3 : Int).toNat, none⟩ (.int .i64 (rd l0_0 x49_3))).setCell ⟨go43, (x49_3 : Int).toNat, none⟩ (.int .i64 (wrap64 (x7_1 + (rd l0_2 x49_3))))) w.heap.size (fun k_ => some k_ ≠ (.slice (some ⟨go41, 0, none⟩) x4_3.length co17 : Value).ownBlock ∧ some k_ ≠ (.slice (some ⟨go43, 0, none⟩) x5_3.length co43 : Value).ownBlock) u6 x6_1) := ⟨by exact Kd.R_mono (Kd.R_far (p := ⟨go43, (x49_3 : Int).toNat, none⟩) (Kd.R_far (p := ⟨go41, (x49_3 : Int).toNat, none⟩) (Kd.R_mono (Kd.R_mono HO_6.out (fun k_ hk => (⟨hk, fun e_ => hk.1 (by rw [e_]; rfl)⟩ : _ ∧ k_ ≠ go41))) (fun k_ hk => (⟨hk, fun e_ => hk.1.2 (by rw [e_]; rfl)⟩ : _ ∧ k_ ≠ go43))) (fun _ hk => hk.1.2) (.int .i64 (rd l0_0 x49_3))) (fun _ hk => hk.2) (.int .i64 (wrap64 (x7_1 + (rd l0_2 x49_3))))) (fun _ hk => ⟨hk.1.1.1, hk.1.1.2⟩)⟩
      have n3_ : Aside0 (((w54.setCell ⟨go41, (x49_3 : Int).toNat, none⟩ (.int .i64 (rd l0_0 x49_3))).setCell ⟨go43, (x49_3 : Int).toNat, none⟩ (.int .i64 (wrap64 (x7_1 + (rd l0_2 x49_3))))).heap[gb344]? = some (.cells #[.slice (some ad365) l0_0.length c0_0, .slice (some ad364) l0_1.length c0_1, .slice (some ad366) l0_2.length c0_2] 33 (0, 0))) := ⟨by refine blk_far ?_ (by have h_ := Kd.R_ne HO_5.out BK344.out (by decide); intro e_; exact h_ (by rw [e_]; rfl)) _; refine blk_far ?_ (by have h_ := Kd.R_ne HO_4.out BK344.out (by decide); intro e_; exact h_ (by rw [e_]; rfl)) _; exact BK344.out⟩
      have n4_ : Aside0 (Below w.heap.size w ((w54.setCell ⟨go41, (x49_3 : Int).toNat, none⟩ (.int .i64 (rd l0_0 x49_3))).setCell ⟨go43, (x49_3 : Int).toNat, none⟩ (.int .i64 (wrap64 (x7_1 + (rd l0_2 x49_3)))))) := ⟨by repeat (with_reducible first | exact HB.out | refine below_set ?_ GB41.out | refine below_set ?_ GB43.out)⟩
      (try clear HO_4)
      (try clear HO_5)
      (try clear HO_6)
      (try clear BK344)
      (try clear HB)
      generalize ((w54.setCell ⟨go41, (x49_3 : Int).toNat, none⟩ (.int .i64 (rd l0_0 x49_3))).setCell ⟨go43, (x49_3 : Int).toNat, none⟩ (.int .i64 (wrap64 (x7_1 + (rd l0_2 x49_3))))) = w57 at n0_ n1_ n2_ n3_ n4_ ⊢
      have HO_4 := n0_
      have HO_5 := n1_
      have HO_6 := n2_
      have BK344 := n3_
      have HB := n4_
      clear n0_ n1_ n2_ n3_ n4_
      have n0_ := Aside0.mk (Kd.R_drew HO_4.out)
      have n1_ := Aside0.mk (Kd.R_drew HO_5.out)
      have n2_ := Aside0.mk (Kd.R_drew HO_6.out)
      have n3_ := Aside0.mk (blk_drew BK344.out)
      have n4_ := Aside0.mk (below_drew1 HB.out)
      clear HO_4
      clear HO_5
      clear HO_6
      clear BK344
      clear HB
      have HO_4 := n0_
      have HO_5 := n1_
      have HO_6 := n2_
      have BK344 := n3_
      have HB := n4_
      clear n0_ n1_ n2_ n3_ n4_
      have p369 : 0 ≤ (x49_3 : Int) := of_decide_eq_true (by (with_reducible assumption))
      have q369 : x49_3 < (y367.length : Int) := (by have h_ : (x49_3 : Int) < ((x4_3.length : Int) : Int) := of_decide_eq_true (by (with_reducible assumption)); (have e_ := (Kd.R_reads' HO_4.out).1; omega))
      have ql369 : ((x49_3 : Int) < ((x4_3.length : Int) : Int)) = True := eq_true (of_decide_eq_true (by (with_reducible assumption)))
      obtain ⟨ad369, e369, hx369_0⟩ := Kd.at_int (Kd.R_reads' HO_4.out).2.2 x49_3 p369 q369
      obtain rfl : (⟨go41, 0, none⟩ : Addr) = ad369 := (by injection e369)
      (simp only [add_plain] at hx369_0)
      replace p369 := eq_true p369
      replace q369 := eq_true q369
      have p370 : 0 ≤ (x49_3 : Int) := of_decide_eq_true (by (with_reducible assumption))
      have q370 : x49_3 < (y368.length : Int) := (by have h_ : (x49_3 : Int) < ((x5_3.length : Int) : Int) := of_decide_eq_true (by (with_reducible assumption)); (have e_ := (Kd.R_reads' HO_5.out).1; omega))
      have ql370 : ((x49_3 : Int) < ((x5_3.length : Int) : Int)) = True := eq_true (of_decide_eq_true (by (with_reducible assumption)))
      obtain ⟨ad370, e370, hx370_0⟩ := Kd.at_int (Kd.R_reads' HO_5.out).2.2 x49_3 p370 q370
      obtain rfl : (⟨go43, 0, none⟩ : Addr) = ad370 := (by injection e370)
      (simp only [add_plain] at hx370_0)
      replace p370 := eq_true p370
      replace q370 := eq_true q370
      have p371 : 0 ≤ (x9_3 : Int) := of_decide_eq_true (by (with_reducible assumption))
      have q371 : x9_3 < (y368.length : Int) := (by have h_ : (x9_3 : Int) < ((x5_3.length : Int) : Int) := of_decide_eq_true (by (with_reducible assumption)); (have e_ := (Kd.R_reads' HO_5.out).1; omega))
      have ql371 : ((x9_3 : Int) < ((x5_3.length : Int) : Int)) = True := eq_true (of_decide_eq_true (by (with_reducible assumption)))
      obtain ⟨ad371, e371, hx371_0⟩ := Kd.at_int (Kd.R_reads' HO_5.out).2.2 x9_3 p371 q371
      obtain rfl : (⟨go43, 0, none⟩ : Addr) = ad371 := (by injection e371)
      (simp only [add_plain] at hx371_0)
      replace p371 := eq_true p371
      replace q371 := eq_true q371
      refine start_ (n := 20) (S := fun w' => w'.cell? ⟨go41, (x49_3).toNat, none⟩ = some (.int .i64 (rd y367 x49_3)) ∧ w'.cell? ⟨go43, (x49_3).toNat, none⟩ = some (.int .i64 (rd y368 x49_3)) ∧ w'.cell? ⟨go43, (x9_3).toNat, none⟩ = some (.int .i64 (rd y368 x9_3))) (ds := []) bQ67_12 (by kernel_rfl) rfl rfl ⟨hx369_0, hx370_0, hx371_0⟩ (fun hHeld => ?_); refine with_tabW impl_Jobs_earliest.tab19 impl_Jobs_earliest.bits19 (fun HT_ HW_ => ?_)
      generalize w57.drew = w58 at HO_4 HO_5 HO_6 BK344 HB HQ55 HQ56 hx369_0 hx370_0 hx371_0 hHeld ⊢
      refine pure_ (i := 0) (N := some 76) (v := ?_) (a' := ?_) bQ67_13 rfl rfl (any_of HT_.out (by kernel_rfl)) (fun _ _ _ h => h) (Or.inl ⟨by rfl, ?_⟩) ?_ ?_
      rotate_left
      · intro w'
        go_simp
        with_reducible rfl
      rotate_left
      · simp only [Act.put, List.setIfInBounds_toArray, List.set_cons_zero, List.set_cons_succ, i64_w, i32_w]
        rfl
      refine pure_ (i := 1) (N := some 77) (v := ?_) (a' := ?_) bQ67_14 rfl rfl (any_of HT_.out (by kernel_rfl)) (fun _ _ _ h => h) (Or.inl ⟨by rfl, ?_⟩) ?_ ?_
      rotate_left
      · intro w'
        go_simp
        with_reducible rfl
      rotate_left
      · simp only [Act.put, List.setIfInBounds_toArray, List.set_cons_zero, List.set_cons_succ, i64_w, i32_w]
        rfl
      refine pure_ (i := 2) (N := some 78) (v := ?_) (a' := ?_) bQ67_15 rfl rfl (any_of HT_.out (by kernel_rfl)) (fun _ _ _ h => h) (Or.inl ⟨by rfl, ?_⟩) ?_ ?_
      rotate_left
      · intro w'
        go_simp
        with_reducible rfl
      rotate_left
      · simp only [Act.put, List.setIfInBounds_toArray, List.set_cons_zero, List.set_cons_succ, i64_w, i32_w]
        rfl
      refine take_ (i := 3) (N := some 79) (v := ?_) (a' := ?_) bQ67_16 rfl rfl (take_ofW HT_.out HW_.out (by kernel_rfl)) (fun _ _ _ h => h) (Or.inl ⟨by rfl, ?_⟩) hHeld ?_ ?_
      rotate_left
      · rintro w' ⟨s0, s1, s2⟩
        go_simp
        with_reducible rfl
      rotate_left
      · simp only [Act.put, List.setIfInBounds_toArray, List.set_cons_zero, List.set_cons_succ, i64_w, i32_w]
        rfl
      refine pure_ (i := 4) (N := some 80) (v := ?_) (a' := ?_) bQ67_17 rfl rfl (any_of HT_.out (by kernel_rfl)) (fun _ _ _ h => h) (Or.inl ⟨by rfl, ?_⟩) ?_ ?_
      rotate_left
      · intro w'
        go_simp
        with_reducible rfl
      rotate_left
      · simp only [Act.put, List.setIfInBounds_toArray, List.set_cons_zero, List.set_cons_succ, i64_w, i32_w]
        rfl
      refine pure_ (i := 5) (N := some 81) (v := ?_) (a' := ?_) bQ67_18 rfl rfl (any_of HT_.out (by kernel_rfl)) (fun _ _ _ h => h) (Or.inl ⟨by rfl, ?_⟩) ?_ ?_
      rotate_left
      · intro w'
        go_simp
        with_reducible rfl
      rotate_left
      · simp only [Act.put, List.setIfInBounds_toArray, List.set_cons_zero, List.set_cons_succ, i64_w, i32_w]
        rfl
      refine pure_ (i := 6) (N := some 82) (v := ?_) (a' := ?_) bQ67_19 rfl rfl (any_of HT_.out (by kernel_rfl)) (fun _ _ _ h => h) (Or.inl ⟨by rfl, ?_⟩) ?_ ?_
      rotate_left
      · intro w'
        go_simp
        with_reducible rfl
      rotate_left
      · simp only [Act.put, List.setIfInBounds_toArray, List.set_cons_zero, List.set_cons_succ, i64_w, i32_w]
        rfl
      refine pure_ (i := 7) (N := some 83) (v := ?_) (a' := ?_) bQ67_20 rfl rfl (any_of HT_.out (by kernel_rfl)) (fun _ _ _ h => h) (Or.inl ⟨by rfl, ?_⟩) ?_ ?_
      rotate_left
      · intro w'
        go_simp
        with_reducible rfl
      rotate_left
      · simp only [Act.put, List.setIfInBounds_toArray, List.set_cons_zero, List.set_cons_succ, i64_w, i32_w]
        rfl
      refine pure_ (i := 8) (N := some 84) (v := ?_) (a' := ?_) bQ67_21 rfl rfl (any_of HT_.out (by kernel_rfl)) (fun _ _ _ h => h) (Or.inl ⟨by rfl, ?_⟩) ?_ ?_
      rotate_left
      · intro w'
        go_simp
        with_reducible rfl
      rotate_left
      · simp only [Act.put, List.setIfInBounds_toArray, List.set_cons_zero, List.set_cons_succ, i64_w, i32_w]
        rfl
      refine pure_ (i := 9) (N := some 85) (v := ?_) (a' := ?_) bQ67_22 rfl rfl (any_of HT_.out (by kernel_rfl)) (fun _ _ _ h => h) (Or.inl ⟨by rfl, ?_⟩) ?_ ?_
      rotate_left
      · intro w'
        go_simp
        with_reducible rfl
      rotate_left
      · simp only [Act.put, List.setIfInBounds_toArray, List.set_cons_zero, List.set_cons_succ, i64_w, i32_w]
        rfl
      refine pure_ (i := 10) (N := some 86) (v := ?_) (a' := ?_) bQ67_23 rfl rfl (any_of HT_.out (by kernel_rfl)) (fun _ _ _ h => h) (Or.inl ⟨by rfl, ?_⟩) ?_ ?_
      rotate_left
      · intro w'
        go_simp
        with_reducible rfl
      rotate_left
      · simp only [Act.put, List.setIfInBounds_toArray, List.set_cons_zero, List.set_cons_succ, i64_w, i32_w]
        rfl
      refine pure_ (i := 11) (N := some 87) (v := ?_) (a' := ?_) bQ67_24 rfl rfl (any_of HT_.out (by kernel_rfl)) (fun _ _ _ h => h) (Or.inl ⟨by rfl, ?_⟩) ?_ ?_
      rotate_left
      · intro w'
        go_simp
        with_reducible rfl
      rotate_left
      · simp only [Act.put, List.setIfInBounds_toArray, List.set_cons_zero, List.set_cons_succ, i64_w, i32_w]
        rfl
      refine pure_ (i := 13) (N := some 89) (v := ?_) (a' := ?_) bQ67_33 rfl rfl (any_of HT_.out (by kernel_rfl)) (fun _ _ _ h => h) (Or.inl ⟨by rfl, ?_⟩) ?_ ?_
      rotate_left
      · intro w'
        go_simp
        with_reducible rfl
      rotate_left
      · simp only [Act.put, List.setIfInBounds_toArray, List.set_cons_zero, List.set_cons_succ, i64_w, i32_w]
        rfl
      refine pure_ (i := 14) (N := some 90) (v := ?_) (a' := ?_) bQ67_34 rfl rfl (any_of HT_.out (by kernel_rfl)) (fun _ _ _ h => h) (Or.inl ⟨by rfl, ?_⟩) ?_ ?_
      rotate_left
      · intro w'
        go_simp
        with_reducible rfl
      rotate_left
      · simp only [Act.put, List.setIfInBounds_toArray, List.set_cons_zero, List.set_cons_succ, i64_w, i32_w]
        rfl
      refine pure_ (i := 15) (N := some 91) (v := ?_) (a' := ?_) bQ67_35 rfl rfl (any_of HT_.out (by kernel_rfl)) (fun _ _ _ h => h) (Or.inl ⟨by rfl, ?_⟩) ?_ ?_
      rotate_left
      · intro w'
        go_simp
        with_reducible rfl
      rotate_left
      · simp only [Act.put, List.setIfInBounds_toArray, List.set_cons_zero, List.set_cons_succ, i64_w, i32_w]
        rfl
      refine take_ (i := 12) (N := some 88) (v := ?_) (a' := ?_) bQ67_28 rfl rfl (take_ofW HT_.out HW_.out (by kernel_rfl)) (fun _ _ _ h => h) (Or.inl ⟨by rfl, ?_⟩) hHeld ?_ ?_
      rotate_left
      · rintro w' ⟨s0, s1, s2⟩
        go_simp
        with_reducible rfl
      rotate_left
      · simp only [Act.put, List.setIfInBounds_toArray, List.set_cons_zero, List.set_cons_succ, i64_w, i32_w]
        rfl
      refine take_ (i := 16) (N := some 92) (v := ?_) (a' := ?_) bQ67_29 rfl rfl (take_ofW HT_.out HW_.out (by kernel_rfl)) (fun _ _ _ h => h) (Or.inl ⟨by rfl, ?_⟩) hHeld ?_ ?_
      rotate_left
      · rintro w' ⟨s0, s1, s2⟩
        go_simp
        with_reducible rfl
      rotate_left
      · simp only [Act.put, List.setIfInBounds_toArray, List.set_cons_zero, List.set_cons_succ, i64_w, i32_w]
        rfl
      refine pure_ (i := 17) (N := some 93) (v := ?_) (a' := ?_) bQ67_30 rfl rfl (any_of HT_.out (by kernel_rfl)) (fun _ _ _ h => h) (Or.inl ⟨by rfl, ?_⟩) ?_ ?_
      rotate_left
      · intro w'
        go_simp
        with_reducible rfl
      rotate_left
      · simp only [Act.put, List.setIfInBounds_toArray, List.set_cons_zero, List.set_cons_succ, i64_w, i32_w]
        rfl
      refine pure_ (i := 18) (N := some 94) (v := ?_) (a' := ?_) bQ67_31 rfl rfl (any_of HT_.out (by kernel_rfl)) (fun _ _ _ h => h) (Or.inl ⟨by rfl, ?_⟩) ?_ ?_
      rotate_left
      · intro w'
        go_simp
        with_reducible rfl
      rotate_left
      · simp only [Act.put, List.setIfInBounds_toArray, List.set_cons_zero, List.set_cons_succ, i64_w, i32_w]
        rfl
      refine pure_ (i := 19) (N := some 95) (v := ?_) (a' := ?_) bQ67_32 rfl rfl (any_of HT_.out (by kernel_rfl)) (fun _ _ _ h => h) (Or.inl ⟨by rfl, ?_⟩) ?_ ?_
      rotate_left
      · intro w'
        go_simp
        with_reducible rfl
      rotate_left
      · simp only [Act.put, List.setIfInBounds_toArray, List.set_cons_zero, List.set_cons_succ, i64_w, i32_w]
        rfl
      refine done_ (done_of HT_.out (by kernel_rfl)) ?_
      try go_wp2
      (try simp only [← hl4_3])
      go_roundg k3
      case measure => have := HK1.out; have := HK2.out; have := HK3.out; omega
      case rel => exact ⟨(y367), (y368), (x49_3), (wrap64 (x49_3 + 1)), (by rfl), (by rfl), H', ⟨by have := HK1.out; have := HK2.out; have := HK3.out; omega⟩, ⟨by (try simp only [hl4_3]); exact HO_4.out⟩, ⟨by (try simp only [hl4_3]); exact HO_5.out⟩, ⟨by (try simp only [hl4_3]); exact HO_6.out⟩, ⟨by (try simp only [hl4_3]); exact BK344.out⟩, ⟨by exact HB.out⟩⟩
    rw [if_neg c53] at H
    have c53b0 : decide ((rd y368 x49_3) < (rd y368 x9_3)) = false := decide_eq_false c53
    clear c53
    have H' := Aside0.mk H
    clear H
    have p364 : 0 ≤ (x49_3 : Int) := of_decide_eq_true (by (with_reducible assumption))
    have q364 : x49_3 < (l0_1.length : Int) := of_decide_eq_true (by (with_reducible assumption))
    obtain ⟨ad364, e364, hx364_0⟩ := Kd.at_int HR0_1.out x49_3 p364 q364
    cases e364
    replace hx364_0 := (HB.out.cell (World.block_lt_of_cell? w _ hx364_0)).trans hx364_0
    replace p364 := eq_true p364
    replace q364 := eq_true q364
    try go_wp2
    have n0_ := Aside0.mk (Kd.R_drew HO_4.out)
    have n1_ := Aside0.mk (Kd.R_drew HO_5.out)
    have n2_ := Aside0.mk (Kd.R_drew HO_6.out)
    have n3_ := Aside0.mk (blk_drew BK344.out)
    have n4_ := Aside0.mk (below_drew1 HB.out)
    clear HO_4
    clear HO_5
    clear HO_6
    clear BK344
    clear HB
    have HO_4 := n0_
    have HO_5 := n1_
    have HO_6 := n2_
    have BK344 := n3_
    have HB := n4_
    clear n0_ n1_ n2_ n3_ n4_
    have p365 : 0 ≤ (x49_3 : Int) := of_decide_eq_true (by (with_reducible assumption))
    have q365 : x49_3 < (l0_0.length : Int) := of_decide_eq_true (by (with_reducible assumption))
    obtain ⟨ad365, e365, hx365_0⟩ := Kd.at_int HR0_0.out x49_3 p365 q365
    have hw365_0 := hx365_0
    cases e365
    replace hx365_0 := (HB.out.cell (World.block_lt_of_cell? w _ hx365_0)).trans hx365_0
    replace p365 := eq_true p365
    replace q365 := eq_true q365
    have p366 : 0 ≤ (x49_3 : Int) := of_decide_eq_true (by (with_reducible assumption))
    have q366 : x49_3 < (l0_2.length : Int) := of_decide_eq_true (by (with_reducible assumption))
    obtain ⟨ad366, e366, hx366_0⟩ := Kd.at_int HR0_2.out x49_3 p366 q366
    have hw366_0 := hx366_0
    cases e366
    replace hx366_0 := (HB.out.cell (World.block_lt_of_cell? w _ hx366_0)).trans hx366_0
    replace p366 := eq_true p366
    replace q366 := eq_true q366
    have p41 : 0 ≤ (x49_3 : Int) := of_decide_eq_true (by (with_reducible assumption))
    have q41 : (x49_3 : Int) < ((x4_3.length : Int) : Int) := of_decide_eq_true (by (with_reducible assumption))
    obtain ⟨go41, co41, eo41, gb41, gl41, cl41, HG41⟩ := Kd.R_form HO_4.out (by omega)
    (cases eo41)
    have GB41 := Aside0.mk gb41
    have GG41 := Aside0.mk HG41
    clear gb41 gl41 HG41
    obtain ⟨hx41_0, hf41_0⟩ := Kd.R_celln 0 HO_4.out (x49_3 : Int) p41 q41
    replace p41 := eq_true p41
    replace q41 := eq_true q41
    have HP60 := Kd.R_putn HO_4.out (x49_3 : Int) (rd l0_0 x49_3)
    rw [← Ny367.out] at HP60
    have HQ60 := Aside0.mk HP60
    clear HP60
    have p43 : 0 ≤ (x49_3 : Int) := of_decide_eq_true (by (with_reducible assumption))
    have q43 : (x49_3 : Int) < ((x5_3.length : Int) : Int) := of_decide_eq_true (by (with_reducible assumption))
    obtain ⟨go43, co43, eo43, gb43, gl43, cl43, HG43⟩ := Kd.R_form HO_5.out (by omega)
    (cases eo43)
    have GB43 := Aside0.mk gb43
    have GG43 := Aside0.mk HG43
    clear gb43 gl43 HG43
    obtain ⟨hx43_0, hf43_0⟩ := Kd.R_celln 0 (Kd.R_far (p := ⟨go41, (x49_3 : Int).toNat, none⟩) (Kd.R_mono HO_5.out (fun k_ hk => (⟨hk, fun e_ => hk.1 (by rw [e_]; rfl)⟩ : _ ∧ k_ ≠ go41))) (fun _ hk => hk.2) (.int .i64 (rd l0_0 x49_3))) (x49_3 : Int) p43 q43
    replace p43 := eq_true p43
    replace q43 := eq_true q43
    have HP61 := Kd.R_putn (Kd.R_far (p := ⟨go41, (x49_3 : Int).toNat, none⟩) (Kd.R_mono HO_5.out (fun k_ hk => (⟨hk, fun e_ => hk.1 (by rw [e_]; rfl)⟩ : _ ∧ k_ ≠ go41))) (fun _ hk => hk.2) (.int .i64 (rd l0_0 x49_3))) (x49_3 : Int) (wrap64 (x7_1 + (rd l0_2 x49_3)))
    rw [← Ny368.out] at HP61
    have HQ61 := Aside0.mk HP61
    clear HP61
    refine start_ (n := 20) (S := fun w' => w'.cell? ⟨gb344, 0, none⟩ = some (.slice (some ad365) l0_0.length c0_0) ∧ w'.cell? ⟨gb344, 1, none⟩ = some (.slice (some ad364) l0_1.length c0_1) ∧ w'.cell? ⟨gb344, 2, none⟩ = some (.slice (some ad366) l0_2.length c0_2) ∧ w'.cell? (ad365.add (x49_3).toNat) = some (.int .i64 (rd l0_0 x49_3)) ∧ w'.cell? (ad366.add (x49_3).toNat) = some (.int .i64 (rd l0_2 x49_3))) (ds := [17, 19]) bQ67_12 (by kernel_rfl) rfl rfl ⟨(blk_cell BK344.out 0).trans rfl, (blk_cell BK344.out 1).trans rfl, (blk_cell BK344.out 2).trans rfl, ((HB.out.cell (World.block_lt_of_cell? w _ hw365_0)).trans hw365_0), ((HB.out.cell (World.block_lt_of_cell? w _ hw366_0)).trans hw366_0)⟩ (fun hHeld => ?_); refine with_tabW impl_Jobs_earliest.tab18 impl_Jobs_earliest.bits18 (fun HT_ HW_ => ?_)
    generalize wr.drew = w59 at HO_4 HO_5 HO_6 BK344 HB GG41 GG43 HQ60 HQ61 hf41_0 hf43_0 hx365_0 hx366_0 hx41_0 hx43_0 hHeld ⊢
    refine pure_ (i := 0) (N := some 58) (v := ?_) (a' := ?_) bQ67_13 rfl rfl (any_of HT_.out (by kernel_rfl)) (fun _ _ _ h => h) (Or.inl ⟨by rfl, ?_⟩) ?_ ?_
    rotate_left
    · intro w'
      go_simp
      with_reducible rfl
    rotate_left
    · simp only [Act.put, List.setIfInBounds_toArray, List.set_cons_zero, List.set_cons_succ, i64_w, i32_w]
      rfl
    refine pure_ (i := 1) (N := some 59) (v := ?_) (a' := ?_) bQ67_14 rfl rfl (any_of HT_.out (by kernel_rfl)) (fun _ _ _ h => h) (Or.inl ⟨by rfl, ?_⟩) ?_ ?_
    rotate_left
    · intro w'
      go_simp
      with_reducible rfl
    rotate_left
    · simp only [Act.put, List.setIfInBounds_toArray, List.set_cons_zero, List.set_cons_succ, i64_w, i32_w]
      rfl
    refine pure_ (i := 2) (N := some 60) (v := ?_) (a' := ?_) bQ67_15 rfl rfl (any_of HT_.out (by kernel_rfl)) (fun _ _ _ h => h) (Or.inl ⟨by rfl, ?_⟩) ?_ ?_
    rotate_left
    · intro w'
      go_simp
      with_reducible rfl
    rotate_left
    · simp only [Act.put, List.setIfInBounds_toArray, List.set_cons_zero, List.set_cons_succ, i64_w, i32_w]
      rfl
    refine pure_ (i := 3) (N := some 61) (v := ?_) (a' := ?_) bQ67_16 rfl rfl (any_of HT_.out (by kernel_rfl)) (fun _ _ _ h => h) (Or.inl ⟨by rfl, ?_⟩) ?_ ?_
    rotate_left
    · intro w'
      go_simp
      with_reducible rfl
    rotate_left
    · simp only [Act.put, List.setIfInBounds_toArray, List.set_cons_zero, List.set_cons_succ, i64_w, i32_w]
      rfl
    refine pure_ (i := 4) (N := some 62) (v := ?_) (a' := ?_) bQ67_17 rfl rfl (any_of HT_.out (by kernel_rfl)) (fun _ _ _ h => h) (Or.inl ⟨by rfl, ?_⟩) ?_ ?_
    rotate_left
    · intro w'
      go_simp
      with_reducible rfl
    rotate_left
    · simp only [Act.put, List.setIfInBounds_toArray, List.set_cons_zero, List.set_cons_succ, i64_w, i32_w]
      rfl
    refine pure_ (i := 6) (N := some 64) (v := ?_) (a' := ?_) bQ67_36 rfl rfl (any_of HT_.out (by kernel_rfl)) (fun _ _ _ h => h) (Or.inl ⟨by rfl, ?_⟩) ?_ ?_
    rotate_left
    · intro w'
      go_simp
      with_reducible rfl
    rotate_left
    · simp only [Act.put, List.setIfInBounds_toArray, List.set_cons_zero, List.set_cons_succ, i64_w, i32_w]
      rfl
    refine pure_ (i := 9) (N := some 67) (v := ?_) (a' := ?_) bQ67_37 rfl rfl (any_of HT_.out (by kernel_rfl)) (fun _ _ _ h => h) (Or.inl ⟨by rfl, ?_⟩) ?_ ?_
    rotate_left
    · intro w'
      go_simp
      with_reducible rfl
    rotate_left
    · simp only [Act.put, List.setIfInBounds_toArray, List.set_cons_zero, List.set_cons_succ, i64_w, i32_w]
      rfl
    refine pure_ (i := 10) (N := some 68) (v := ?_) (a' := ?_) bQ67_38 rfl rfl (any_of HT_.out (by kernel_rfl)) (fun _ _ _ h => h) (Or.inl ⟨by rfl, ?_⟩) ?_ ?_
    rotate_left
    · intro w'
      go_simp
      with_reducible rfl
    rotate_left
    · simp only [Act.put, List.setIfInBounds_toArray, List.set_cons_zero, List.set_cons_succ, i64_w, i32_w]
      rfl
    refine pure_ (i := 12) (N := some 70) (v := ?_) (a' := ?_) bQ67_39 rfl rfl (any_of HT_.out (by kernel_rfl)) (fun _ _ _ h => h) (Or.inl ⟨by rfl, ?_⟩) ?_ ?_
    rotate_left
    · intro w'
      go_simp
      with_reducible rfl
    rotate_left
    · simp only [Act.put, List.setIfInBounds_toArray, List.set_cons_zero, List.set_cons_succ, i64_w, i32_w]
      rfl
    refine take_ (i := 5) (N := some 63) (v := ?_) (a' := ?_) bQ67_40 rfl rfl (take_ofW HT_.out HW_.out (by kernel_rfl)) (fun _ _ _ h => h) (Or.inl ⟨by rfl, ?_⟩) hHeld ?_ ?_
    rotate_left
    · rintro w' ⟨s0, s1, s2, s3, s4⟩
      go_simp
      with_reducible rfl
    rotate_left
    · simp only [Act.put, List.setIfInBounds_toArray, List.set_cons_zero, List.set_cons_succ, i64_w, i32_w]
      rfl
    refine pure_ (i := 7) (N := some 65) (v := ?_) (a' := ?_) bQ67_41 rfl rfl (any_of HT_.out (by kernel_rfl)) (fun _ _ _ h => h) (Or.inl ⟨by rfl, ?_⟩) ?_ ?_
    rotate_left
    · intro w'
      go_simp
      with_reducible rfl
    rotate_left
    · simp only [Act.put, List.setIfInBounds_toArray, List.set_cons_zero, List.set_cons_succ, i64_w, i32_w]
      rfl
    refine take_ (i := 8) (N := some 66) (v := ?_) (a' := ?_) bQ67_42 rfl rfl (take_ofW HT_.out HW_.out (by kernel_rfl)) (fun _ _ _ h => h) (Or.inl ⟨by rfl, ?_⟩) hHeld ?_ ?_
    rotate_left
    · rintro w' ⟨s0, s1, s2, s3, s4⟩
      go_simp
      with_reducible rfl
    rotate_left
    · simp only [Act.put, List.setIfInBounds_toArray, List.set_cons_zero, List.set_cons_succ, i64_w, i32_w]
      rfl
    refine take_ (i := 11) (N := some 69) (v := ?_) (a' := ?_) bQ67_25 rfl rfl (take_ofW HT_.out HW_.out (by kernel_rfl)) (fun _ _ _ h => h) (Or.inl ⟨by rfl, ?_⟩) hHeld ?_ ?_
    rotate_left
    · rintro w' ⟨s0, s1, s2, s3, s4⟩
      go_simp
      with_reducible rfl
    rotate_left
    · simp only [Act.put, List.setIfInBounds_toArray, List.set_cons_zero, List.set_cons_succ, i64_w, i32_w]
      rfl
    refine pure_ (i := 13) (N := some 71) (v := ?_) (a' := ?_) bQ67_26 rfl rfl (any_of HT_.out (by kernel_rfl)) (fun _ _ _ h => h) (Or.inl ⟨by rfl, ?_⟩) ?_ ?_
    rotate_left
    · intro w'
      go_simp
      with_reducible rfl
    rotate_left
    · simp only [Act.put, List.setIfInBounds_toArray, List.set_cons_zero, List.set_cons_succ, i64_w, i32_w]
      rfl
    refine take_ (i := 14) (N := some 72) (v := ?_) (a' := ?_) bQ67_27 rfl rfl (take_ofW HT_.out HW_.out (by kernel_rfl)) (fun _ _ _ h => h) (Or.inl ⟨by rfl, ?_⟩) hHeld ?_ ?_
    rotate_left
    · rintro w' ⟨s0, s1, s2, s3, s4⟩
      go_simp
      with_reducible rfl
    rotate_left
    · simp only [Act.put, List.setIfInBounds_toArray, List.set_cons_zero, List.set_cons_succ, i64_w, i32_w]
      rfl
    refine pure_ (i := 15) (N := some 73) (v := ?_) (a' := ?_) bQ67_28 rfl rfl (any_of HT_.out (by kernel_rfl)) (fun _ _ _ h => h) (Or.inl ⟨by rfl, ?_⟩) ?_ ?_
    rotate_left
    · intro w'
      go_simp
      with_reducible rfl
    rotate_left
    · simp only [Act.put, List.setIfInBounds_toArray, List.set_cons_zero, List.set_cons_succ, i64_w, i32_w]
      rfl
    refine pure_ (i := 16) (N := some 74) (v := ?_) (a' := ?_) bQ67_29 rfl rfl (any_of HT_.out (by kernel_rfl)) (fun _ _ _ h => h) (Or.inl ⟨by rfl, ?_⟩) ?_ ?_
    rotate_left
    · intro w'
      go_simp
      with_reducible rfl
    rotate_left
    · simp only [Act.put, List.setIfInBounds_toArray, List.set_cons_zero, List.set_cons_succ, i64_w, i32_w]
      rfl
    refine last_ (i := 17) (N := none) bQ67_30 rfl rfl (one_of HT_.out (by kernel_rfl)) (by decide) (fun K hK => ?_)
    refine skip_ (w1 := ?_) (by rfl) rfl ?_ ?_
    rotate_left
    · go_simp
      rfl
    refine hK.out _ _ ?_
    clear hK K
    refine pure_ (i := 18) (N := some 75) (v := ?_) (a' := ?_) bQ67_31 rfl rfl (any_of HT_.out (by kernel_rfl)) (fun _ _ _ h => h) (Or.inl ⟨by rfl, ?_⟩) ?_ ?_
    rotate_left
    · intro w'
      go_simp
      with_reducible rfl
    rotate_left
    · simp only [Act.put, List.setIfInBounds_toArray, List.set_cons_zero, List.set_cons_succ, i64_w, i32_w]
      rfl
    refine last_ (i := 19) (N := none) bQ67_32 rfl rfl (one_of HT_.out (by kernel_rfl)) (by decide) (fun K hK => ?_)
    refine skip_ (w1 := ?_) (by rfl) rfl ?_ ?_
    rotate_left
    · go_simp
      rfl
    refine hK.out _ _ ?_
    clear hK K
    refine done_ (done_of HT_.out (by kernel_rfl)) ?_
    try go_wp2
    have n0_ : Aside0 (Kd.R (Kd.int .i64) 2 ((w59.setCell ⟨go41, (x49_3 : Int).toNat, none⟩ (.int .i64 (rd l0_0 x49_3))).setCell ⟨go43, (x49_3 : Int).toNat, none⟩ (.int .i64 (wrap64 (x7_1 + (rd l0_2 x49_3))))) w.heap.size (fun k_ => some k_ ≠ (.slice (some ⟨go43, 0, none⟩) x5_3.length co43 : Value).ownBlock ∧ some k_ ≠ (u6 : Value).ownBlock) (.slice (some ⟨go41, 0, none⟩) x4_3.length co17) y367) := ⟨by exact Kd.R_mono (Kd.R_far (p := ⟨go43, (x49_3 : Int).toNat, none⟩) (Kd.R_mono HQ60.out (fun k_ hk => (⟨hk, fun e_ => hk.1 (by rw [e_]; rfl)⟩ : _ ∧ k_ ≠ go43))) (fun _ hk => hk.2) (.int .i64 (wrap64 (x7_1 + (rd l0_2 x49_3))))) (fun _ hk => ⟨hk.1.1, hk.1.2⟩)⟩
    have n1_ : Aside0 (Kd.R (Kd.int .i64) 2 ((w59.setCell ⟨go41, (x49_3 : Int).toNat, none⟩ (.int .i64 (rd l0_0 x49_3))).setCell ⟨go43, (x49_3 : Int).toNat, none⟩ (.int .i64 (wrap64 (x7_1 + (rd l0_2 x49_3))))) w.heap.size (fun k_ => some k_ ≠ (.slice (some ⟨go41, 0, none⟩) x4_3.length co17 : Value).ownBlock ∧ some k_ ≠ (u6 : Value).ownBlock) (.slice (some ⟨go43, 0, none⟩) x5_3.length co43) y368) := ⟨by exact Kd.R_mono HQ61.out (fun _ hk => ⟨hk.1.1, hk.1.2⟩)⟩
    have n2_ : Aside0 (Kd.R (Kd.int .i64) 2 ((w59.setCell ⟨go41, (x49_3 : Int).toNat, none⟩ (.int .i64 (rd l0_0 x49_3))).setCell ⟨go43, (x49_3 : Int).toNat, none⟩ (.int .i64 (wrap64 (x7_1 + (rd l0_2 x49_3))))) w.heap.size (fun k_ => some k_ ≠ (.slice (some ⟨go41, 0, none⟩) x4_3.length co17 : Value).ownBlock ∧ some k_ ≠ (.slice (some ⟨go43, 0, none⟩) x5_3.length co43 : Value).ownBlock) u6 x6_1) := ⟨by exact Kd.R_mono (Kd.R_far (p := ⟨go43, (x49_3 : Int).toNat, none⟩) (Kd.R_far (p := ⟨go41, (x49_3 : Int).toNat, none⟩) (Kd.R_mono (Kd.R_mono HO_6.out (fun k_ hk => (⟨hk, fun e_ => hk.1 (by rw [e_]; rfl)⟩ : _ ∧ k_ ≠ go41))) (fun k_ hk => (⟨hk, fun e_ => hk.1.2 (by rw [e_]; rfl)⟩ : _ ∧ k_ ≠ go43))) (fun _ hk => hk.1.2) (.int .i64 (rd l0_0 x49_3))) (fun _ hk => hk.2) (.int .i64 (wrap64 (x7_1 + (rd l0_2 x49_3))))) (fun _ hk => ⟨hk.1.1.1, hk.1.1.2⟩)⟩
    have n3_ : Aside0 (((w59.setCell ⟨go41, (x49_3 : Int).toNat, none⟩ (.int .i64 (rd l0_0 x49_3))).setCell ⟨go43, (x49_3 : Int).toNat, none⟩ (.int .i64 (wrap64 (x7_1 + (rd l0_2 x49_3))))).heap[gb344]? = some (.cells #[.slice (some ad365) l0_0.length c0_0, .slice (some ad364) l0_1.length c0_1, .slice (some ad366) l0_2.length c0_2] 33 (0, 0))) := ⟨by refine blk_far ?_ (by have h_ := Kd.R_ne HO_5.out BK344.out (by decide); intro e_; exact h_ (by rw [e_]; rfl)) _; refine blk_far ?_ (by have h_ := Kd.R_ne HO_4.out BK344.out (by decide); intro e_; exact h_ (by rw [e_]; rfl)) _; exact BK344.out⟩
    have n4_ : Aside0 (Below w.heap.size w ((w59.setCell ⟨go41, (x49_3 : Int).toNat, none⟩ (.int .i64 (rd l0_0 x49_3))).setCell ⟨go43, (x49_3 : Int).toNat, none⟩ (.int .i64 (wrap64 (x7_1 + (rd l0_2 x49_3)))))) := ⟨by repeat (with_reducible first | exact HB.out | refine below_set ?_ GB41.out | refine below_set ?_ GB43.out)⟩
    (try clear HO_4)
    (try clear HO_5)
    (try clear HO_6)
    (try clear BK344)
    (try clear HB)
    generalize ((w59.setCell ⟨go41, (x49_3 : Int).toNat, none⟩ (.int .i64 (rd l0_0 x49_3))).setCell ⟨go43, (x49_3 : Int).toNat, none⟩ (.int .i64 (wrap64 (x7_1 + (rd l0_2 x49_3))))) = w62 at n0_ n1_ n2_ n3_ n4_ ⊢
    have HO_4 := n0_
    have HO_5 := n1_
    have HO_6 := n2_
    have BK344 := n3_
    have HB := n4_
    clear n0_ n1_ n2_ n3_ n4_
    have n0_ := Aside0.mk (Kd.R_drew HO_4.out)
    have n1_ := Aside0.mk (Kd.R_drew HO_5.out)
    have n2_ := Aside0.mk (Kd.R_drew HO_6.out)
    have n3_ := Aside0.mk (blk_drew BK344.out)
    have n4_ := Aside0.mk (below_drew1 HB.out)
    clear HO_4
    clear HO_5
    clear HO_6
    clear BK344
    clear HB
    have HO_4 := n0_
    have HO_5 := n1_
    have HO_6 := n2_
    have BK344 := n3_
    have HB := n4_
    clear n0_ n1_ n2_ n3_ n4_
    have p369 : 0 ≤ (x49_3 : Int) := of_decide_eq_true (by (with_reducible assumption))
    have q369 : x49_3 < (y367.length : Int) := (by have h_ : (x49_3 : Int) < ((x4_3.length : Int) : Int) := of_decide_eq_true (by (with_reducible assumption)); (have e_ := (Kd.R_reads' HO_4.out).1; omega))
    have ql369 : ((x49_3 : Int) < ((x4_3.length : Int) : Int)) = True := eq_true (of_decide_eq_true (by (with_reducible assumption)))
    obtain ⟨ad369, e369, hx369_0⟩ := Kd.at_int (Kd.R_reads' HO_4.out).2.2 x49_3 p369 q369
    obtain rfl : (⟨go41, 0, none⟩ : Addr) = ad369 := (by injection e369)
    (simp only [add_plain] at hx369_0)
    replace p369 := eq_true p369
    replace q369 := eq_true q369
    have p370 : 0 ≤ (x49_3 : Int) := of_decide_eq_true (by (with_reducible assumption))
    have q370 : x49_3 < (y368.length : Int) := (by have h_ : (x49_3 : Int) < ((x5_3.length : Int) : Int) := of_decide_eq_true (by (with_reducible assumption)); (have e_ := (Kd.R_reads' HO_5.out).1; omega))
    have ql370 : ((x49_3 : Int) < ((x5_3.length : Int) : Int)) = True := eq_true (of_decide_eq_true (by (with_reducible assumption)))
    obtain ⟨ad370, e370, hx370_0⟩ := Kd.at_int (Kd.R_reads' HO_5.out).2.2 x49_3 p370 q370
    obtain rfl : (⟨go43, 0, none⟩ : Addr) = ad370 := (by injection e370)
    (simp only [add_plain] at hx370_0)
    replace p370 := eq_true p370
    replace q370 := eq_true q370
    have p371 : 0 ≤ (x9_3 : Int) := of_decide_eq_true (by (with_reducible assumption))
    have q371 : x9_3 < (y368.length : Int) := (by have h_ : (x9_3 : Int) < ((x5_3.length : Int) : Int) := of_decide_eq_true (by (with_reducible assumption)); (have e_ := (Kd.R_reads' HO_5.out).1; omega))
    have ql371 : ((x9_3 : Int) < ((x5_3.length : Int) : Int)) = True := eq_true (of_decide_eq_true (by (with_reducible assumption)))
    obtain ⟨ad371, e371, hx371_0⟩ := Kd.at_int (Kd.R_reads' HO_5.out).2.2 x9_3 p371 q371
    obtain rfl : (⟨go43, 0, none⟩ : Addr) = ad371 := (by injection e371)
    (simp only [add_plain] at hx371_0)
    replace p371 := eq_true p371
    replace q371 := eq_true q371
    refine start_ (n := 20) (S := fun w' => w'.cell? ⟨go41, (x49_3).toNat, none⟩ = some (.int .i64 (rd y367 x49_3)) ∧ w'.cell? ⟨go43, (x49_3).toNat, none⟩ = some (.int .i64 (rd y368 x49_3)) ∧ w'.cell? ⟨go43, (x9_3).toNat, none⟩ = some (.int .i64 (rd y368 x9_3))) (ds := []) bQ67_12 (by kernel_rfl) rfl rfl ⟨hx369_0, hx370_0, hx371_0⟩ (fun hHeld => ?_); refine with_tabW impl_Jobs_earliest.tab19 impl_Jobs_earliest.bits19 (fun HT_ HW_ => ?_)
    generalize w62.drew = w63 at HO_4 HO_5 HO_6 BK344 HB HQ60 HQ61 hx369_0 hx370_0 hx371_0 hHeld ⊢
    refine pure_ (i := 0) (N := some 76) (v := ?_) (a' := ?_) bQ67_13 rfl rfl (any_of HT_.out (by kernel_rfl)) (fun _ _ _ h => h) (Or.inl ⟨by rfl, ?_⟩) ?_ ?_
    rotate_left
    · intro w'
      go_simp
      with_reducible rfl
    rotate_left
    · simp only [Act.put, List.setIfInBounds_toArray, List.set_cons_zero, List.set_cons_succ, i64_w, i32_w]
      rfl
    refine pure_ (i := 1) (N := some 77) (v := ?_) (a' := ?_) bQ67_14 rfl rfl (any_of HT_.out (by kernel_rfl)) (fun _ _ _ h => h) (Or.inl ⟨by rfl, ?_⟩) ?_ ?_
    rotate_left
    · intro w'
      go_simp
      with_reducible rfl
    rotate_left
    · simp only [Act.put, List.setIfInBounds_toArray, List.set_cons_zero, List.set_cons_succ, i64_w, i32_w]
      rfl
    refine pure_ (i := 2) (N := some 78) (v := ?_) (a' := ?_) bQ67_15 rfl rfl (any_of HT_.out (by kernel_rfl)) (fun _ _ _ h => h) (Or.inl ⟨by rfl, ?_⟩) ?_ ?_
    rotate_left
    · intro w'
      go_simp
      with_reducible rfl
    rotate_left
    · simp only [Act.put, List.setIfInBounds_toArray, List.set_cons_zero, List.set_cons_succ, i64_w, i32_w]
      rfl
    refine take_ (i := 3) (N := some 79) (v := ?_) (a' := ?_) bQ67_16 rfl rfl (take_ofW HT_.out HW_.out (by kernel_rfl)) (fun _ _ _ h => h) (Or.inl ⟨by rfl, ?_⟩) hHeld ?_ ?_
    rotate_left
    · rintro w' ⟨s0, s1, s2⟩
      go_simp
      with_reducible rfl
    rotate_left
    · simp only [Act.put, List.setIfInBounds_toArray, List.set_cons_zero, List.set_cons_succ, i64_w, i32_w]
      rfl
    refine pure_ (i := 4) (N := some 80) (v := ?_) (a' := ?_) bQ67_17 rfl rfl (any_of HT_.out (by kernel_rfl)) (fun _ _ _ h => h) (Or.inl ⟨by rfl, ?_⟩) ?_ ?_
    rotate_left
    · intro w'
      go_simp
      with_reducible rfl
    rotate_left
    · simp only [Act.put, List.setIfInBounds_toArray, List.set_cons_zero, List.set_cons_succ, i64_w, i32_w]
      rfl
    refine pure_ (i := 5) (N := some 81) (v := ?_) (a' := ?_) bQ67_18 rfl rfl (any_of HT_.out (by kernel_rfl)) (fun _ _ _ h => h) (Or.inl ⟨by rfl, ?_⟩) ?_ ?_
    rotate_left
    · intro w'
      go_simp
      with_reducible rfl
    rotate_left
    · simp only [Act.put, List.setIfInBounds_toArray, List.set_cons_zero, List.set_cons_succ, i64_w, i32_w]
      rfl
    refine pure_ (i := 6) (N := some 82) (v := ?_) (a' := ?_) bQ67_19 rfl rfl (any_of HT_.out (by kernel_rfl)) (fun _ _ _ h => h) (Or.inl ⟨by rfl, ?_⟩) ?_ ?_
    rotate_left
    · intro w'
      go_simp
      with_reducible rfl
    rotate_left
    · simp only [Act.put, List.setIfInBounds_toArray, List.set_cons_zero, List.set_cons_succ, i64_w, i32_w]
      rfl
    refine pure_ (i := 7) (N := some 83) (v := ?_) (a' := ?_) bQ67_20 rfl rfl (any_of HT_.out (by kernel_rfl)) (fun _ _ _ h => h) (Or.inl ⟨by rfl, ?_⟩) ?_ ?_
    rotate_left
    · intro w'
      go_simp
      with_reducible rfl
    rotate_left
    · simp only [Act.put, List.setIfInBounds_toArray, List.set_cons_zero, List.set_cons_succ, i64_w, i32_w]
      rfl
    refine pure_ (i := 8) (N := some 84) (v := ?_) (a' := ?_) bQ67_21 rfl rfl (any_of HT_.out (by kernel_rfl)) (fun _ _ _ h => h) (Or.inl ⟨by rfl, ?_⟩) ?_ ?_
    rotate_left
    · intro w'
      go_simp
      with_reducible rfl
    rotate_left
    · simp only [Act.put, List.setIfInBounds_toArray, List.set_cons_zero, List.set_cons_succ, i64_w, i32_w]
      rfl
    refine pure_ (i := 9) (N := some 85) (v := ?_) (a' := ?_) bQ67_22 rfl rfl (any_of HT_.out (by kernel_rfl)) (fun _ _ _ h => h) (Or.inl ⟨by rfl, ?_⟩) ?_ ?_
    rotate_left
    · intro w'
      go_simp
      with_reducible rfl
    rotate_left
    · simp only [Act.put, List.setIfInBounds_toArray, List.set_cons_zero, List.set_cons_succ, i64_w, i32_w]
      rfl
    refine pure_ (i := 10) (N := some 86) (v := ?_) (a' := ?_) bQ67_23 rfl rfl (any_of HT_.out (by kernel_rfl)) (fun _ _ _ h => h) (Or.inl ⟨by rfl, ?_⟩) ?_ ?_
    rotate_left
    · intro w'
      go_simp
      with_reducible rfl
    rotate_left
    · simp only [Act.put, List.setIfInBounds_toArray, List.set_cons_zero, List.set_cons_succ, i64_w, i32_w]
      rfl
    refine pure_ (i := 11) (N := some 87) (v := ?_) (a' := ?_) bQ67_24 rfl rfl (any_of HT_.out (by kernel_rfl)) (fun _ _ _ h => h) (Or.inl ⟨by rfl, ?_⟩) ?_ ?_
    rotate_left
    · intro w'
      go_simp
      with_reducible rfl
    rotate_left
    · simp only [Act.put, List.setIfInBounds_toArray, List.set_cons_zero, List.set_cons_succ, i64_w, i32_w]
      rfl
    refine pure_ (i := 13) (N := some 89) (v := ?_) (a' := ?_) bQ67_33 rfl rfl (any_of HT_.out (by kernel_rfl)) (fun _ _ _ h => h) (Or.inl ⟨by rfl, ?_⟩) ?_ ?_
    rotate_left
    · intro w'
      go_simp
      with_reducible rfl
    rotate_left
    · simp only [Act.put, List.setIfInBounds_toArray, List.set_cons_zero, List.set_cons_succ, i64_w, i32_w]
      rfl
    refine pure_ (i := 14) (N := some 90) (v := ?_) (a' := ?_) bQ67_34 rfl rfl (any_of HT_.out (by kernel_rfl)) (fun _ _ _ h => h) (Or.inl ⟨by rfl, ?_⟩) ?_ ?_
    rotate_left
    · intro w'
      go_simp
      with_reducible rfl
    rotate_left
    · simp only [Act.put, List.setIfInBounds_toArray, List.set_cons_zero, List.set_cons_succ, i64_w, i32_w]
      rfl
    refine pure_ (i := 15) (N := some 91) (v := ?_) (a' := ?_) bQ67_35 rfl rfl (any_of HT_.out (by kernel_rfl)) (fun _ _ _ h => h) (Or.inl ⟨by rfl, ?_⟩) ?_ ?_
    rotate_left
    · intro w'
      go_simp
      with_reducible rfl
    rotate_left
    · simp only [Act.put, List.setIfInBounds_toArray, List.set_cons_zero, List.set_cons_succ, i64_w, i32_w]
      rfl
    refine take_ (i := 12) (N := some 88) (v := ?_) (a' := ?_) bQ67_28 rfl rfl (take_ofW HT_.out HW_.out (by kernel_rfl)) (fun _ _ _ h => h) (Or.inl ⟨by rfl, ?_⟩) hHeld ?_ ?_
    rotate_left
    · rintro w' ⟨s0, s1, s2⟩
      go_simp
      with_reducible rfl
    rotate_left
    · simp only [Act.put, List.setIfInBounds_toArray, List.set_cons_zero, List.set_cons_succ, i64_w, i32_w]
      rfl
    refine take_ (i := 16) (N := some 92) (v := ?_) (a' := ?_) bQ67_29 rfl rfl (take_ofW HT_.out HW_.out (by kernel_rfl)) (fun _ _ _ h => h) (Or.inl ⟨by rfl, ?_⟩) hHeld ?_ ?_
    rotate_left
    · rintro w' ⟨s0, s1, s2⟩
      go_simp
      with_reducible rfl
    rotate_left
    · simp only [Act.put, List.setIfInBounds_toArray, List.set_cons_zero, List.set_cons_succ, i64_w, i32_w]
      rfl
    refine pure_ (i := 17) (N := some 93) (v := ?_) (a' := ?_) bQ67_30 rfl rfl (any_of HT_.out (by kernel_rfl)) (fun _ _ _ h => h) (Or.inl ⟨by rfl, ?_⟩) ?_ ?_
    rotate_left
    · intro w'
      go_simp
      with_reducible rfl
    rotate_left
    · simp only [Act.put, List.setIfInBounds_toArray, List.set_cons_zero, List.set_cons_succ, i64_w, i32_w]
      rfl
    refine pure_ (i := 18) (N := some 94) (v := ?_) (a' := ?_) bQ67_31 rfl rfl (any_of HT_.out (by kernel_rfl)) (fun _ _ _ h => h) (Or.inl ⟨by rfl, ?_⟩) ?_ ?_
    rotate_left
    · intro w'
      go_simp
      with_reducible rfl
    rotate_left
    · simp only [Act.put, List.setIfInBounds_toArray, List.set_cons_zero, List.set_cons_succ, i64_w, i32_w]
      rfl
    refine pure_ (i := 19) (N := some 95) (v := ?_) (a' := ?_) bQ67_32 rfl rfl (any_of HT_.out (by kernel_rfl)) (fun _ _ _ h => h) (Or.inl ⟨by rfl, ?_⟩) ?_ ?_
    rotate_left
    · intro w'
      go_simp
      with_reducible rfl
    rotate_left
    · simp only [Act.put, List.setIfInBounds_toArray, List.set_cons_zero, List.set_cons_succ, i64_w, i32_w]
      rfl
    refine done_ (done_of HT_.out (by kernel_rfl)) ?_
    try go_wp2
    (try simp only [← hl4_3])
    go_roundg k3
    case measure => have := HK1.out; have := HK2.out; have := HK3.out; omega
    case rel => exact ⟨(y367), (y368), (x9_3), (wrap64 (x49_3 + 1)), (by rfl), (by rfl), H', ⟨by have := HK1.out; have := HK2.out; have := HK3.out; omega⟩, ⟨by (try simp only [hl4_3]); exact HO_4.out⟩, ⟨by (try simp only [hl4_3]); exact HO_5.out⟩, ⟨by (try simp only [hl4_3]); exact HO_6.out⟩, ⟨by (try simp only [hl4_3]); exact BK344.out⟩, ⟨by exact HB.out⟩⟩
end Go.Proofs.Ytoakdilhljnjfaa.Q
namespace Go.Proofs.Ytoakdilhljnjfaa.Q
open Go.RowKit Go.Proofs.YtoakdilhljnjfaaW.PrintWords Go.Proofs.YtoakdilhljnjfaaW.PrintLast Go.Proofs.YtoakdilhljnjfaaW.PrintMore
attribute [local go_sem] max2_int min2_int max_two min_two max_three min_three max_four min_four   -- for this text's walks alone
set_option linter.unusedVariables false
set_option linter.unusedSimpArgs false
abbrev bQ69_0 : Array Bool := #[false, false, false, false, false, false, false, false, false, false]
abbrev bQ69_1 : Array Bool := #[true, false, false, false, false, false, false, false, false, false]
abbrev bQ69_2 : Array Bool := #[true, false, false, false, true, false, false, false, false, false]
abbrev bQ69_3 : Array Bool := #[true, true, false, false, true, false, false, false, false, false]
abbrev bQ69_4 : Array Bool := #[true, true, true, false, true, false, false, false, false, false]
abbrev bQ69_5 : Array Bool := #[true, true, true, false, true, true, false, false, false, false]
abbrev bQ69_6 : Array Bool := #[true, true, true, false, true, true, true, false, false, false]
abbrev bQ69_7 : Array Bool := #[true, true, true, true, true, true, true, true, true, false]
abbrev bQ69_8 : Array Bool := #[true, true, true, true, true, true, true, false, false, false]
abbrev bQ69_9 : Array Bool := #[true, true, true, false, true, true, true, true, false, false]
abbrev bQ69_10 : Array Bool := #[true, true, true, true, true, true, true, false, true, false]
abbrev bQ69_11 : Array Bool := #[true, true, true, true, true, true, true, true, false, false]
abbrev bQ69_12 : Array Bool := #[true, true, true, true, true, true, true, true, true, true]
abbrev bQ69_13 : Array Bool := #[false, false, false, false, false, false, false, false, false, false, false, false, false, false, false, false, false, false, false, false]
abbrev bQ69_14 : Array Bool := #[true, false, false, false, false, false, false, false, false, false, false, false, false, false, false, false, false, false, false, false]
abbrev bQ69_15 : Array Bool := #[true, true, false, false, false, false, false, false, false, false, false, false, false, false, false, false, false, false, false, false]
abbrev bQ69_16 : Array Bool := #[true, true, true, false, false, false, false, false, false, false, false, false, false, false, false, false, false, false, false, false]
abbrev bQ69_17 : Array Bool := #[true, true, true, true, false, false, false, false, false, false, false, false, false, false, false, false, false, false, false, false]
abbrev bQ69_18 : Array Bool := #[true, true, true, true, true, false, false, false, false, false, false, false, false, false, false, false, false, false, false, false]
abbrev bQ69_19 : Array Bool := #[true, true, true, true, true, true, false, false, false, false, false, false, false, false, false, false, false, false, false, false]
abbrev bQ69_20 : Array Bool := #[true, true, true, true, true, true, true, false, false, false, false, false, false, false, false, false, false, false, false, false]
abbrev bQ69_21 : Array Bool := #[true, true, true, true, true, true, true, true, false, false, false, false, false, false, false, false, false, false, false, false]
abbrev bQ69_22 : Array Bool := #[true, true, true, true, true, true, true, true, true, false, false, false, false, false, false, false, false, false, false, false]
abbrev bQ69_23 : Array Bool := #[true, true, true, true, true, true, true, true, true, true, false, false, false, false, false, false, false, false, false, false]
abbrev bQ69_24 : Array Bool := #[true, true, true, true, true, true, true, true, true, true, true, false, false, false, false, false, false, false, false, false]
abbrev bQ69_25 : Array Bool := #[true, true, true, true, true, true, true, true, true, true, true, true, false, false, false, false, false, false, false, false]
abbrev bQ69_26 : Array Bool := #[true, true, true, true, true, true, true, true, true, true, true, true, true, false, false, false, false, false, false, false]
abbrev bQ69_27 : Array Bool := #[true, true, true, true, true, true, true, true, true, true, true, true, true, true, false, false, false, false, false, false]
abbrev bQ69_28 : Array Bool := #[true, true, true, true, true, true, true, true, true, true, true, true, true, true, true, false, false, false, false, false]
abbrev bQ69_29 : Array Bool := #[true, true, true, true, true, true, true, true, true, true, true, true, true, true, true, true, false, false, false, false]
abbrev bQ69_30 : Array Bool := #[true, true, true, true, true, true, true, true, true, true, true, true, true, true, true, true, true, false, false, false]
abbrev bQ69_31 : Array Bool := #[true, true, true, true, true, true, true, true, true, true, true, true, true, true, true, true, true, true, false, false]
abbrev bQ69_32 : Array Bool := #[true, true, true, true, true, true, true, true, true, true, true, true, true, true, true, true, true, true, true, false]
abbrev bQ69_33 : Array Bool := #[true, true, true, true, true, true, true, true, true, true, true, true, true, true, true, true, true, true, true, true]
abbrev bQ69_34 : Array Bool := #[true, true, true, true, true, true, true, true, true, true, true, true, false, true, false, false, false, false, false, false]
abbrev bQ69_35 : Array Bool := #[true, true, true, true, true, true, true, true, true, true, true, true, false, true, true, false, false, false, false, false]
abbrev bQ69_36 : Array Bool := #[true, true, true, true, true, true, true, true, true, true, true, true, false, true, true, true, false, false, false, false]
mutual
def spec_l04Slots.l0 : Nat → Int → List Int → List Int → List Int → Int → List Int → List Int → List Int → Option (List Int × Int × Int)
 | 0, _, _, _, _, _, _, _, _ => none
 | k + 1, x5, x6, x7, x8, x9, x397000, x397001, x397002 => if x9 ≤ x5 then (spec_l04Slots.l1 k x5 x6 x7 x8 x9 0 x397000 x397001 x397002) else (some (x6, (-1), (-1)))
def spec_l04Slots.l1 : Nat → Int → List Int → List Int → List Int → Int → Int → List Int → List Int → List Int → Option (List Int × Int × Int)
 | 0, _, _, _, _, _, _, _, _, _ => none
 | k + 1, x5, x6, x7, x8, x9, x10, x397000, x397001, x397002 => if x10 < (x7.length : Int) then (if 0 ≤ x10 then (if (rd x7 x10) > 0 then (if x10 < (x8.length : Int) then (if (rd x8 x10) = x9 then (some (x6, x9, x10)) else (spec_l04Slots.l1 k x5 x6 x7 x8 x9 (wrap64 (x10 + 1)) x397000 x397001 x397002)) else (none)) else (spec_l04Slots.l1 k x5 x6 x7 x8 x9 (wrap64 (x10 + 1)) x397000 x397001 x397002)) else (none)) else (if x9 = x5 then (some (x6, (-1), (-1))) else (spec_l04Slots.l2 k x5 x6 x7 x8 x9 (-1) 0 x397000 x397001 x397002))
def spec_l04Slots.l2 : Nat → Int → List Int → List Int → List Int → Int → Int → Int → List Int → List Int → List Int → Option (List Int × Int × Int)
 | 0, _, _, _, _, _, _, _, _, _, _ => none
 | k + 1, x5, x6, x7, x8, x9, x11, x12, x397000, x397001, x397002 => if x12 < (x7.length : Int) then (if 0 ≤ x12 then (if x12 < (x397001.length : Int) then (if (rd x397001 x12) = 0 then (none) else (if (Int.tmod x9 (rd x397001 x12)) = 0 then (if x12 < (x397000.length : Int) then ((some (x7.set (x12 : Int).toNat (rd x397000 x12) : List Int)).bind fun y419 => (if x12 < (x397002.length : Int) then (if x12 < (x8.length : Int) then ((some (x8.set (x12 : Int).toNat (wrap64 (x9 + (rd x397002 x12))) : List Int)).bind fun y421 => (if (rd y419 x12) > 0 then (if x11 < 0 then (spec_l04Slots.l2 k x5 x6 y419 y421 x9 x12 (wrap64 (x12 + 1)) x397000 x397001 x397002) else (if 0 ≤ x11 then (if x11 < (x8.length : Int) then (if (rd y421 x12) < (rd y421 x11) then (spec_l04Slots.l2 k x5 x6 y419 y421 x9 x12 (wrap64 (x12 + 1)) x397000 x397001 x397002) else (spec_l04Slots.l2 k x5 x6 y419 y421 x9 x11 (wrap64 (x12 + 1)) x397000 x397001 x397002)) else (none)) else (none))) else (spec_l04Slots.l2 k x5 x6 y419 y421 x9 x11 (wrap64 (x12 + 1)) x397000 x397001 x397002))) else (none)) else (none))) else (none)) else (if (rd x7 x12) > 0 then (if x11 < 0 then (spec_l04Slots.l2 k x5 x6 x7 x8 x9 x12 (wrap64 (x12 + 1)) x397000 x397001 x397002) else (if x12 < (x8.length : Int) then (if 0 ≤ x11 then (if x11 < (x8.length : Int) then (if (rd x8 x12) < (rd x8 x11) then (spec_l04Slots.l2 k x5 x6 x7 x8 x9 x12 (wrap64 (x12 + 1)) x397000 x397001 x397002) else (spec_l04Slots.l2 k x5 x6 x7 x8 x9 x11 (wrap64 (x12 + 1)) x397000 x397001 x397002)) else (none)) else (none)) else (none))) else (spec_l04Slots.l2 k x5 x6 x7 x8 x9 x11 (wrap64 (x12 + 1)) x397000 x397001 x397002)))) else (none)) else (none)) else (if x11 ≥ 0 then (if 0 ≤ x11 then (if x11 < (x7.length : Int) then (if x6.length < 17592186044416 then (spec_l04Slots.l0 k x5 (x6 ++ [x11]) (x7.set (x11 : Int).toNat (wrap64 ((rd x7 x11) - 1))) x8 (wrap64 (x9 + 1)) x397000 x397001 x397002) else (none)) else (none)) else (none)) else (if x6.length < 17592186044416 then (spec_l04Slots.l0 k x5 (x6 ++ [x11]) x7 x8 (wrap64 (x9 + 1)) x397000 x397001 x397002) else (none)))
end
def spec_l04Slots.f (k : Nat) (l0_0 : List Int) (l0_1 : List Int) (l0_2 : List Int) : Option (List Int × Int × Int) := (spec_l04Whole.f k l0_0 l0_1 l0_2).bind fun t397 => (if 0 ≤ (l0_0.length : Int) then (if ((l0_0.length : Int) : Int).toNat ≤ 35184372088832 then (spec_l04Slots.l0 k t397 (([] : List Int)) (List.replicate ((l0_0.length : Int) : Int).toNat 0) (List.replicate ((l0_0.length : Int) : Int).toNat 0) 0 l0_0 l0_1 l0_2) else (none)) else (none))
def spec_l04Slots.T2 : Bool × List (List Nat × List Nat) := (true, [([], []), ([0], [0]), ([1], [1]), ([2, 2], [2]), ([], []), ([4], [4]), ([5], [5]), ([6, 6], [6]), ([3, 0, 1, 2, 3], [3]), ([7, 8, 0, 1, 2, 3, 4, 5, 6, 7, 8], [7])])
def spec_l04Slots.B2 : List Nat := [0, 1, 3, 7, 0, 16, 48, 112, 15, 511]
theorem spec_l04Slots.tab2 : rtab .any (opsOf Try.f69 2) = spec_l04Slots.T2 := by kernel_rfl
theorem spec_l04Slots.bits2 : waitsOk spec_l04Slots.T2.2 spec_l04Slots.B2 = true := by kernel_rfl
def spec_l04Slots.T19 : Bool × List (List Nat × List Nat) := (true, [([], []), ([], []), ([0, 1], [0, 1]), ([2], [2]), ([3], [3]), ([4], [4]), ([5], [5]), ([6, 5], [5, 6]), ([7, 5, 5], [5, 7]), ([8], [8]), ([8], [8]), ([9, 10, 8], [8, 9, 10]), ([11, 8], [8, 11]), ([8], [8]), ([8], [8]), ([13, 14, 8], [8, 13, 14]), ([15, 8], [8, 15]), ([12, 16, 8], [8, 12, 16]), ([8, 17, 5], [5, 8, 17]), ([5, 18], [5, 18])])
def spec_l04Slots.B19 : List Nat := [0, 0, 3, 7, 15, 31, 63, 127, 255, 511, 511, 2047, 4095, 511, 511, 25087, 57855, 131071, 262143, 524287]
theorem spec_l04Slots.tab19 : rtab .any (opsOf Try.f69 19) = spec_l04Slots.T19 := by kernel_rfl
theorem spec_l04Slots.bits19 : waitsOk spec_l04Slots.T19.2 spec_l04Slots.B19 = true := by kernel_rfl
end Go.Proofs.Ytoakdilhljnjfaa.Q
