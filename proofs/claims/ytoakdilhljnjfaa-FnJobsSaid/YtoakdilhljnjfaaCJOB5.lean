/- Jobs can be met exactly if no demand is too great, and none is late then. (Part 5 of 7.) No conditions beside those of the statement. -/
import Derived.Test.YtoakdilhljnjfaaCJOB4
namespace Go.Proofs.Ytoakdilhljnjfaa.Q
open Go.RowKit Go.Proofs.YtoakdilhljnjfaaW.PrintWords Go.Proofs.YtoakdilhljnjfaaW.PrintLast Go.Proofs.YtoakdilhljnjfaaW.PrintMore
attribute [local go_sem] max2_int min2_int max_two min_two max_three min_three max_four min_four   -- for this text's walks alone
set_option linter.unusedVariables false
set_option linter.unusedSimpArgs false
set_option maxHeartbeats 8000000 in
set_option maxRecDepth 100000 in
theorem spec_l04Slots.calls (k : Nat) (A0_0 : Option Addr) (c0_0 : Nat) (l0_0 : List Int) (A0_1 : Option Addr) (c0_1 : Nat) (l0_1 : List Int) (A0_2 : Option Addr) (c0_2 : Nat) (l0_2 : List Int) (r1 : List Int) (r2 : Int) (r3 : Int) (w : World) (hr0_0 : Kd.C (Kd.int .i64) w A0_0 l0_0.length l0_0) (hc0_0 : l0_0.length ≤ c0_0) (hr0_1 : Kd.C (Kd.int .i64) w A0_1 l0_1.length l0_1) (hc0_1 : l0_1.length ≤ c0_1) (hr0_2 : Kd.C (Kd.int .i64) w A0_2 l0_2.length l0_2) (hc0_2 : l0_2.length ≤ c0_2) (h : spec_l04Slots.f k l0_0 l0_1 l0_2 = some (r1, r2, r3)) :
 Calls Try.prog 69 #[.agg #[.slice A0_0 l0_0.length c0_0, .slice A0_1 l0_1.length c0_1, .slice A0_2 l0_2.length c0_2]] w fun e w' => ∃ v0_ : Value, e = .returned (.tuple #[v0_, .int .i64 r2, .int .i64 r3]) ∧ Kd.R (Kd.int .i64) 2 w' w.heap.size (fun _ => True) v0_ r1 ∧ Below w.heap.size w w' := by
 have hu33 := Try.underlying33
 have HR0_0 := Aside0.mk hr0_0
 have HC0_0 := Aside0.mk hc0_0
 clear hr0_0 hc0_0
 have HR0_1 := Aside0.mk hr0_1
 have HC0_1 := Aside0.mk hc0_1
 clear hr0_1 hc0_1
 have HR0_2 := Aside0.mk hr0_2
 have HC0_2 := Aside0.mk hc0_2
 clear hr0_2 hc0_2
 have HB := Aside0.mk (Below.refl w.heap.size w)
 have H : ((spec_l04Whole.f k l0_0 l0_1 l0_2).bind fun t397 => (if 0 ≤ (l0_0.length : Int) then (if ((l0_0.length : Int) : Int).toNat ≤ 35184372088832 then (spec_l04Slots.l0 k t397 (([] : List Int)) (List.replicate ((l0_0.length : Int) : Int).toNat 0) (List.replicate ((l0_0.length : Int) : Int).toNat 0) 0 l0_0 l0_1 l0_2) else (none)) else (none))) = some (r1, r2, r3) := h
 clear h
 replace H := Option.bind_eq_some_iff.mp H
 obtain ⟨t397, A20, H⟩ := H
 replace H : (if 0 ≤ (l0_0.length : Int) then (if ((l0_0.length : Int) : Int).toNat ≤ 35184372088832 then (spec_l04Slots.l0 k t397 (([] : List Int)) (List.replicate ((l0_0.length : Int) : Int).toNat 0) (List.replicate ((l0_0.length : Int) : Int).toNat 0) 0 l0_0 l0_1 l0_2) else (none)) else (none)) = some (r1, r2, r3) := H
 have A2 := Aside0.mk A20
 clear A20
 obtain ⟨y398, hy398⟩ : ∃ y_ : List Int, y_ = (([] : List Int)) := ⟨_, rfl⟩
 replace H : (if 0 ≤ (l0_0.length : Int) then (if ((l0_0.length : Int) : Int).toNat ≤ 35184372088832 then (spec_l04Slots.l0 k t397 y398 (List.replicate ((l0_0.length : Int) : Int).toNat 0) (List.replicate ((l0_0.length : Int) : Int).toNat 0) 0 l0_0 l0_1 l0_2) else (none)) else (none)) = some (r1, r2, r3) := by (rw [hy398]; with_reducible exact H)
 have Ny398 := Aside0.mk hy398
 clear hy398
 by_cases c3 : 0 ≤ (l0_0.length : Int)
 rotate_left
 · rw [if_neg c3] at H
   exact absurd H (by simp)
 rw [if_pos c3] at H
 have c3b0 := eq_true c3
 have c3b1 : decide (0 ≤ (l0_0.length : Int)) = true := decide_eq_true c3
 clear c3
 by_cases c4 : ((l0_0.length : Int) : Int).toNat ≤ 35184372088832
 rotate_left
 · rw [if_neg c4] at H
   exact absurd H (by simp)
 rw [if_pos c4] at H
 have c4b0 := eq_true c4
 have c4b1 : decide (((l0_0.length : Int) : Int).toNat ≤ 35184372088832) = true := decide_eq_true c4
 clear c4
 obtain ⟨y401, hy401⟩ : ∃ y_ : List Int, y_ = (List.replicate ((l0_0.length : Int) : Int).toNat 0) := ⟨_, rfl⟩
 replace H : (spec_l04Slots.l0 k t397 y398 y401 (List.replicate ((l0_0.length : Int) : Int).toNat 0) 0 l0_0 l0_1 l0_2) = some (r1, r2, r3) := by (rw [hy401]; with_reducible exact H)
 have Ny401 := Aside0.mk hy401
 clear hy401
 obtain ⟨y404, hy404⟩ : ∃ y_ : List Int, y_ = (List.replicate ((l0_0.length : Int) : Int).toNat 0) := ⟨_, rfl⟩
 replace H : (spec_l04Slots.l0 k t397 y398 y401 y404 0 l0_0 l0_1 l0_2) = some (r1, r2, r3) := by (rw [hy404]; with_reducible exact H)
 have Ny404 := Aside0.mk hy404
 clear hy404
 have H' := Aside0.mk H
 clear H
 go_enter Try.func69, Try.ntmps69
 try go_wp2_with (first | ((with_reducible refine gate_dst (N := 1) rfl ?_); refine box_event ?hg (N := 1) ?hd (cs := #[.slice A0_0 l0_0.length c0_0, .slice A0_1 l0_1.length c0_1, .slice A0_2 l0_2.length c0_2]) (t := 33) ?hr ?_; (case hd => rfl); (case hg => rfl); (case hr => (go_simp; done)); intro gb396 hg w5 hbox hb; have n0_ := Aside0.mk (below_step HB.out hb); have n1_ := Aside0.mk (hbox); have n2_ := Aside0.mk ((by rw [hg]; exact (below_size HB.out) : w.heap.size ≤ gb396)); have n3_ := Aside0.mk ((by rw [hg]; exact (below_size HB.out) : w.heap.size ≤ gb396)); clear HB; have HB := n0_; have BK396 := n1_; have GW396 := n2_; have GE396 := n3_; clear n0_ n1_ n2_ n3_; clear hb hbox hg; have hcz6_0 : w5.cell? ⟨gb396, 0, none⟩ = some (.slice A0_0 l0_0.length c0_0) := (blk_cell BK396.out 0).trans rfl; have hcz6_1 : w5.cell? ⟨gb396, 1, none⟩ = some (.slice A0_1 l0_1.length c0_1) := (blk_cell BK396.out 1).trans rfl; have hcz6_2 : w5.cell? ⟨gb396, 2, none⟩ = some (.slice A0_2 l0_2.length c0_2) := (blk_cell BK396.out 2).trans rfl; have hfz6_0 := blk_frozen BK396.out 0; have hfz6_1 := blk_frozen BK396.out 1; have hfz6_2 := blk_frozen BK396.out 2) | ((with_reducible refine gate_callee (f := 74) rfl ?_); refine goesL_ (some 14) rfl rfl Try.func74 (by kernel_rfl) rfl #[.agg #[.slice A0_0 l0_0.length c0_0, .slice A0_1 l0_1.length c0_1, .slice A0_2 l0_2.length c0_2]] rfl (by (try simp only [List.map_toArray, List.map_cons, List.map_nil]); rfl) ?_; (with_reducible refine (spec_l04Whole.calls k _ _ l0_0 _ _ l0_1 _ _ l0_2 t397 _ ?side1 ?side2 ?side3 ?side4 ?side5 ?side6 A2.out).mono ?_); (case side1 => exact (Kd.C_below HR0_0.out HB.out)); (case side2 => exact HC0_0.out); (case side3 => exact (Kd.C_below HR0_1.out HB.out)); (case side4 => exact HC0_1.out); (case side5 => exact (Kd.C_below HR0_2.out HB.out)); (case side6 => exact HC0_2.out); rintro e w7 ⟨rfl, hb⟩; refine ⟨_, rfl, ?_⟩; have n0_ := Aside0.mk (blk_below (g := gb396) (o := .cells #[.slice A0_0 l0_0.length c0_0, .slice A0_1 l0_1.length c0_1, .slice A0_2 l0_2.length c0_2] 33 (0, 0)) BK396.out hb); have n1_ := Aside0.mk (below_step HB.out hb); clear BK396; clear HB; have BK396 := n0_; have HB := n1_; clear n0_ n1_; (try clear hb); (try clear hb2); (try clear hk); (try clear hi)) | ((with_reducible refine gate_dst (N := 15) rfl ?_); refine Kd.R_lit (Kd.int .i64) _ 2 ?hg (N := 15) ?hd (xs := ([] : List Int)) (inner := []) (ok := fun _ => True) (okp := fun _ => True) ?hr ?hp (fun _ hk => hk) trivial (Below.refl _ _) (Nat.le_refl _) (by simp) ?_; (case hd => rfl); (case hg => rfl); (case hr => (go_simp; done)); (case hp => exact (Reps.none _ _)); intro v399 w8 ho9 hb hg_ hnew_; clear hg_ hnew_; (rw [← Ny398.out] at ho9); have n0_ := Aside0.mk (Kd.R_lower ho9 (below_size HB.out)); have n1_ := Aside0.mk (blk_below (g := gb396) (o := .cells #[.slice A0_0 l0_0.length c0_0, .slice A0_1 l0_1.length c0_1, .slice A0_2 l0_2.length c0_2] 33 (0, 0)) BK396.out hb); have n2_ := Aside0.mk (below_step HB.out hb); clear BK396; clear HB; have HO400 := n0_; have BK396 := n1_; have HB := n2_; clear n0_ n1_ n2_; clear hb ho9))
 have n0_ := Aside0.mk (Kd.R_drew HO400.out)
 have n1_ := Aside0.mk (blk_drew BK396.out)
 have n2_ := Aside0.mk (below_drew1 HB.out)
 clear HO400
 clear BK396
 clear HB
 have HO400 := n0_
 have BK396 := n1_
 have HB := n2_
 clear n0_ n1_ n2_
 refine start_ (n := 10) (S := fun w' => w'.cell? ⟨gb396, 0, none⟩ = some (.slice A0_0 l0_0.length c0_0) ∧ w'.cell? ⟨gb396, 1, none⟩ = some (.slice A0_1 l0_1.length c0_1) ∧ w'.cell? ⟨gb396, 2, none⟩ = some (.slice A0_2 l0_2.length c0_2)) (ds := []) bQ69_0 (by kernel_rfl) rfl rfl ⟨(blk_cell BK396.out 0).trans rfl, (blk_cell BK396.out 1).trans rfl, (blk_cell BK396.out 2).trans rfl⟩ (fun hHeld => ?_); refine with_tabW spec_l04Slots.tab2 spec_l04Slots.bits2 (fun HT_ HW_ => ?_)
 generalize w8.drew = w10 at HO400 BK396 HB hHeld ⊢
 refine pure_ (i := 0) (N := some 16) (v := ?_) (a' := ?_) bQ69_1 rfl rfl (any_of HT_.out (by kernel_rfl)) (fun _ _ _ h => h) (Or.inl ⟨by rfl, ?_⟩) ?_ ?_
 rotate_left
 · intro w'
   go_simp
   with_reducible rfl
 rotate_left
 · simp only [Act.put, List.setIfInBounds_toArray, List.set_cons_zero, List.set_cons_succ, i64_w, i32_w]
   rfl
 refine pure_ (i := 4) (N := some 20) (v := ?_) (a' := ?_) bQ69_2 rfl rfl (any_of HT_.out (by kernel_rfl)) (fun _ _ _ h => h) (Or.inl ⟨by rfl, ?_⟩) ?_ ?_
 rotate_left
 · intro w'
   go_simp
   with_reducible rfl
 rotate_left
 · simp only [Act.put, List.setIfInBounds_toArray, List.set_cons_zero, List.set_cons_succ, i64_w, i32_w]
   rfl
 refine take_ (i := 1) (N := some 17) (v := ?_) (a' := ?_) bQ69_3 rfl rfl (take_ofW HT_.out HW_.out (by kernel_rfl)) (fun _ _ _ h => h) (Or.inl ⟨by rfl, ?_⟩) hHeld ?_ ?_
 rotate_left
 · rintro w' ⟨s0, s1, s2⟩
   go_simp
   with_reducible rfl
 rotate_left
 · simp only [Act.put, List.setIfInBounds_toArray, List.set_cons_zero, List.set_cons_succ, i64_w, i32_w]
   rfl
 refine pure_ (i := 2) (N := some 18) (v := ?_) (a' := ?_) bQ69_4 rfl rfl (any_of HT_.out (by kernel_rfl)) (fun _ _ _ h => h) (Or.inl ⟨by rfl, ?_⟩) ?_ ?_
 rotate_left
 · intro w'
   go_simp
   with_reducible rfl
 rotate_left
 · simp only [Act.put, List.setIfInBounds_toArray, List.set_cons_zero, List.set_cons_succ, i64_w, i32_w]
   rfl
 refine take_ (i := 5) (N := some 21) (v := ?_) (a' := ?_) bQ69_5 rfl rfl (take_ofW HT_.out HW_.out (by kernel_rfl)) (fun _ _ _ h => h) (Or.inl ⟨by rfl, ?_⟩) hHeld ?_ ?_
 rotate_left
 · rintro w' ⟨s0, s1, s2⟩
   go_simp
   with_reducible rfl
 rotate_left
 · simp only [Act.put, List.setIfInBounds_toArray, List.set_cons_zero, List.set_cons_succ, i64_w, i32_w]
   rfl
 refine pure_ (i := 6) (N := some 22) (v := ?_) (a' := ?_) bQ69_6 rfl rfl (any_of HT_.out (by kernel_rfl)) (fun _ _ _ h => h) (Or.inl ⟨by rfl, ?_⟩) ?_ ?_
 rotate_left
 · intro w'
   go_simp
   with_reducible rfl
 rotate_left
 · simp only [Act.put, List.setIfInBounds_toArray, List.set_cons_zero, List.set_cons_succ, i64_w, i32_w]
   rfl
 refine join_ (σ := Value × Value) 1 bQ69_7 (fun s_ => [(19, s_.1), (23, s_.2), (7, s_.1)]) (fun s_ w' => (w'.cell? ⟨gb396, 0, none⟩ = some (.slice A0_0 l0_0.length c0_0) ∧ w'.cell? ⟨gb396, 1, none⟩ = some (.slice A0_1 l0_1.length c0_1) ∧ w'.cell? ⟨gb396, 2, none⟩ = some (.slice A0_2 l0_2.length c0_2)) ∧ (Kd.R (Kd.int .i64) 2 w' w.heap.size (fun k_ => some k_ ≠ (s_.1 : Value).ownBlock ∧ some k_ ≠ (s_.2 : Value).ownBlock) v399 y398) ∧ (Kd.R (Kd.int .i64) 2 w' w.heap.size (fun k_ => some k_ ≠ (v399 : Value).ownBlock ∧ some k_ ≠ (s_.2 : Value).ownBlock) s_.1 y401) ∧ (Kd.R (Kd.int .i64) 2 w' w.heap.size (fun k_ => some k_ ≠ (v399 : Value).ownBlock ∧ some k_ ≠ (s_.1 : Value).ownBlock) s_.2 y404) ∧ (w'.heap[gb396]? = some (.cells #[.slice A0_0 l0_0.length c0_0, .slice A0_1 l0_1.length c0_1, .slice A0_2 l0_2.length c0_2] 33 (0, 0))) ∧ (Below w.heap.size w w')) ?_ ?_
 rotate_left
 · intro hCont
   refine two_ (i := 3) (j := 7) (Ni := some 19) (Nj := some 23) bQ69_8 bQ69_9 rfl rfl rfl rfl (two_of HT_.out (by kernel_rfl)) (by decide) (by decide) (fun K hK => ?_) (fun K hK => ?_)
   · skip
     refine Kd.R_make_step (Kd.int .i64) _ 2 (by rfl) (N := 19) rfl 22 _ _ rfl (l0_0.length : Int) rfl rfl Try.underlying22 (.int .i64 0) 8 info2 rfl (by decide) (by omega) 0 (ok := fun _ => True) (okp := fun _ => True) rfl (fun _ hk => hk) trivial (of_decide_eq_true (by (with_reducible assumption))) (Nat.le_trans (Nat.mul_le_mul_right _ (of_decide_eq_true (by (with_reducible assumption)) : (l0_0.length : Int).toNat ≤ 35184372088832)) (by omega)) (Below.refl _ _) (Nat.le_refl _) ?_
     intro v402 w11 ho12 hb hg_ hnew_
     clear hg_ hnew_
     (rw [← Ny401.out] at ho12)
     have n0_ := Aside0.mk (Kd.R_elder' HO400.out (Kd.R_base ho12) hb)
     have n1_ := Aside0.mk (Kd.R_lower (Kd.R_new' ho12 (Kd.R_lt HO400.out)) (below_size HB.out))
     have n2_ := Aside0.mk (blk_below (g := gb396) (o := .cells #[.slice A0_0 l0_0.length c0_0, .slice A0_1 l0_1.length c0_1, .slice A0_2 l0_2.length c0_2] 33 (0, 0)) BK396.out hb)
     have n3_ := Aside0.mk (below_step HB.out hb)
     clear HO400
     clear BK396
     clear HB
     have HO400 := n0_
     have HO403 := n1_
     have BK396 := n2_
     have HB := n3_
     clear n0_ n1_ n2_ n3_
     clear hb ho12
     refine hK.out _ _ ⟨(blk_cell BK396.out 0).trans rfl, (blk_cell BK396.out 1).trans rfl, (blk_cell BK396.out 2).trans rfl⟩ (fun hHeld => ?_)
     clear hK K
     refine norm_ (a' := ?_) ?_ ?_
     rotate_left
     · show Act.put _ (some 19) _ = _
       simp only [Act.put, List.setIfInBounds_toArray, List.set_cons_zero, List.set_cons_succ, i64_w, i32_w]
       rfl
     refine pure_ (i := 8) (N := some 7) (v := ?_) (a' := ?_) bQ69_10 rfl rfl (any_of HT_.out (by kernel_rfl)) (fun _ _ _ h => h) (Or.inl ⟨by rfl, ?_⟩) ?_ ?_
     rotate_left
     · intro w'
       go_simp
       with_reducible rfl
     rotate_left
     · simp only [Act.put, List.setIfInBounds_toArray, List.set_cons_zero, List.set_cons_succ, i64_w, i32_w]
       rfl
     refine one_ (i := 7) (N := some 23) bQ69_7 rfl rfl (one_of HT_.out (by kernel_rfl)) (by decide) (fun K hK => ?_)
     refine Kd.R_make_step (Kd.int .i64) _ 2 (by rfl) (N := 23) rfl 22 _ _ rfl (l0_0.length : Int) rfl rfl Try.underlying22 (.int .i64 0) 8 info2 rfl (by decide) (by omega) 0 (ok := fun _ => True) (okp := fun _ => True) rfl (fun _ hk => hk) trivial (of_decide_eq_true (by (with_reducible assumption))) (Nat.le_trans (Nat.mul_le_mul_right _ (of_decide_eq_true (by (with_reducible assumption)) : (l0_0.length : Int).toNat ≤ 35184372088832)) (by omega)) (Below.refl _ _) (Nat.le_refl _) ?_
     intro v405 w13 ho14 hb hg_ hnew_
     clear hg_ hnew_
     (rw [← Ny404.out] at ho14)
     have n0_ := Aside0.mk (Kd.R_elder' HO400.out (Kd.R_base ho14) hb)
     have n1_ := Aside0.mk (Kd.R_elder' HO403.out (Kd.R_base ho14) hb)
     have n2_ := Aside0.mk (Kd.R_lower (Kd.R_new' (Kd.R_new' ho14 (Kd.R_lt HO400.out)) (Kd.R_lt HO403.out)) (below_size HB.out))
     have n3_ := Aside0.mk (blk_below (g := gb396) (o := .cells #[.slice A0_0 l0_0.length c0_0, .slice A0_1 l0_1.length c0_1, .slice A0_2 l0_2.length c0_2] 33 (0, 0)) BK396.out hb)
     have n4_ := Aside0.mk (below_step HB.out hb)
     clear HO400
     clear HO403
     clear BK396
     clear HB
     have HO400 := n0_
     have HO403 := n1_
     have HO406 := n2_
     have BK396 := n3_
     have HB := n4_
     clear n0_ n1_ n2_ n3_ n4_
     clear hb ho14
     refine hK.out _ _ ⟨(blk_cell BK396.out 0).trans rfl, (blk_cell BK396.out 1).trans rfl, (blk_cell BK396.out 2).trans rfl⟩ (fun hHeld => ?_)
     clear hK K
     refine norm_ (a' := ?_) ?_ ?_
     rotate_left
     · show Act.put _ (some 23) _ = _
       simp only [Act.put, List.setIfInBounds_toArray, List.set_cons_zero, List.set_cons_succ, i64_w, i32_w]
       rfl
     exact norm_ (by simp only [putAll, Act.put, List.setIfInBounds_toArray, List.set_cons_zero, List.set_cons_succ]) (hCont (v402, v405) _ ⟨hHeld, (by exact Kd.R_mono HO400.out (fun _ hk => ⟨hk.1.2, hk.2⟩)), (by exact Kd.R_mono HO403.out (fun _ hk => ⟨hk.1.2, hk.2⟩)), (by exact Kd.R_mono HO406.out (fun _ hk => ⟨hk.1.2, hk.2⟩)), BK396.out, HB.out⟩)
   skip
   refine Kd.R_make_step (Kd.int .i64) _ 2 (by rfl) (N := 23) rfl 22 _ _ rfl (l0_0.length : Int) rfl rfl Try.underlying22 (.int .i64 0) 8 info2 rfl (by decide) (by omega) 0 (ok := fun _ => True) (okp := fun _ => True) rfl (fun _ hk => hk) trivial (of_decide_eq_true (by (with_reducible assumption))) (Nat.le_trans (Nat.mul_le_mul_right _ (of_decide_eq_true (by (with_reducible assumption)) : (l0_0.length : Int).toNat ≤ 35184372088832)) (by omega)) (Below.refl _ _) (Nat.le_refl _) ?_
   intro v405 w11 ho12 hb hg_ hnew_
   clear hg_ hnew_
   (rw [← Ny404.out] at ho12)
   have n0_ := Aside0.mk (Kd.R_elder' HO400.out (Kd.R_base ho12) hb)
   have n1_ := Aside0.mk (Kd.R_lower (Kd.R_new' ho12 (Kd.R_lt HO400.out)) (below_size HB.out))
   have n2_ := Aside0.mk (blk_below (g := gb396) (o := .cells #[.slice A0_0 l0_0.length c0_0, .slice A0_1 l0_1.length c0_1, .slice A0_2 l0_2.length c0_2] 33 (0, 0)) BK396.out hb)
   have n3_ := Aside0.mk (below_step HB.out hb)
   clear HO400
   clear BK396
   clear HB
   have HO400 := n0_
   have HO406 := n1_
   have BK396 := n2_
   have HB := n3_
   clear n0_ n1_ n2_ n3_
   clear hb ho12
   refine hK.out _ _ ⟨(blk_cell BK396.out 0).trans rfl, (blk_cell BK396.out 1).trans rfl, (blk_cell BK396.out 2).trans rfl⟩ (fun hHeld => ?_)
   clear hK K
   refine norm_ (a' := ?_) ?_ ?_
   rotate_left
   · show Act.put _ (some 23) _ = _
     simp only [Act.put, List.setIfInBounds_toArray, List.set_cons_zero, List.set_cons_succ, i64_w, i32_w]
     rfl
   refine one_ (i := 3) (N := some 19) bQ69_11 rfl rfl (one_of HT_.out (by kernel_rfl)) (by decide) (fun K hK => ?_)
   refine Kd.R_make_step (Kd.int .i64) _ 2 (by rfl) (N := 19) rfl 22 _ _ rfl (l0_0.length : Int) rfl rfl Try.underlying22 (.int .i64 0) 8 info2 rfl (by decide) (by omega) 0 (ok := fun _ => True) (okp := fun _ => True) rfl (fun _ hk => hk) trivial (of_decide_eq_true (by (with_reducible assumption))) (Nat.le_trans (Nat.mul_le_mul_right _ (of_decide_eq_true (by (with_reducible assumption)) : (l0_0.length : Int).toNat ≤ 35184372088832)) (by omega)) (Below.refl _ _) (Nat.le_refl _) ?_
   intro v402 w13 ho14 hb hg_ hnew_
   clear hg_ hnew_
   (rw [← Ny401.out] at ho14)
   have n0_ := Aside0.mk (Kd.R_elder' HO400.out (Kd.R_base ho14) hb)
   have n1_ := Aside0.mk (Kd.R_elder' HO406.out (Kd.R_base ho14) hb)
   have n2_ := Aside0.mk (Kd.R_lower (Kd.R_new' (Kd.R_new' ho14 (Kd.R_lt HO400.out)) (Kd.R_lt HO406.out)) (below_size HB.out))
   have n3_ := Aside0.mk (blk_below (g := gb396) (o := .cells #[.slice A0_0 l0_0.length c0_0, .slice A0_1 l0_1.length c0_1, .slice A0_2 l0_2.length c0_2] 33 (0, 0)) BK396.out hb)
   have n4_ := Aside0.mk (below_step HB.out hb)
   clear HO400
   clear HO406
   clear BK396
   clear HB
   have HO400 := n0_
   have HO406 := n1_
   have HO403 := n2_
   have BK396 := n3_
   have HB := n4_
   clear n0_ n1_ n2_ n3_ n4_
   clear hb ho14
   refine hK.out _ _ ⟨(blk_cell BK396.out 0).trans rfl, (blk_cell BK396.out 1).trans rfl, (blk_cell BK396.out 2).trans rfl⟩ (fun hHeld => ?_)
   clear hK K
   refine norm_ (a' := ?_) ?_ ?_
   rotate_left
   · show Act.put _ (some 19) _ = _
     simp only [Act.put, List.setIfInBounds_toArray, List.set_cons_zero, List.set_cons_succ, i64_w, i32_w]
     rfl
   refine pure_ (i := 8) (N := some 7) (v := ?_) (a' := ?_) bQ69_7 rfl rfl (any_of HT_.out (by kernel_rfl)) (fun _ _ _ h => h) (Or.inl ⟨by rfl, ?_⟩) ?_ ?_
   rotate_left
   · intro w'
     go_simp
     with_reducible rfl
   rotate_left
   · simp only [Act.put, List.setIfInBounds_toArray, List.set_cons_zero, List.set_cons_succ, i64_w, i32_w]
     rfl
   exact norm_ (by simp only [putAll, Act.put, List.setIfInBounds_toArray, List.set_cons_zero, List.set_cons_succ]) (hCont (v402, v405) _ ⟨hHeld, (by exact Kd.R_mono HO400.out (fun _ hk => ⟨hk.2, hk.1.2⟩)), (by exact Kd.R_mono HO403.out (fun _ hk => ⟨hk.1.2, hk.2⟩)), (by exact Kd.R_mono HO406.out (fun _ hk => ⟨hk.1.2, hk.2⟩)), BK396.out, HB.out⟩)
 rintro ⟨v402, v405⟩ w15 ⟨hS_, h0_, h1_, h2_, h3_, h4_⟩
 have n0_ : Aside0 (Kd.R (Kd.int .i64) 2 w15 w.heap.size (fun k_ => some k_ ≠ (v402 : Value).ownBlock ∧ some k_ ≠ (v405 : Value).ownBlock) v399 y398) := ⟨h0_⟩
 have n1_ : Aside0 (Kd.R (Kd.int .i64) 2 w15 w.heap.size (fun k_ => some k_ ≠ (v399 : Value).ownBlock ∧ some k_ ≠ (v405 : Value).ownBlock) v402 y401) := ⟨h1_⟩
 have n2_ : Aside0 (Kd.R (Kd.int .i64) 2 w15 w.heap.size (fun k_ => some k_ ≠ (v399 : Value).ownBlock ∧ some k_ ≠ (v402 : Value).ownBlock) v405 y404) := ⟨h2_⟩
 have n3_ : Aside0 (w15.heap[gb396]? = some (.cells #[.slice A0_0 l0_0.length c0_0, .slice A0_1 l0_1.length c0_1, .slice A0_2 l0_2.length c0_2] 33 (0, 0))) := ⟨h3_⟩
 have n4_ : Aside0 (Below w.heap.size w w15) := ⟨h4_⟩
 clear HO400
 clear BK396
 clear HB
 clear h0_ h1_ h2_ h3_ h4_
 have HO400 := n0_
 have HO403 := n1_
 have HO406 := n2_
 have BK396 := n3_
 have HB := n4_
 clear n0_ n1_ n2_ n3_ n4_
 have hHeld : w15.cell? ⟨gb396, 0, none⟩ = some (.slice A0_0 l0_0.length c0_0) ∧ w15.cell? ⟨gb396, 1, none⟩ = some (.slice A0_1 l0_1.length c0_1) ∧ w15.cell? ⟨gb396, 2, none⟩ = some (.slice A0_2 l0_2.length c0_2) := hS_
 refine norm_ (a' := ?_) ?_ ?_
 rotate_left
 · simp only [putAll, Act.put, List.setIfInBounds_toArray, List.set_cons_zero, List.set_cons_succ]
   rfl
 refine pure_ (i := 9) (N := some 8) (v := ?_) (a' := ?_) bQ69_12 rfl rfl (any_of HT_.out (by kernel_rfl)) (fun _ _ _ h => h) (Or.inl ⟨by rfl, ?_⟩) ?_ ?_
 rotate_left
 · intro w'
   go_simp
   with_reducible rfl
 rotate_left
 · simp only [Act.put, List.setIfInBounds_toArray, List.set_cons_zero, List.set_cons_succ, i64_w, i32_w]
   rfl
 refine done_ (done_of HT_.out (by kernel_rfl)) ?_
 try go_wp2
 go_loopg [6, 9] k (fun kq v6 v9 w' => ∃ (x6_1 : List Int) (x7_1 : List Int) (x8_1 : List Int) (x9_1 : Int), v9 = .int .i64 x9_1 ∧ Aside0 (spec_l04Slots.l0 kq t397 x6_1 x7_1 x8_1 x9_1 l0_0 l0_1 l0_2 = some (r1, r2, r3)) ∧ Aside0 (kq ≤ k) ∧ Aside0 (Kd.R (Kd.int .i64) 2 w' w.heap.size (fun k_ => some k_ ≠ (v402 : Value).ownBlock ∧ some k_ ≠ (v405 : Value).ownBlock) v6 x6_1) ∧ Aside0 (Kd.R (Kd.int .i64) 2 w' w.heap.size (fun k_ => some k_ ≠ (v6 : Value).ownBlock ∧ some k_ ≠ (v405 : Value).ownBlock) v402 x7_1) ∧ Aside0 (Kd.R (Kd.int .i64) 2 w' w.heap.size (fun k_ => some k_ ≠ (v6 : Value).ownBlock ∧ some k_ ≠ (v402 : Value).ownBlock) v405 x8_1) ∧ Aside0 (w'.heap[gb396]? = some (.cells #[(.slice A0_0 l0_0.length c0_0), (.slice A0_1 l0_1.length c0_1), (.slice A0_2 l0_2.length c0_2)] 33 (0, 0))) ∧ Aside0 (Below w.heap.size w w'))
 case atStart => exact ⟨(y398), (y401), (y404), (0), (by rfl), H', ⟨Nat.le_refl _⟩, ⟨by exact HO400.out⟩, ⟨by exact HO403.out⟩, ⟨by exact HO406.out⟩, ⟨by exact BK396.out⟩, ⟨by exact HB.out⟩⟩
 clear H'
 clear c3b0 c3b1 c4b0 c4b1 hcz6_0 hcz6_1 hcz6_2 hfz6_0 hfz6_1 hfz6_2
 obtain ⟨x6_1, x7_1, x8_1, x9_1, rfl, HA, HK1, HO_6, HO_7, HO_8, BK396, HB⟩ := hrel
 cases gk with
 | zero => exact absurd HA.out (by simp [spec_l04Slots.l0])
 | succ k1 =>
  have H := HA.out
  clear HA
  simp only [spec_l04Slots.l0] at H
  by_cases c16 : x9_1 ≤ t397
  rotate_left
  · rw [if_neg c16] at H
    have c16b0 : decide (x9_1 ≤ t397) = false := decide_eq_false c16
    clear c16
    simp only [Option.some.injEq, Prod.mk.injEq] at H
    obtain ⟨rfl, rfl, rfl⟩ := H
    go_wp2
    go_ret3
    exact ⟨_, by rfl, by exact Kd.R_mono HO_6.out (fun _ hk => trivial), by exact HB.out⟩
  rw [if_pos c16] at H
  have c16b0 : decide (x9_1 ≤ t397) = true := decide_eq_true c16
  clear c16
  have H' := Aside0.mk H
  clear H
  go_wp2
  go_loopg [10] k1 (fun kq v10 w' => ∃ (x10_2 : Int), v10 = .int .i64 x10_2 ∧ Aside0 (spec_l04Slots.l1 kq t397 x6_1 x7_1 x8_1 x9_1 x10_2 l0_0 l0_1 l0_2 = some (r1, r2, r3)) ∧ Aside0 (kq ≤ k1) ∧ Aside0 (Kd.R (Kd.int .i64) 2 w' w.heap.size (fun k_ => some k_ ≠ (v402 : Value).ownBlock ∧ some k_ ≠ (v405 : Value).ownBlock) u6 x6_1) ∧ Aside0 (Kd.R (Kd.int .i64) 2 w' w.heap.size (fun k_ => some k_ ≠ (u6 : Value).ownBlock ∧ some k_ ≠ (v405 : Value).ownBlock) v402 x7_1) ∧ Aside0 (Kd.R (Kd.int .i64) 2 w' w.heap.size (fun k_ => some k_ ≠ (u6 : Value).ownBlock ∧ some k_ ≠ (v402 : Value).ownBlock) v405 x8_1) ∧ Aside0 (w'.heap[gb396]? = some (.cells #[(.slice A0_0 l0_0.length c0_0), (.slice A0_1 l0_1.length c0_1), (.slice A0_2 l0_2.length c0_2)] 33 (0, 0))) ∧ Aside0 (Below w.heap.size w w'))
  case atStart => exact ⟨(0), (by rfl), H', ⟨Nat.le_refl _⟩, ⟨by exact HO_6.out⟩, ⟨by exact HO_7.out⟩, ⟨by exact HO_8.out⟩, ⟨by exact BK396.out⟩, ⟨by exact HB.out⟩⟩
  clear H'
  clear c16b0
  obtain ⟨x10_2, rfl, HA, HK2, HO_6, HO_7, HO_8, BK396, HB⟩ := hrel
  cases gk with
  | zero => exact absurd HA.out (by simp [spec_l04Slots.l1])
  | succ k2 =>
   have H := HA.out
   clear HA
   simp only [spec_l04Slots.l1] at H
   by_cases c17 : x10_2 < (x7_1.length : Int)
   · rw [if_pos c17] at H
     have c17b0 : decide (x10_2 < (x7_1.length : Int)) = true := decide_eq_true c17
     clear c17
     by_cases c18 : 0 ≤ x10_2
     rotate_left
     · rw [if_neg c18] at H
       exact absurd H (by simp)
     rw [if_pos c18] at H
     have c18b0 : decide (0 ≤ x10_2) = true := decide_eq_true c18
     clear c18
     by_cases c19 : (rd x7_1 x10_2) > 0
     rotate_left
     · rw [if_neg c19] at H
       have c19b0 : decide (0 < (rd x7_1 x10_2)) = false := decide_eq_false c19
       clear c19
       have H' := Aside0.mk H
       clear H
       obtain ⟨Ao26, co26, eo26⟩ := Kd.R_slice HO_7.out
       subst eo26
       have p407 : 0 ≤ (x10_2 : Int) := of_decide_eq_true (by (with_reducible assumption))
       have q407 : x10_2 < (x7_1.length : Int) := of_decide_eq_true (by (with_reducible assumption))
       obtain ⟨ad407, e407, hx407_0⟩ := Kd.at_int (Kd.R_reads' HO_7.out).2.2 x10_2 p407 q407
       cases e407
       replace p407 := eq_true p407
       replace q407 := eq_true q407
       go_wp2
       go_roundg k2
       case measure => have := HK1.out; have := HK2.out; omega
       case rel => exact ⟨(wrap64 (x10_2 + 1)), (by rfl), H', ⟨by have := HK1.out; have := HK2.out; omega⟩, ⟨by exact HO_6.out⟩, ⟨by exact HO_7.out⟩, ⟨by exact HO_8.out⟩, ⟨by exact BK396.out⟩, ⟨by exact HB.out⟩⟩
     rw [if_pos c19] at H
     have c19b0 : decide (0 < (rd x7_1 x10_2)) = true := decide_eq_true c19
     clear c19
     by_cases c20 : x10_2 < (x8_1.length : Int)
     rotate_left
     · rw [if_neg c20] at H
       exact absurd H (by simp)
     rw [if_pos c20] at H
     have c20b0 : decide (x10_2 < (x8_1.length : Int)) = true := decide_eq_true c20
     clear c20
     by_cases c21 : (rd x8_1 x10_2) = x9_1
     · rw [if_pos c21] at H
       have c21b0 : ((rd x8_1 x10_2) == x9_1) = true := beq_iff_eq.mpr c21
       have c21b1 : ((rd x8_1 x10_2) != x9_1) = false := bne_eq_false_iff_eq.mpr c21
       clear c21
       simp only [Option.some.injEq, Prod.mk.injEq] at H
       obtain ⟨rfl, rfl, rfl⟩ := H
       obtain ⟨Ao22, co22, eo22⟩ := Kd.R_slice HO_7.out
       subst eo22
       have p407 : 0 ≤ (x10_2 : Int) := of_decide_eq_true (by (with_reducible assumption))
       have q407 : x10_2 < (x7_1.length : Int) := of_decide_eq_true (by (with_reducible assumption))
       obtain ⟨ad407, e407, hx407_0⟩ := Kd.at_int (Kd.R_reads' HO_7.out).2.2 x10_2 p407 q407
       cases e407
       replace p407 := eq_true p407
       replace q407 := eq_true q407
       obtain ⟨Ao23, co23, eo23⟩ := Kd.R_slice HO_8.out
       subst eo23
       have p408 : 0 ≤ (x10_2 : Int) := of_decide_eq_true (by (with_reducible assumption))
       have q408 : x10_2 < (x8_1.length : Int) := of_decide_eq_true (by (with_reducible assumption))
       obtain ⟨ad408, e408, hx408_0⟩ := Kd.at_int (Kd.R_reads' HO_8.out).2.2 x10_2 p408 q408
       cases e408
       replace p408 := eq_true p408
       replace q408 := eq_true q408
       go_wp2
       go_ret3
       exact ⟨_, by rfl, by exact Kd.R_mono HO_6.out (fun _ hk => trivial), by exact HB.out⟩
     rw [if_neg c21] at H
     have c21b0 : ((rd x8_1 x10_2) == x9_1) = false := beq_eq_false_iff_ne.mpr c21
     have c21b1 : ((rd x8_1 x10_2) != x9_1) = true := bne_iff_ne.mpr c21
     have H' := Aside0.mk H
     clear H
     obtain ⟨Ao24, co24, eo24⟩ := Kd.R_slice HO_7.out
     subst eo24
     have p407 : 0 ≤ (x10_2 : Int) := of_decide_eq_true (by (with_reducible assumption))
     have q407 : x10_2 < (x7_1.length : Int) := of_decide_eq_true (by (with_reducible assumption))
     obtain ⟨ad407, e407, hx407_0⟩ := Kd.at_int (Kd.R_reads' HO_7.out).2.2 x10_2 p407 q407
     cases e407
     replace p407 := eq_true p407
     replace q407 := eq_true q407
     obtain ⟨Ao25, co25, eo25⟩ := Kd.R_slice HO_8.out
     subst eo25
     have p408 : 0 ≤ (x10_2 : Int) := of_decide_eq_true (by (with_reducible assumption))
     have q408 : x10_2 < (x8_1.length : Int) := of_decide_eq_true (by (with_reducible assumption))
     obtain ⟨ad408, e408, hx408_0⟩ := Kd.at_int (Kd.R_reads' HO_8.out).2.2 x10_2 p408 q408
     cases e408
     replace p408 := eq_true p408
     replace q408 := eq_true q408
     go_wp2
     go_roundg k2
     case measure => have := HK1.out; have := HK2.out; omega
     case rel => exact ⟨(wrap64 (x10_2 + 1)), (by rfl), H', ⟨by have := HK1.out; have := HK2.out; omega⟩, ⟨by exact HO_6.out⟩, ⟨by exact HO_7.out⟩, ⟨by exact HO_8.out⟩, ⟨by exact BK396.out⟩, ⟨by exact HB.out⟩⟩
   rw [if_neg c17] at H
   have c17b0 : decide (x10_2 < (x7_1.length : Int)) = false := decide_eq_false c17
   clear c17
   by_cases c27 : x9_1 = t397
   · rw [if_pos c27] at H
     have c27b0 : (x9_1 == t397) = true := beq_iff_eq.mpr c27
     have c27b1 : (x9_1 != t397) = false := bne_eq_false_iff_eq.mpr c27
     clear c27
     simp only [Option.some.injEq, Prod.mk.injEq] at H
     obtain ⟨rfl, rfl, rfl⟩ := H
     obtain ⟨Ao28, co28, eo28⟩ := Kd.R_slice HO_7.out
     subst eo28
     go_wp2
     go_ret3
     exact ⟨_, by rfl, by exact Kd.R_mono HO_6.out (fun _ hk => trivial), by exact HB.out⟩
   rw [if_neg c27] at H
   have c27b0 : (x9_1 == t397) = false := beq_eq_false_iff_ne.mpr c27
   have c27b1 : (x9_1 != t397) = true := bne_iff_ne.mpr c27
   have H' := Aside0.mk H
   clear H
   obtain ⟨Ao29, co29, eo29⟩ := Kd.R_slice HO_7.out
   subst eo29
   go_wp2
   go_loopg [11, 12] k2 (fun kq v11 v12 w' => ∃ (x7_3 : List Int) (x8_3 : List Int) (x11_3 : Int) (x12_3 : Int), v11 = .int .i64 x11_3 ∧ v12 = .int .i64 x12_3 ∧ Aside0 (spec_l04Slots.l2 kq t397 x6_1 x7_3 x8_3 x9_1 x11_3 x12_3 l0_0 l0_1 l0_2 = some (r1, r2, r3)) ∧ Aside0 (kq ≤ k2) ∧ Aside0 (Kd.R (Kd.int .i64) 2 w' w.heap.size (fun k_ => some k_ ≠ ((.slice Ao29 x7_1.length co29) : Value).ownBlock ∧ some k_ ≠ (v405 : Value).ownBlock) u6 x6_1) ∧ Aside0 (Kd.R (Kd.int .i64) 2 w' w.heap.size (fun k_ => some k_ ≠ (u6 : Value).ownBlock ∧ some k_ ≠ (v405 : Value).ownBlock) (.slice Ao29 x7_1.length co29) x7_3) ∧ Aside0 (Kd.R (Kd.int .i64) 2 w' w.heap.size (fun k_ => some k_ ≠ (u6 : Value).ownBlock ∧ some k_ ≠ ((.slice Ao29 x7_1.length co29) : Value).ownBlock) v405 x8_3) ∧ Aside0 (w'.heap[gb396]? = some (.cells #[(.slice A0_0 l0_0.length c0_0), (.slice A0_1 l0_1.length c0_1), (.slice A0_2 l0_2.length c0_2)] 33 (0, 0))) ∧ Aside0 (Below w.heap.size w w'))
   case atStart => exact ⟨(x7_1), (x8_1), (-1), (0), (by rfl), (by rfl), H', ⟨Nat.le_refl _⟩, ⟨by exact HO_6.out⟩, ⟨by exact HO_7.out⟩, ⟨by exact HO_8.out⟩, ⟨by exact BK396.out⟩, ⟨by exact HB.out⟩⟩
   clear H'
   clear c17b0 c27 c27b0 c27b1
   obtain ⟨x7_3, x8_3, x11_3, x12_3, rfl, rfl, HA, HK3, HO_6, HO_7, HO_8, BK396, HB⟩ := hrel
   have hl7_3 := (Kd.R_reads' HO_7.out).1
   rw [hl7_3] at HO_7
   (try simp only [hl7_3])
   (try simp only [hl7_3] at BK396)
   (try simp only [hl7_3] at HO_6)
   (try simp only [hl7_3] at HO_8)
   cases gk with
   | zero => exact absurd HA.out (by simp [spec_l04Slots.l2])
   | succ k3 =>
    have H := HA.out
    clear HA
    simp only [spec_l04Slots.l2] at H
    by_cases c30 : x12_3 < (x7_3.length : Int)
    rotate_left
    · rw [if_neg c30] at H
      have c30b0 : decide (x12_3 < (x7_3.length : Int)) = false := decide_eq_false c30
      clear c30
      by_cases c89 : x11_3 ≥ 0
      rotate_left
      · rw [if_neg c89] at H
        have c89b0 : decide (0 ≤ x11_3) = false := decide_eq_false c89
        clear c89
        by_cases c97 : x6_1.length < 17592186044416
        rotate_left
        · rw [if_neg c97] at H
          exact absurd H (by simp)
        rw [if_pos c97] at H
        have LMc97 := Aside0.mk c97
        clear c97
        obtain ⟨y414, hy414⟩ : ∃ y_ : List Int, y_ = (x6_1 ++ [x11_3]) := ⟨_, rfl⟩
        replace H : (spec_l04Slots.l0 k3 t397 y414 x7_3 x8_3 (wrap64 (x9_1 + 1)) l0_0 l0_1 l0_2) = some (r1, r2, r3) := by (rw [hy414]; with_reducible exact H)
        have Ny414 := Aside0.mk hy414
        clear hy414
        have H' := Aside0.mk H
        clear H
        go_wp2_with (((with_reducible refine gate_builtin (b := .append) (xs := #[.tmp 115, .tmp 117]) rfl ?_); at_builtin; refine Kd.R_append (Kd.int .i64) (w0 := w) w.heap.size rfl (.tmp 115) (.tmp 117) 22 2 (.int .i64 0) 8 rfl Try.underlying22 info2 rfl (by decide) (by omega) u6 x6_1 x11_3 [.int .i64 x11_3] (fun k_ => some k_ ≠ (.slice Ao29 x7_3.length co29 : Value).ownBlock ∧ some k_ ≠ (v405 : Value).ownBlock) (fun _ => False) rfl rfl ?aP (fun _ hk => hk.elim) ?aF ?aO ?aB ?aS ?aL ?_; (case aP => exact rfl); (case aB => exact HB.out); (case aF => exact (fun k_ hk => ⟨Kd.fresh' (Kd.R_lt HO_7.out) k_ hk, Kd.fresh' (Kd.R_lt HO_8.out) k_ hk⟩)); (case aO => exact HO_6.out); (case aS => exact (below_size HB.out)); (case aL => have := LMc97.out; omega); intro v415 w98 ho hb hg hat; rw [← Ny414.out] at ho; have n0_ := Aside0.mk (Kd.R_after (ok := (fun k_ => some k_ ≠ (v405 : Value).ownBlock)) (by exact Kd.R_mono HO_7.out (fun _ hk => ⟨hk.2, hk.1⟩)) hg hat); have n1_ := Aside0.mk (Kd.R_after (ok := (fun k_ => some k_ ≠ (.slice Ao29 x7_3.length co29 : Value).ownBlock)) (by exact Kd.R_mono HO_8.out (fun _ hk => ⟨hk.2, hk.1⟩)) hg hat); have n2_ := Aside0.mk (blk_grown (g := gb396) (o := .cells #[.slice A0_0 l0_0.length c0_0, .slice A0_1 l0_1.length c0_1, .slice A0_2 l0_2.length c0_2] 33 (0, 0)) BK396.out hg (Kd.R_ne HO_6.out BK396.out (by decide))); have n3_ := Aside0.mk (hb); have n4_ := Aside0.mk (ho); clear HO_7; clear HO_8; clear BK396; clear HB; clear HO_6; have HO_7 := n0_; have HO_8 := n1_; have BK396 := n2_; have HB := n3_; have HO416 := n4_; clear n0_ n1_ n2_ n3_ n4_; clear ho hb hg hat))
        (try simp only [← hl7_3])
        go_roundg k3
        case measure => have := HK1.out; have := HK2.out; have := HK3.out; omega
        case rel => exact ⟨(y414), (x7_3), (x8_3), (wrap64 (x9_1 + 1)), (by rfl), H', ⟨by have := HK1.out; have := HK2.out; have := HK3.out; omega⟩, ⟨by (try simp only [hl7_3]); exact HO416.out⟩, ⟨by (try simp only [hl7_3]); exact Kd.R_mono HO_7.out (fun _ hk => ⟨hk.2, hk.1⟩)⟩, ⟨by (try simp only [hl7_3]); exact Kd.R_mono HO_8.out (fun _ hk => ⟨hk.2, hk.1⟩)⟩, ⟨by (try simp only [hl7_3]); exact BK396.out⟩, ⟨by exact HB.out⟩⟩
      rw [if_pos c89] at H
      have c89b0 : decide (0 ≤ x11_3) = true := decide_eq_true c89
      clear c89
      by_cases c90 : 0 ≤ x11_3
      rotate_left
      · rw [if_neg c90] at H
        exact absurd H (by simp)
      rw [if_pos c90] at H
      have c90b0 : decide (0 ≤ x11_3) = true := decide_eq_true c90
      clear c90
      by_cases c91 : x11_3 < (x7_3.length : Int)
      rotate_left
      · rw [if_neg c91] at H
        exact absurd H (by simp)
      rw [if_pos c91] at H
      have c91b0 : decide (x11_3 < (x7_3.length : Int)) = true := decide_eq_true c91
      clear c91
      obtain ⟨y410, hy410⟩ : ∃ y_ : List Int, y_ = (x7_3.set (x11_3 : Int).toNat (wrap64 ((rd x7_3 x11_3) - 1))) := ⟨_, rfl⟩
      replace H : (if x6_1.length < 17592186044416 then (spec_l04Slots.l0 k3 t397 (x6_1 ++ [x11_3]) y410 x8_3 (wrap64 (x9_1 + 1)) l0_0 l0_1 l0_2) else (none)) = some (r1, r2, r3) := by (rw [hy410]; with_reducible exact H)
      have Ny410 := Aside0.mk hy410
      clear hy410
      by_cases c93 : x6_1.length < 17592186044416
      rotate_left
      · rw [if_neg c93] at H
        exact absurd H (by simp)
      rw [if_pos c93] at H
      have LMc93 := Aside0.mk c93
      clear c93
      obtain ⟨y411, hy411⟩ : ∃ y_ : List Int, y_ = (x6_1 ++ [x11_3]) := ⟨_, rfl⟩
      replace H : (spec_l04Slots.l0 k3 t397 y411 y410 x8_3 (wrap64 (x9_1 + 1)) l0_0 l0_1 l0_2) = some (r1, r2, r3) := by (rw [hy411]; with_reducible exact H)
      have Ny411 := Aside0.mk hy411
      clear hy411
      have H' := Aside0.mk H
      clear H
      have p409 : 0 ≤ (x11_3 : Int) := of_decide_eq_true (by (with_reducible assumption))
      have q409 : x11_3 < (x7_3.length : Int) := of_decide_eq_true (by (with_reducible assumption))
      obtain ⟨ad409, e409, hx409_0⟩ := Kd.at_int (Kd.R_reads' HO_7.out).2.2 x11_3 p409 q409
      cases e409
      replace p409 := eq_true p409
      replace q409 := eq_true q409
      have p92 : 0 ≤ (x11_3 : Int) := of_decide_eq_true (by (with_reducible assumption))
      have q92 : (x11_3 : Int) < ((x7_3.length : Int) : Int) := of_decide_eq_true (by (with_reducible assumption))
      obtain ⟨go92, co92, eo92, gb92, gl92, cl92, HG92⟩ := Kd.R_form HO_7.out (by omega)
      (cases eo92)
      have GB92 := Aside0.mk gb92
      have GG92 := Aside0.mk HG92
      clear gb92 gl92 HG92
      (simp only [add_plain] at hx409_0)
      obtain ⟨hx92_0, hf92_0⟩ := Kd.R_celln 0 HO_7.out (x11_3 : Int) p92 q92
      replace p92 := eq_true p92
      replace q92 := eq_true q92
      have HP94 := Kd.R_putg HO_7.out (x11_3 : Int) (wrap64 ((rd x7_3 x11_3) - 1))
      go_wp2_with (first | ((with_reducible refine gate_store (t := 2) (p := 114) rfl ?_); refine store_event (t := 2) (p := 114) (v := ?vo_w95) (w1 := (wr.setCell ⟨go92, (x11_3 : Int).toNat, none⟩ (.int .i64 (wrap64 ((rd x7_3 x11_3) - 1))))) ?hg ?ho ?hn ?hr ?_; (case ho => rfl); (case hg => rfl); (case hn => rfl); (case hr => (go_simp; done)); intro w95 hw; have hg : wr.grownBy w95 (some go92) := (by rw [hw]; exact HP94.2); have hp_ : Kd.R (Kd.int .i64) 2 w95 w.heap.size (fun k_ => some k_ ≠ (u6 : Value).ownBlock ∧ some k_ ≠ (v405 : Value).ownBlock) (.slice (some ⟨go92, 0, none⟩) x7_3.length co29) y410 := (by rw [hw, Ny410.out]; exact HP94.1); clear HP94; have n0_ := Aside0.mk (Kd.R_after (v := (.slice (some ⟨go92, 0, none⟩) x7_3.length co29)) (v1 := (.slice (some ⟨go92, 0, none⟩) x7_3.length co29)) (ok := (fun k_ => some k_ ≠ (v405 : Value).ownBlock)) (by exact Kd.R_mono HO_6.out (fun _ hk => ⟨hk.2, hk.1⟩)) hg (.inl rfl)); have n1_ := Aside0.mk (hp_); have n2_ := Aside0.mk (Kd.R_after (v := (.slice (some ⟨go92, 0, none⟩) x7_3.length co29)) (v1 := (.slice (some ⟨go92, 0, none⟩) x7_3.length co29)) (ok := (fun k_ => some k_ ≠ (u6 : Value).ownBlock)) HO_8.out hg (.inl rfl)); have n3_ := Aside0.mk (blk_grown (g := gb396) (o := .cells #[.slice A0_0 l0_0.length c0_0, .slice A0_1 l0_1.length c0_1, .slice A0_2 l0_2.length c0_2] 33 (0, 0)) BK396.out hg (Kd.R_ne HO_7.out BK396.out (by decide))); have n4_ := Aside0.mk ((by rw [hw]; exact below_set (HB.out) GB92.out : Below w.heap.size w w95)); clear HO_6; clear HO_7; clear HO_8; clear BK396; clear HB; have HO_6 := n0_; have HO_7 := n1_; have HO_8 := n2_; have BK396 := n3_; have HB := n4_; clear n0_ n1_ n2_ n3_ n4_; clear hg hw hp_) | ((with_reducible refine gate_builtin (b := .append) (xs := #[.tmp 115, .tmp 117]) rfl ?_); at_builtin; refine Kd.R_append (Kd.int .i64) (w0 := w) w.heap.size rfl (.tmp 115) (.tmp 117) 22 2 (.int .i64 0) 8 rfl Try.underlying22 info2 rfl (by decide) (by omega) u6 x6_1 x11_3 [.int .i64 x11_3] (fun k_ => some k_ ≠ (.slice (some ⟨go92, 0, none⟩) x7_3.length co29 : Value).ownBlock ∧ some k_ ≠ (v405 : Value).ownBlock) (fun _ => False) rfl rfl ?aP (fun _ hk => hk.elim) ?aF ?aO ?aB ?aS ?aL ?_; (case aP => exact rfl); (case aB => exact HB.out); (case aF => exact (fun k_ hk => ⟨Kd.fresh' (Kd.R_lt HO_7.out) k_ hk, Kd.fresh' (Kd.R_lt HO_8.out) k_ hk⟩)); (case aO => exact (by exact Kd.R_mono HO_6.out (fun _ hk => ⟨hk.2, hk.1⟩))); (case aS => exact (below_size HB.out)); (case aL => have := LMc93.out; omega); intro v412 w96 ho hb hg hat; rw [← Ny411.out] at ho; have n0_ := Aside0.mk (Kd.R_after (ok := (fun k_ => some k_ ≠ (v405 : Value).ownBlock)) (by exact Kd.R_mono HO_7.out (fun _ hk => ⟨hk.2, hk.1⟩)) hg hat); have n1_ := Aside0.mk (Kd.R_after (ok := (fun k_ => some k_ ≠ (.slice (some ⟨go92, 0, none⟩) x7_3.length co29 : Value).ownBlock)) (by exact Kd.R_mono HO_8.out (fun _ hk => ⟨hk.2, hk.1⟩)) hg hat); have n2_ := Aside0.mk (blk_grown (g := gb396) (o := .cells #[.slice A0_0 l0_0.length c0_0, .slice A0_1 l0_1.length c0_1, .slice A0_2 l0_2.length c0_2] 33 (0, 0)) BK396.out hg (Kd.R_ne HO_6.out BK396.out (by decide))); have n3_ := Aside0.mk (hb); have n4_ := Aside0.mk (ho); clear HO_7; clear HO_8; clear BK396; clear HB; clear HO_6; have HO_7 := n0_; have HO_8 := n1_; have BK396 := n2_; have HB := n3_; have HO413 := n4_; clear n0_ n1_ n2_ n3_ n4_; clear ho hb hg hat))
      (try simp only [← hl7_3])
      go_roundg k3
      case measure => have := HK1.out; have := HK2.out; have := HK3.out; omega
      case rel => exact ⟨(y411), (y410), (x8_3), (wrap64 (x9_1 + 1)), (by rfl), H', ⟨by have := HK1.out; have := HK2.out; have := HK3.out; omega⟩, ⟨by (try simp only [hl7_3]); exact HO413.out⟩, ⟨by (try simp only [hl7_3]); exact Kd.R_mono HO_7.out (fun _ hk => ⟨hk.2, hk.1⟩)⟩, ⟨by (try simp only [hl7_3]); exact Kd.R_mono HO_8.out (fun _ hk => ⟨hk.2, hk.1⟩)⟩, ⟨by (try simp only [hl7_3]); exact BK396.out⟩, ⟨by exact HB.out⟩⟩
    rw [if_pos c30] at H
    have c30b0 : decide (x12_3 < (x7_3.length : Int)) = true := decide_eq_true c30
    clear c30
    by_cases c31 : 0 ≤ x12_3
    rotate_left
    · rw [if_neg c31] at H
      exact absurd H (by simp)
    rw [if_pos c31] at H
    have c31b0 : decide (0 ≤ x12_3) = true := decide_eq_true c31
    clear c31
    by_cases c32 : x12_3 < (l0_1.length : Int)
    rotate_left
    · rw [if_neg c32] at H
      exact absurd H (by simp)
    rw [if_pos c32] at H
    have c32b0 : decide (x12_3 < (l0_1.length : Int)) = true := decide_eq_true c32
    clear c32
    by_cases c33 : (rd l0_1 x12_3) = 0
    · rw [if_pos c33] at H
      exact absurd H (by simp)
    rw [if_neg c33] at H
    have c33b0 : ((rd l0_1 x12_3) == 0) = false := beq_eq_false_iff_ne.mpr c33
    have c33b1 : ((rd l0_1 x12_3) != 0) = true := bne_iff_ne.mpr c33
    by_cases c34 : (Int.tmod x9_1 (rd l0_1 x12_3)) = 0
    rotate_left
    · rw [if_neg c34] at H
      have c34b0 : ((Int.tmod x9_1 (rd l0_1 x12_3)) == 0) = false := beq_eq_false_iff_ne.mpr c34
      have c34b1 : ((Int.tmod x9_1 (rd l0_1 x12_3)) != 0) = true := bne_iff_ne.mpr c34
      by_cases c73 : (rd x7_3 x12_3) > 0
      rotate_left
      · rw [if_neg c73] at H
        have c73b0 : decide (0 < (rd x7_3 x12_3)) = false := decide_eq_false c73
        clear c73
        have H' := Aside0.mk H
        clear H
        have hcz87_0 : wr.cell? ⟨gb396, 0, none⟩ = some (.slice A0_0 l0_0.length c0_0) := (blk_cell BK396.out 0).trans rfl
        have hcz87_1 : wr.cell? ⟨gb396, 1, none⟩ = some (.slice A0_1 l0_1.length c0_1) := (blk_cell BK396.out 1).trans rfl
        have hcz87_2 : wr.cell? ⟨gb396, 2, none⟩ = some (.slice A0_2 l0_2.length c0_2) := (blk_cell BK396.out 2).trans rfl
        have hfz87_0 := blk_frozen BK396.out 0
        have hfz87_1 := blk_frozen BK396.out 1
        have hfz87_2 := blk_frozen BK396.out 2
        have p417 : 0 ≤ (x12_3 : Int) := of_decide_eq_true (by (with_reducible assumption))
        have q417 : x12_3 < (l0_1.length : Int) := of_decide_eq_true (by (with_reducible assumption))
        obtain ⟨ad417, e417, hx417_0⟩ := Kd.at_int HR0_1.out x12_3 p417 q417
        cases e417
        replace hx417_0 := (HB.out.cell (World.block_lt_of_cell? w _ hx417_0)).trans hx417_0
        replace p417 := eq_true p417
        replace q417 := eq_true q417
        try go_wp2
        have n0_ := Aside0.mk (Kd.R_drew HO_6.out)
        have n1_ := Aside0.mk (Kd.R_drew HO_7.out)
        have n2_ := Aside0.mk (Kd.R_drew HO_8.out)
        have n3_ := Aside0.mk (blk_drew BK396.out)
        have n4_ := Aside0.mk (below_drew1 HB.out)
        clear HO_6
        clear HO_7
        clear HO_8
        clear BK396
        clear HB
        have HO_6 := n0_
        have HO_7 := n1_
        have HO_8 := n2_
        have BK396 := n3_
        have HB := n4_
        clear n0_ n1_ n2_ n3_ n4_
        have p425 : 0 ≤ (x12_3 : Int) := of_decide_eq_true (by (with_reducible assumption))
        have q425 : x12_3 < (x7_3.length : Int) := of_decide_eq_true (by (with_reducible assumption))
        obtain ⟨ad425, e425, hx425_0⟩ := Kd.at_int (Kd.R_reads' HO_7.out).2.2 x12_3 p425 q425
        cases e425
        replace p425 := eq_true p425
        replace q425 := eq_true q425
        refine start_ (n := 20) (S := fun w' => w'.cell? (ad425.add (x12_3).toNat) = some (.int .i64 (rd x7_3 x12_3))) (ds := []) bQ69_13 (by kernel_rfl) rfl rfl (hx425_0) (fun hHeld => ?_); refine with_tabW spec_l04Slots.tab19 spec_l04Slots.bits19 (fun HT_ HW_ => ?_)
        generalize wr.drew = w88 at HO_6 HO_7 HO_8 BK396 HB hx425_0 hHeld ⊢
        refine pure_ (i := 0) (N := some 86) (v := ?_) (a' := ?_) bQ69_14 rfl rfl (any_of HT_.out (by kernel_rfl)) (fun _ _ _ h => h) (Or.inl ⟨by rfl, ?_⟩) ?_ ?_
        rotate_left
        · intro w'
          go_simp
          with_reducible rfl
        rotate_left
        · simp only [Act.put, List.setIfInBounds_toArray, List.set_cons_zero, List.set_cons_succ, i64_w, i32_w]
          rfl
        refine pure_ (i := 1) (N := some 87) (v := ?_) (a' := ?_) bQ69_15 rfl rfl (any_of HT_.out (by kernel_rfl)) (fun _ _ _ h => h) (Or.inl ⟨by rfl, ?_⟩) ?_ ?_
        rotate_left
        · intro w'
          go_simp
          with_reducible rfl
        rotate_left
        · simp only [Act.put, List.setIfInBounds_toArray, List.set_cons_zero, List.set_cons_succ, i64_w, i32_w]
          rfl
        refine pure_ (i := 2) (N := some 88) (v := ?_) (a' := ?_) bQ69_16 rfl rfl (any_of HT_.out (by kernel_rfl)) (fun _ _ _ h => h) (Or.inl ⟨by rfl, ?_⟩) ?_ ?_
        rotate_left
        · intro w'
          go_simp
          with_reducible rfl
        rotate_left
        · simp only [Act.put, List.setIfInBounds_toArray, List.set_cons_zero, List.set_cons_succ, i64_w, i32_w]
          rfl
        refine take_ (i := 3) (N := some 89) (v := ?_) (a' := ?_) bQ69_17 rfl rfl (take_ofW HT_.out HW_.out (by kernel_rfl)) (fun _ _ _ h => h) (Or.inl ⟨by rfl, ?_⟩) hHeld ?_ ?_
        rotate_left
        · intro w' s0
          go_simp
          with_reducible rfl
        rotate_left
        · simp only [Act.put, List.setIfInBounds_toArray, List.set_cons_zero, List.set_cons_succ, i64_w, i32_w]
          rfl
        refine pure_ (i := 4) (N := some 90) (v := ?_) (a' := ?_) bQ69_18 rfl rfl (any_of HT_.out (by kernel_rfl)) (fun _ _ _ h => h) (Or.inl ⟨by rfl, ?_⟩) ?_ ?_
        rotate_left
        · intro w'
          go_simp
          with_reducible rfl
        rotate_left
        · simp only [Act.put, List.setIfInBounds_toArray, List.set_cons_zero, List.set_cons_succ, i64_w, i32_w]
          rfl
        refine pure_ (i := 5) (N := some 91) (v := ?_) (a' := ?_) bQ69_19 rfl rfl (any_of HT_.out (by kernel_rfl)) (fun _ _ _ h => h) (Or.inl ⟨by rfl, ?_⟩) ?_ ?_
        rotate_left
        · intro w'
          go_simp
          with_reducible rfl
        rotate_left
        · simp only [Act.put, List.setIfInBounds_toArray, List.set_cons_zero, List.set_cons_succ, i64_w, i32_w]
          rfl
        refine pure_ (i := 6) (N := some 92) (v := undef) (a' := ?_) bQ69_20 rfl rfl (any_of HT_.out (by kernel_rfl)) (fun _ _ _ h => h) (Or.inr ⟨by rfl, rfl⟩) ?_ ?_
        rotate_left
        · simp only [Act.put, List.setIfInBounds_toArray, List.set_cons_zero, List.set_cons_succ, i64_w, i32_w]
          rfl
        refine pure_ (i := 7) (N := some 93) (v := undef) (a' := ?_) bQ69_21 rfl rfl (any_of HT_.out (by kernel_rfl)) (fun _ _ _ h => h) (Or.inr ⟨by rfl, rfl⟩) ?_ ?_
        rotate_left
        · simp only [Act.put, List.setIfInBounds_toArray, List.set_cons_zero, List.set_cons_succ, i64_w, i32_w]
          rfl
        refine pure_ (i := 8) (N := some 94) (v := undef) (a' := ?_) bQ69_22 rfl rfl (any_of HT_.out (by kernel_rfl)) (fun _ _ _ h => h) (Or.inr ⟨by rfl, rfl⟩) ?_ ?_
        rotate_left
        · simp only [Act.put, List.setIfInBounds_toArray, List.set_cons_zero, List.set_cons_succ, i64_w, i32_w]
          rfl
        refine pure_ (i := 9) (N := some 95) (v := undef) (a' := ?_) bQ69_23 rfl rfl (any_of HT_.out (by kernel_rfl)) (fun _ _ _ h => h) (Or.inr ⟨by rfl, rfl⟩) ?_ ?_
        rotate_left
        · simp only [Act.put, List.setIfInBounds_toArray, List.set_cons_zero, List.set_cons_succ, i64_w, i32_w]
          rfl
        refine pure_ (i := 10) (N := some 96) (v := undef) (a' := ?_) bQ69_24 rfl rfl (any_of HT_.out (by kernel_rfl)) (fun _ _ _ h => h) (Or.inr ⟨by rfl, rfl⟩) ?_ ?_
        rotate_left
        · simp only [Act.put, List.setIfInBounds_toArray, List.set_cons_zero, List.set_cons_succ, i64_w, i32_w]
          rfl
        refine pure_ (i := 11) (N := some 97) (v := undef) (a' := ?_) bQ69_25 rfl rfl (any_of HT_.out (by kernel_rfl)) (fun _ _ _ h => h) (Or.inr ⟨by rfl, rfl⟩) ?_ ?_
        rotate_left
        · simp only [Act.put, List.setIfInBounds_toArray, List.set_cons_zero, List.set_cons_succ, i64_w, i32_w]
          rfl
        refine pure_ (i := 12) (N := some 98) (v := undef) (a' := ?_) bQ69_26 rfl rfl (any_of HT_.out (by kernel_rfl)) (fun _ _ _ h => h) (Or.inr ⟨by rfl, rfl⟩) ?_ ?_
        rotate_left
        · simp only [Act.put, List.setIfInBounds_toArray, List.set_cons_zero, List.set_cons_succ, i64_w, i32_w]
          rfl
        refine pure_ (i := 13) (N := some 99) (v := undef) (a' := ?_) bQ69_27 rfl rfl (any_of HT_.out (by kernel_rfl)) (fun _ _ _ h => h) (Or.inr ⟨by rfl, rfl⟩) ?_ ?_
        rotate_left
        · simp only [Act.put, List.setIfInBounds_toArray, List.set_cons_zero, List.set_cons_succ, i64_w, i32_w]
          rfl
        refine pure_ (i := 14) (N := some 100) (v := undef) (a' := ?_) bQ69_28 rfl rfl (any_of HT_.out (by kernel_rfl)) (fun _ _ _ h => h) (Or.inr ⟨by rfl, rfl⟩) ?_ ?_
        rotate_left
        · simp only [Act.put, List.setIfInBounds_toArray, List.set_cons_zero, List.set_cons_succ, i64_w, i32_w]
          rfl
        refine pure_ (i := 15) (N := some 101) (v := undef) (a' := ?_) bQ69_29 rfl rfl (any_of HT_.out (by kernel_rfl)) (fun _ _ _ h => h) (Or.inr ⟨by rfl, rfl⟩) ?_ ?_
        rotate_left
        · simp only [Act.put, List.setIfInBounds_toArray, List.set_cons_zero, List.set_cons_succ, i64_w, i32_w]
          rfl
        refine pure_ (i := 16) (N := some 102) (v := undef) (a' := ?_) bQ69_30 rfl rfl (any_of HT_.out (by kernel_rfl)) (fun _ _ _ h => h) (Or.inr ⟨by rfl, rfl⟩) ?_ ?_
        rotate_left
        · simp only [Act.put, List.setIfInBounds_toArray, List.set_cons_zero, List.set_cons_succ, i64_w, i32_w]
          rfl
        refine pure_ (i := 17) (N := some 103) (v := undef) (a' := ?_) bQ69_31 rfl rfl (any_of HT_.out (by kernel_rfl)) (fun _ _ _ h => h) (Or.inr ⟨by rfl, rfl⟩) ?_ ?_
        rotate_left
        · simp only [Act.put, List.setIfInBounds_toArray, List.set_cons_zero, List.set_cons_succ, i64_w, i32_w]
          rfl
        refine pure_ (i := 18) (N := some 104) (v := undef) (a' := ?_) bQ69_32 rfl rfl (any_of HT_.out (by kernel_rfl)) (fun _ _ _ h => h) (Or.inr ⟨by rfl, rfl⟩) ?_ ?_
        rotate_left
        · simp only [Act.put, List.setIfInBounds_toArray, List.set_cons_zero, List.set_cons_succ, i64_w, i32_w]
          rfl
        refine pure_ (i := 19) (N := some 105) (v := ?_) (a' := ?_) bQ69_33 rfl rfl (any_of HT_.out (by kernel_rfl)) (fun _ _ _ h => h) (Or.inl ⟨by rfl, ?_⟩) ?_ ?_
        rotate_left
        · intro w'
          go_simp
          with_reducible rfl
        rotate_left
        · simp only [Act.put, List.setIfInBounds_toArray, List.set_cons_zero, List.set_cons_succ, i64_w, i32_w]
          rfl
        refine done_ (done_of HT_.out (by kernel_rfl)) ?_
        try go_wp2
        (try simp only [← hl7_3])
        go_roundg k3
        case measure => have := HK1.out; have := HK2.out; have := HK3.out; omega
        case rel => exact ⟨(x7_3), (x8_3), (x11_3), (wrap64 (x12_3 + 1)), (by rfl), (by rfl), H', ⟨by have := HK1.out; have := HK2.out; have := HK3.out; omega⟩, ⟨by (try simp only [hl7_3]); exact HO_6.out⟩, ⟨by (try simp only [hl7_3]); exact HO_7.out⟩, ⟨by (try simp only [hl7_3]); exact HO_8.out⟩, ⟨by (try simp only [hl7_3]); exact BK396.out⟩, ⟨by exact HB.out⟩⟩
      rw [if_pos c73] at H
      have c73b0 : decide (0 < (rd x7_3 x12_3)) = true := decide_eq_true c73
      clear c73
      by_cases c74 : x11_3 < 0
      · rw [if_pos c74] at H
        have c74b0 : decide (x11_3 < 0) = true := decide_eq_true c74
        clear c74
        have H' := Aside0.mk H
        clear H
        have hcz75_0 : wr.cell? ⟨gb396, 0, none⟩ = some (.slice A0_0 l0_0.length c0_0) := (blk_cell BK396.out 0).trans rfl
        have hcz75_1 : wr.cell? ⟨gb396, 1, none⟩ = some (.slice A0_1 l0_1.length c0_1) := (blk_cell BK396.out 1).trans rfl
        have hcz75_2 : wr.cell? ⟨gb396, 2, none⟩ = some (.slice A0_2 l0_2.length c0_2) := (blk_cell BK396.out 2).trans rfl
        have hfz75_0 := blk_frozen BK396.out 0
        have hfz75_1 := blk_frozen BK396.out 1
        have hfz75_2 := blk_frozen BK396.out 2
        have p417 : 0 ≤ (x12_3 : Int) := of_decide_eq_true (by (with_reducible assumption))
        have q417 : x12_3 < (l0_1.length : Int) := of_decide_eq_true (by (with_reducible assumption))
        obtain ⟨ad417, e417, hx417_0⟩ := Kd.at_int HR0_1.out x12_3 p417 q417
        cases e417
        replace hx417_0 := (HB.out.cell (World.block_lt_of_cell? w _ hx417_0)).trans hx417_0
        replace p417 := eq_true p417
        replace q417 := eq_true q417
        try go_wp2
        have n0_ := Aside0.mk (Kd.R_drew HO_6.out)
        have n1_ := Aside0.mk (Kd.R_drew HO_7.out)
        have n2_ := Aside0.mk (Kd.R_drew HO_8.out)
        have n3_ := Aside0.mk (blk_drew BK396.out)
        have n4_ := Aside0.mk (below_drew1 HB.out)
        clear HO_6
        clear HO_7
        clear HO_8
        clear BK396
        clear HB
        have HO_6 := n0_
        have HO_7 := n1_
        have HO_8 := n2_
        have BK396 := n3_
        have HB := n4_
        clear n0_ n1_ n2_ n3_ n4_
        have p425 : 0 ≤ (x12_3 : Int) := of_decide_eq_true (by (with_reducible assumption))
        have q425 : x12_3 < (x7_3.length : Int) := of_decide_eq_true (by (with_reducible assumption))
        obtain ⟨ad425, e425, hx425_0⟩ := Kd.at_int (Kd.R_reads' HO_7.out).2.2 x12_3 p425 q425
        cases e425
        replace p425 := eq_true p425
        replace q425 := eq_true q425
        refine start_ (n := 20) (S := fun w' => w'.cell? (ad425.add (x12_3).toNat) = some (.int .i64 (rd x7_3 x12_3))) (ds := []) bQ69_13 (by kernel_rfl) rfl rfl (hx425_0) (fun hHeld => ?_); refine with_tabW spec_l04Slots.tab19 spec_l04Slots.bits19 (fun HT_ HW_ => ?_)
        generalize wr.drew = w76 at HO_6 HO_7 HO_8 BK396 HB hx425_0 hHeld ⊢
        refine pure_ (i := 0) (N := some 86) (v := ?_) (a' := ?_) bQ69_14 rfl rfl (any_of HT_.out (by kernel_rfl)) (fun _ _ _ h => h) (Or.inl ⟨by rfl, ?_⟩) ?_ ?_
        rotate_left
        · intro w'
          go_simp
          with_reducible rfl
        rotate_left
        · simp only [Act.put, List.setIfInBounds_toArray, List.set_cons_zero, List.set_cons_succ, i64_w, i32_w]
          rfl
        refine pure_ (i := 1) (N := some 87) (v := ?_) (a' := ?_) bQ69_15 rfl rfl (any_of HT_.out (by kernel_rfl)) (fun _ _ _ h => h) (Or.inl ⟨by rfl, ?_⟩) ?_ ?_
        rotate_left
        · intro w'
          go_simp
          with_reducible rfl
        rotate_left
        · simp only [Act.put, List.setIfInBounds_toArray, List.set_cons_zero, List.set_cons_succ, i64_w, i32_w]
          rfl
        refine pure_ (i := 2) (N := some 88) (v := ?_) (a' := ?_) bQ69_16 rfl rfl (any_of HT_.out (by kernel_rfl)) (fun _ _ _ h => h) (Or.inl ⟨by rfl, ?_⟩) ?_ ?_
        rotate_left
        · intro w'
          go_simp
          with_reducible rfl
        rotate_left
        · simp only [Act.put, List.setIfInBounds_toArray, List.set_cons_zero, List.set_cons_succ, i64_w, i32_w]
          rfl
        refine take_ (i := 3) (N := some 89) (v := ?_) (a' := ?_) bQ69_17 rfl rfl (take_ofW HT_.out HW_.out (by kernel_rfl)) (fun _ _ _ h => h) (Or.inl ⟨by rfl, ?_⟩) hHeld ?_ ?_
        rotate_left
        · intro w' s0
          go_simp
          with_reducible rfl
        rotate_left
        · simp only [Act.put, List.setIfInBounds_toArray, List.set_cons_zero, List.set_cons_succ, i64_w, i32_w]
          rfl
        refine pure_ (i := 4) (N := some 90) (v := ?_) (a' := ?_) bQ69_18 rfl rfl (any_of HT_.out (by kernel_rfl)) (fun _ _ _ h => h) (Or.inl ⟨by rfl, ?_⟩) ?_ ?_
        rotate_left
        · intro w'
          go_simp
          with_reducible rfl
        rotate_left
        · simp only [Act.put, List.setIfInBounds_toArray, List.set_cons_zero, List.set_cons_succ, i64_w, i32_w]
          rfl
        refine pure_ (i := 5) (N := some 91) (v := ?_) (a' := ?_) bQ69_19 rfl rfl (any_of HT_.out (by kernel_rfl)) (fun _ _ _ h => h) (Or.inl ⟨by rfl, ?_⟩) ?_ ?_
        rotate_left
        · intro w'
          go_simp
          with_reducible rfl
        rotate_left
        · simp only [Act.put, List.setIfInBounds_toArray, List.set_cons_zero, List.set_cons_succ, i64_w, i32_w]
          rfl
        refine pure_ (i := 6) (N := some 92) (v := ?_) (a' := ?_) bQ69_20 rfl rfl (any_of HT_.out (by kernel_rfl)) (fun _ _ _ h => h) (Or.inl ⟨by rfl, ?_⟩) ?_ ?_
        rotate_left
        · intro w'
          go_simp
          with_reducible rfl
        rotate_left
        · simp only [Act.put, List.setIfInBounds_toArray, List.set_cons_zero, List.set_cons_succ, i64_w, i32_w]
          rfl
        refine pure_ (i := 7) (N := some 93) (v := ?_) (a' := ?_) bQ69_21 rfl rfl (any_of HT_.out (by kernel_rfl)) (fun _ _ _ h => h) (Or.inl ⟨by rfl, ?_⟩) ?_ ?_
        rotate_left
        · intro w'
          go_simp
          with_reducible rfl
        rotate_left
        · simp only [Act.put, List.setIfInBounds_toArray, List.set_cons_zero, List.set_cons_succ, i64_w, i32_w]
          rfl
        refine pure_ (i := 8) (N := some 94) (v := ?_) (a' := ?_) bQ69_22 rfl rfl (any_of HT_.out (by kernel_rfl)) (fun _ _ _ h => h) (Or.inl ⟨by rfl, ?_⟩) ?_ ?_
        rotate_left
        · intro w'
          go_simp
          with_reducible rfl
        rotate_left
        · simp only [Act.put, List.setIfInBounds_toArray, List.set_cons_zero, List.set_cons_succ, i64_w, i32_w]
          rfl
        refine pure_ (i := 9) (N := some 95) (v := undef) (a' := ?_) bQ69_23 rfl rfl (any_of HT_.out (by kernel_rfl)) (fun _ _ _ h => h) (Or.inr ⟨by rfl, rfl⟩) ?_ ?_
        rotate_left
        · simp only [Act.put, List.setIfInBounds_toArray, List.set_cons_zero, List.set_cons_succ, i64_w, i32_w]
          rfl
        refine pure_ (i := 10) (N := some 96) (v := undef) (a' := ?_) bQ69_24 rfl rfl (any_of HT_.out (by kernel_rfl)) (fun _ _ _ h => h) (Or.inr ⟨by rfl, rfl⟩) ?_ ?_
        rotate_left
        · simp only [Act.put, List.setIfInBounds_toArray, List.set_cons_zero, List.set_cons_succ, i64_w, i32_w]
          rfl
        refine pure_ (i := 11) (N := some 97) (v := undef) (a' := ?_) bQ69_25 rfl rfl (any_of HT_.out (by kernel_rfl)) (fun _ _ _ h => h) (Or.inr ⟨by rfl, rfl⟩) ?_ ?_
        rotate_left
        · simp only [Act.put, List.setIfInBounds_toArray, List.set_cons_zero, List.set_cons_succ, i64_w, i32_w]
          rfl
        refine pure_ (i := 12) (N := some 98) (v := undef) (a' := ?_) bQ69_26 rfl rfl (any_of HT_.out (by kernel_rfl)) (fun _ _ _ h => h) (Or.inr ⟨by rfl, rfl⟩) ?_ ?_
        rotate_left
        · simp only [Act.put, List.setIfInBounds_toArray, List.set_cons_zero, List.set_cons_succ, i64_w, i32_w]
          rfl
        refine pure_ (i := 13) (N := some 99) (v := undef) (a' := ?_) bQ69_27 rfl rfl (any_of HT_.out (by kernel_rfl)) (fun _ _ _ h => h) (Or.inr ⟨by rfl, rfl⟩) ?_ ?_
        rotate_left
        · simp only [Act.put, List.setIfInBounds_toArray, List.set_cons_zero, List.set_cons_succ, i64_w, i32_w]
          rfl
        refine pure_ (i := 14) (N := some 100) (v := undef) (a' := ?_) bQ69_28 rfl rfl (any_of HT_.out (by kernel_rfl)) (fun _ _ _ h => h) (Or.inr ⟨by rfl, rfl⟩) ?_ ?_
        rotate_left
        · simp only [Act.put, List.setIfInBounds_toArray, List.set_cons_zero, List.set_cons_succ, i64_w, i32_w]
          rfl
        refine pure_ (i := 15) (N := some 101) (v := undef) (a' := ?_) bQ69_29 rfl rfl (any_of HT_.out (by kernel_rfl)) (fun _ _ _ h => h) (Or.inr ⟨by rfl, rfl⟩) ?_ ?_
        rotate_left
        · simp only [Act.put, List.setIfInBounds_toArray, List.set_cons_zero, List.set_cons_succ, i64_w, i32_w]
          rfl
        refine pure_ (i := 16) (N := some 102) (v := undef) (a' := ?_) bQ69_30 rfl rfl (any_of HT_.out (by kernel_rfl)) (fun _ _ _ h => h) (Or.inr ⟨by rfl, rfl⟩) ?_ ?_
        rotate_left
        · simp only [Act.put, List.setIfInBounds_toArray, List.set_cons_zero, List.set_cons_succ, i64_w, i32_w]
          rfl
        refine pure_ (i := 17) (N := some 103) (v := undef) (a' := ?_) bQ69_31 rfl rfl (any_of HT_.out (by kernel_rfl)) (fun _ _ _ h => h) (Or.inr ⟨by rfl, rfl⟩) ?_ ?_
        rotate_left
        · simp only [Act.put, List.setIfInBounds_toArray, List.set_cons_zero, List.set_cons_succ, i64_w, i32_w]
          rfl
        refine pure_ (i := 18) (N := some 104) (v := ?_) (a' := ?_) bQ69_32 rfl rfl (any_of HT_.out (by kernel_rfl)) (fun _ _ _ h => h) (Or.inl ⟨by rfl, ?_⟩) ?_ ?_
        rotate_left
        · intro w'
          go_simp
          with_reducible rfl
        rotate_left
        · simp only [Act.put, List.setIfInBounds_toArray, List.set_cons_zero, List.set_cons_succ, i64_w, i32_w]
          rfl
        refine pure_ (i := 19) (N := some 105) (v := ?_) (a' := ?_) bQ69_33 rfl rfl (any_of HT_.out (by kernel_rfl)) (fun _ _ _ h => h) (Or.inl ⟨by rfl, ?_⟩) ?_ ?_
        rotate_left
        · intro w'
          go_simp
          with_reducible rfl
        rotate_left
        · simp only [Act.put, List.setIfInBounds_toArray, List.set_cons_zero, List.set_cons_succ, i64_w, i32_w]
          rfl
        refine done_ (done_of HT_.out (by kernel_rfl)) ?_
        try go_wp2
        (try simp only [← hl7_3])
        go_roundg k3
        case measure => have := HK1.out; have := HK2.out; have := HK3.out; omega
        case rel => exact ⟨(x7_3), (x8_3), (x12_3), (wrap64 (x12_3 + 1)), (by rfl), (by rfl), H', ⟨by have := HK1.out; have := HK2.out; have := HK3.out; omega⟩, ⟨by (try simp only [hl7_3]); exact HO_6.out⟩, ⟨by (try simp only [hl7_3]); exact HO_7.out⟩, ⟨by (try simp only [hl7_3]); exact HO_8.out⟩, ⟨by (try simp only [hl7_3]); exact BK396.out⟩, ⟨by exact HB.out⟩⟩
      rw [if_neg c74] at H
      have c74b0 : decide (x11_3 < 0) = false := decide_eq_false c74
      clear c74
      by_cases c77 : x12_3 < (x8_3.length : Int)
      rotate_left
      · rw [if_neg c77] at H
        exact absurd H (by simp)
      rw [if_pos c77] at H
      have c77b0 : decide (x12_3 < (x8_3.length : Int)) = true := decide_eq_true c77
      clear c77
      by_cases c78 : 0 ≤ x11_3
      rotate_left
      · rw [if_neg c78] at H
        exact absurd H (by simp)
      rw [if_pos c78] at H
      have c78b0 : decide (0 ≤ x11_3) = true := decide_eq_true c78
      clear c78
      by_cases c79 : x11_3 < (x8_3.length : Int)
      rotate_left
      · rw [if_neg c79] at H
        exact absurd H (by simp)
      rw [if_pos c79] at H
      have c79b0 : decide (x11_3 < (x8_3.length : Int)) = true := decide_eq_true c79
      clear c79
      by_cases c80 : (rd x8_3 x12_3) < (rd x8_3 x11_3)
      · rw [if_pos c80] at H
        have c80b0 : decide ((rd x8_3 x12_3) < (rd x8_3 x11_3)) = true := decide_eq_true c80
        clear c80
        have H' := Aside0.mk H
        clear H
        have hcz81_0 : wr.cell? ⟨gb396, 0, none⟩ = some (.slice A0_0 l0_0.length c0_0) := (blk_cell BK396.out 0).trans rfl
        have hcz81_1 : wr.cell? ⟨gb396, 1, none⟩ = some (.slice A0_1 l0_1.length c0_1) := (blk_cell BK396.out 1).trans rfl
        have hcz81_2 : wr.cell? ⟨gb396, 2, none⟩ = some (.slice A0_2 l0_2.length c0_2) := (blk_cell BK396.out 2).trans rfl
        have hfz81_0 := blk_frozen BK396.out 0
        have hfz81_1 := blk_frozen BK396.out 1
        have hfz81_2 := blk_frozen BK396.out 2
        have p417 : 0 ≤ (x12_3 : Int) := of_decide_eq_true (by (with_reducible assumption))
        have q417 : x12_3 < (l0_1.length : Int) := of_decide_eq_true (by (with_reducible assumption))
        obtain ⟨ad417, e417, hx417_0⟩ := Kd.at_int HR0_1.out x12_3 p417 q417
        cases e417
        replace hx417_0 := (HB.out.cell (World.block_lt_of_cell? w _ hx417_0)).trans hx417_0
        replace p417 := eq_true p417
        replace q417 := eq_true q417
        try go_wp2
        have n0_ := Aside0.mk (Kd.R_drew HO_6.out)
        have n1_ := Aside0.mk (Kd.R_drew HO_7.out)
        have n2_ := Aside0.mk (Kd.R_drew HO_8.out)
        have n3_ := Aside0.mk (blk_drew BK396.out)
        have n4_ := Aside0.mk (below_drew1 HB.out)
        clear HO_6
        clear HO_7
        clear HO_8
        clear BK396
        clear HB
        have HO_6 := n0_
        have HO_7 := n1_
        have HO_8 := n2_
        have BK396 := n3_
        have HB := n4_
        clear n0_ n1_ n2_ n3_ n4_
        have p425 : 0 ≤ (x12_3 : Int) := of_decide_eq_true (by (with_reducible assumption))
        have q425 : x12_3 < (x7_3.length : Int) := of_decide_eq_true (by (with_reducible assumption))
        obtain ⟨ad425, e425, hx425_0⟩ := Kd.at_int (Kd.R_reads' HO_7.out).2.2 x12_3 p425 q425
        cases e425
        replace p425 := eq_true p425
        replace q425 := eq_true q425
        obtain ⟨Ao83, co83, eo83⟩ := Kd.R_slice HO_8.out
        (subst eo83)
        have p426 : 0 ≤ (x12_3 : Int) := of_decide_eq_true (by (with_reducible assumption))
        have q426 : x12_3 < (x8_3.length : Int) := of_decide_eq_true (by (with_reducible assumption))
        obtain ⟨ad426, e426, hx426_0⟩ := Kd.at_int (Kd.R_reads' HO_8.out).2.2 x12_3 p426 q426
        cases e426
        replace p426 := eq_true p426
        replace q426 := eq_true q426
        have p427 : 0 ≤ (x11_3 : Int) := of_decide_eq_true (by (with_reducible assumption))
        have q427 : x11_3 < (x8_3.length : Int) := of_decide_eq_true (by (with_reducible assumption))
        obtain ⟨ad427, e427, hx427_0⟩ := Kd.at_int (Kd.R_reads' HO_8.out).2.2 x11_3 p427 q427
        obtain rfl : ad426 = ad427 := (by injection e427)
        replace p427 := eq_true p427
        replace q427 := eq_true q427
        refine start_ (n := 20) (S := fun w' => w'.cell? (ad425.add (x12_3).toNat) = some (.int .i64 (rd x7_3 x12_3)) ∧ w'.cell? (ad426.add (x12_3).toNat) = some (.int .i64 (rd x8_3 x12_3)) ∧ w'.cell? (ad426.add (x11_3).toNat) = some (.int .i64 (rd x8_3 x11_3))) (ds := []) bQ69_13 (by kernel_rfl) rfl rfl ⟨hx425_0, hx426_0, hx427_0⟩ (fun hHeld => ?_); refine with_tabW spec_l04Slots.tab19 spec_l04Slots.bits19 (fun HT_ HW_ => ?_)
        generalize wr.drew = w82 at HO_6 HO_7 HO_8 BK396 HB hx425_0 hx426_0 hx427_0 hHeld ⊢
        refine pure_ (i := 0) (N := some 86) (v := ?_) (a' := ?_) bQ69_14 rfl rfl (any_of HT_.out (by kernel_rfl)) (fun _ _ _ h => h) (Or.inl ⟨by rfl, ?_⟩) ?_ ?_
        rotate_left
        · intro w'
          go_simp
          with_reducible rfl
        rotate_left
        · simp only [Act.put, List.setIfInBounds_toArray, List.set_cons_zero, List.set_cons_succ, i64_w, i32_w]
          rfl
        refine pure_ (i := 1) (N := some 87) (v := ?_) (a' := ?_) bQ69_15 rfl rfl (any_of HT_.out (by kernel_rfl)) (fun _ _ _ h => h) (Or.inl ⟨by rfl, ?_⟩) ?_ ?_
        rotate_left
        · intro w'
          go_simp
          with_reducible rfl
        rotate_left
        · simp only [Act.put, List.setIfInBounds_toArray, List.set_cons_zero, List.set_cons_succ, i64_w, i32_w]
          rfl
        refine pure_ (i := 2) (N := some 88) (v := ?_) (a' := ?_) bQ69_16 rfl rfl (any_of HT_.out (by kernel_rfl)) (fun _ _ _ h => h) (Or.inl ⟨by rfl, ?_⟩) ?_ ?_
        rotate_left
        · intro w'
          go_simp
          with_reducible rfl
        rotate_left
        · simp only [Act.put, List.setIfInBounds_toArray, List.set_cons_zero, List.set_cons_succ, i64_w, i32_w]
          rfl
        refine take_ (i := 3) (N := some 89) (v := ?_) (a' := ?_) bQ69_17 rfl rfl (take_ofW HT_.out HW_.out (by kernel_rfl)) (fun _ _ _ h => h) (Or.inl ⟨by rfl, ?_⟩) hHeld ?_ ?_
        rotate_left
        · rintro w' ⟨s0, s1, s2⟩
          go_simp
          with_reducible rfl
        rotate_left
        · simp only [Act.put, List.setIfInBounds_toArray, List.set_cons_zero, List.set_cons_succ, i64_w, i32_w]
          rfl
        refine pure_ (i := 4) (N := some 90) (v := ?_) (a' := ?_) bQ69_18 rfl rfl (any_of HT_.out (by kernel_rfl)) (fun _ _ _ h => h) (Or.inl ⟨by rfl, ?_⟩) ?_ ?_
        rotate_left
        · intro w'
          go_simp
          with_reducible rfl
        rotate_left
        · simp only [Act.put, List.setIfInBounds_toArray, List.set_cons_zero, List.set_cons_succ, i64_w, i32_w]
          rfl
        refine pure_ (i := 5) (N := some 91) (v := ?_) (a' := ?_) bQ69_19 rfl rfl (any_of HT_.out (by kernel_rfl)) (fun _ _ _ h => h) (Or.inl ⟨by rfl, ?_⟩) ?_ ?_
        rotate_left
        · intro w'
          go_simp
          with_reducible rfl
        rotate_left
        · simp only [Act.put, List.setIfInBounds_toArray, List.set_cons_zero, List.set_cons_succ, i64_w, i32_w]
          rfl
        refine pure_ (i := 6) (N := some 92) (v := ?_) (a' := ?_) bQ69_20 rfl rfl (any_of HT_.out (by kernel_rfl)) (fun _ _ _ h => h) (Or.inl ⟨by rfl, ?_⟩) ?_ ?_
        rotate_left
        · intro w'
          go_simp
          with_reducible rfl
        rotate_left
        · simp only [Act.put, List.setIfInBounds_toArray, List.set_cons_zero, List.set_cons_succ, i64_w, i32_w]
          rfl
        refine pure_ (i := 7) (N := some 93) (v := ?_) (a' := ?_) bQ69_21 rfl rfl (any_of HT_.out (by kernel_rfl)) (fun _ _ _ h => h) (Or.inl ⟨by rfl, ?_⟩) ?_ ?_
        rotate_left
        · intro w'
          go_simp
          with_reducible rfl
        rotate_left
        · simp only [Act.put, List.setIfInBounds_toArray, List.set_cons_zero, List.set_cons_succ, i64_w, i32_w]
          rfl
        refine pure_ (i := 8) (N := some 94) (v := ?_) (a' := ?_) bQ69_22 rfl rfl (any_of HT_.out (by kernel_rfl)) (fun _ _ _ h => h) (Or.inl ⟨by rfl, ?_⟩) ?_ ?_
        rotate_left
        · intro w'
          go_simp
          with_reducible rfl
        rotate_left
        · simp only [Act.put, List.setIfInBounds_toArray, List.set_cons_zero, List.set_cons_succ, i64_w, i32_w]
          rfl
        refine pure_ (i := 9) (N := some 95) (v := ?_) (a' := ?_) bQ69_23 rfl rfl (any_of HT_.out (by kernel_rfl)) (fun _ _ _ h => h) (Or.inl ⟨by rfl, ?_⟩) ?_ ?_
        rotate_left
        · intro w'
          go_simp
          with_reducible rfl
        rotate_left
        · simp only [Act.put, List.setIfInBounds_toArray, List.set_cons_zero, List.set_cons_succ, i64_w, i32_w]
          rfl
        refine pure_ (i := 10) (N := some 96) (v := ?_) (a' := ?_) bQ69_24 rfl rfl (any_of HT_.out (by kernel_rfl)) (fun _ _ _ h => h) (Or.inl ⟨by rfl, ?_⟩) ?_ ?_
        rotate_left
        · intro w'
          go_simp
          with_reducible rfl
        rotate_left
        · simp only [Act.put, List.setIfInBounds_toArray, List.set_cons_zero, List.set_cons_succ, i64_w, i32_w]
          rfl
        refine pure_ (i := 11) (N := some 97) (v := ?_) (a' := ?_) bQ69_25 rfl rfl (any_of HT_.out (by kernel_rfl)) (fun _ _ _ h => h) (Or.inl ⟨by rfl, ?_⟩) ?_ ?_
        rotate_left
        · intro w'
          go_simp
          with_reducible rfl
        rotate_left
        · simp only [Act.put, List.setIfInBounds_toArray, List.set_cons_zero, List.set_cons_succ, i64_w, i32_w]
          rfl
        refine pure_ (i := 13) (N := some 99) (v := ?_) (a' := ?_) bQ69_34 rfl rfl (any_of HT_.out (by kernel_rfl)) (fun _ _ _ h => h) (Or.inl ⟨by rfl, ?_⟩) ?_ ?_
        rotate_left
        · intro w'
          go_simp
          with_reducible rfl
        rotate_left
        · simp only [Act.put, List.setIfInBounds_toArray, List.set_cons_zero, List.set_cons_succ, i64_w, i32_w]
          rfl
        refine pure_ (i := 14) (N := some 100) (v := ?_) (a' := ?_) bQ69_35 rfl rfl (any_of HT_.out (by kernel_rfl)) (fun _ _ _ h => h) (Or.inl ⟨by rfl, ?_⟩) ?_ ?_
        rotate_left
        · intro w'
          go_simp
          with_reducible rfl
        rotate_left
        · simp only [Act.put, List.setIfInBounds_toArray, List.set_cons_zero, List.set_cons_succ, i64_w, i32_w]
          rfl
        refine pure_ (i := 15) (N := some 101) (v := ?_) (a' := ?_) bQ69_36 rfl rfl (any_of HT_.out (by kernel_rfl)) (fun _ _ _ h => h) (Or.inl ⟨by rfl, ?_⟩) ?_ ?_
        rotate_left
        · intro w'
          go_simp
          with_reducible rfl
        rotate_left
        · simp only [Act.put, List.setIfInBounds_toArray, List.set_cons_zero, List.set_cons_succ, i64_w, i32_w]
          rfl
        refine take_ (i := 12) (N := some 98) (v := ?_) (a' := ?_) bQ69_29 rfl rfl (take_ofW HT_.out HW_.out (by kernel_rfl)) (fun _ _ _ h => h) (Or.inl ⟨by rfl, ?_⟩) hHeld ?_ ?_
        rotate_left
        · rintro w' ⟨s0, s1, s2⟩
          go_simp
          with_reducible rfl
        rotate_left
        · simp only [Act.put, List.setIfInBounds_toArray, List.set_cons_zero, List.set_cons_succ, i64_w, i32_w]
          rfl
        refine take_ (i := 16) (N := some 102) (v := ?_) (a' := ?_) bQ69_30 rfl rfl (take_ofW HT_.out HW_.out (by kernel_rfl)) (fun _ _ _ h => h) (Or.inl ⟨by rfl, ?_⟩) hHeld ?_ ?_
        rotate_left
        · rintro w' ⟨s0, s1, s2⟩
          go_simp
          with_reducible rfl
        rotate_left
        · simp only [Act.put, List.setIfInBounds_toArray, List.set_cons_zero, List.set_cons_succ, i64_w, i32_w]
          rfl
        refine pure_ (i := 17) (N := some 103) (v := ?_) (a' := ?_) bQ69_31 rfl rfl (any_of HT_.out (by kernel_rfl)) (fun _ _ _ h => h) (Or.inl ⟨by rfl, ?_⟩) ?_ ?_
        rotate_left
        · intro w'
          go_simp
          with_reducible rfl
        rotate_left
        · simp only [Act.put, List.setIfInBounds_toArray, List.set_cons_zero, List.set_cons_succ, i64_w, i32_w]
          rfl
        refine pure_ (i := 18) (N := some 104) (v := ?_) (a' := ?_) bQ69_32 rfl rfl (any_of HT_.out (by kernel_rfl)) (fun _ _ _ h => h) (Or.inl ⟨by rfl, ?_⟩) ?_ ?_
        rotate_left
        · intro w'
          go_simp
          with_reducible rfl
        rotate_left
        · simp only [Act.put, List.setIfInBounds_toArray, List.set_cons_zero, List.set_cons_succ, i64_w, i32_w]
          rfl
        refine pure_ (i := 19) (N := some 105) (v := ?_) (a' := ?_) bQ69_33 rfl rfl (any_of HT_.out (by kernel_rfl)) (fun _ _ _ h => h) (Or.inl ⟨by rfl, ?_⟩) ?_ ?_
        rotate_left
        · intro w'
          go_simp
          with_reducible rfl
        rotate_left
        · simp only [Act.put, List.setIfInBounds_toArray, List.set_cons_zero, List.set_cons_succ, i64_w, i32_w]
          rfl
        refine done_ (done_of HT_.out (by kernel_rfl)) ?_
        try go_wp2
        (try simp only [← hl7_3])
        go_roundg k3
        case measure => have := HK1.out; have := HK2.out; have := HK3.out; omega
        case rel => exact ⟨(x7_3), (x8_3), (x12_3), (wrap64 (x12_3 + 1)), (by rfl), (by rfl), H', ⟨by have := HK1.out; have := HK2.out; have := HK3.out; omega⟩, ⟨by (try simp only [hl7_3]); exact HO_6.out⟩, ⟨by (try simp only [hl7_3]); exact HO_7.out⟩, ⟨by (try simp only [hl7_3]); exact HO_8.out⟩, ⟨by (try simp only [hl7_3]); exact BK396.out⟩, ⟨by exact HB.out⟩⟩
      rw [if_neg c80] at H
      have c80b0 : decide ((rd x8_3 x12_3) < (rd x8_3 x11_3)) = false := decide_eq_false c80
      clear c80
      have H' := Aside0.mk H
      clear H
      have hcz84_0 : wr.cell? ⟨gb396, 0, none⟩ = some (.slice A0_0 l0_0.length c0_0) := (blk_cell BK396.out 0).trans rfl
      have hcz84_1 : wr.cell? ⟨gb396, 1, none⟩ = some (.slice A0_1 l0_1.length c0_1) := (blk_cell BK396.out 1).trans rfl
      have hcz84_2 : wr.cell? ⟨gb396, 2, none⟩ = some (.slice A0_2 l0_2.length c0_2) := (blk_cell BK396.out 2).trans rfl
      have hfz84_0 := blk_frozen BK396.out 0
      have hfz84_1 := blk_frozen BK396.out 1
      have hfz84_2 := blk_frozen BK396.out 2
      have p417 : 0 ≤ (x12_3 : Int) := of_decide_eq_true (by (with_reducible assumption))
      have q417 : x12_3 < (l0_1.length : Int) := of_decide_eq_true (by (with_reducible assumption))
      obtain ⟨ad417, e417, hx417_0⟩ := Kd.at_int HR0_1.out x12_3 p417 q417
      cases e417
      replace hx417_0 := (HB.out.cell (World.block_lt_of_cell? w _ hx417_0)).trans hx417_0
      replace p417 := eq_true p417
      replace q417 := eq_true q417
      try go_wp2
      have n0_ := Aside0.mk (Kd.R_drew HO_6.out)
      have n1_ := Aside0.mk (Kd.R_drew HO_7.out)
      have n2_ := Aside0.mk (Kd.R_drew HO_8.out)
      have n3_ := Aside0.mk (blk_drew BK396.out)
      have n4_ := Aside0.mk (below_drew1 HB.out)
      clear HO_6
      clear HO_7
      clear HO_8
      clear BK396
      clear HB
      have HO_6 := n0_
      have HO_7 := n1_
      have HO_8 := n2_
      have BK396 := n3_
      have HB := n4_
      clear n0_ n1_ n2_ n3_ n4_
      have p425 : 0 ≤ (x12_3 : Int) := of_decide_eq_true (by (with_reducible assumption))
      have q425 : x12_3 < (x7_3.length : Int) := of_decide_eq_true (by (with_reducible assumption))
      obtain ⟨ad425, e425, hx425_0⟩ := Kd.at_int (Kd.R_reads' HO_7.out).2.2 x12_3 p425 q425
      cases e425
      replace p425 := eq_true p425
      replace q425 := eq_true q425
      obtain ⟨Ao86, co86, eo86⟩ := Kd.R_slice HO_8.out
      (subst eo86)
      have p426 : 0 ≤ (x12_3 : Int) := of_decide_eq_true (by (with_reducible assumption))
      have q426 : x12_3 < (x8_3.length : Int) := of_decide_eq_true (by (with_reducible assumption))
      obtain ⟨ad426, e426, hx426_0⟩ := Kd.at_int (Kd.R_reads' HO_8.out).2.2 x12_3 p426 q426
      cases e426
      replace p426 := eq_true p426
      replace q426 := eq_true q426
      have p427 : 0 ≤ (x11_3 : Int) := of_decide_eq_true (by (with_reducible assumption))
      have q427 : x11_3 < (x8_3.length : Int) := of_decide_eq_true (by (with_reducible assumption))
      obtain ⟨ad427, e427, hx427_0⟩ := Kd.at_int (Kd.R_reads' HO_8.out).2.2 x11_3 p427 q427
      obtain rfl : ad426 = ad427 := (by injection e427)
      replace p427 := eq_true p427
      replace q427 := eq_true q427
      refine start_ (n := 20) (S := fun w' => w'.cell? (ad425.add (x12_3).toNat) = some (.int .i64 (rd x7_3 x12_3)) ∧ w'.cell? (ad426.add (x12_3).toNat) = some (.int .i64 (rd x8_3 x12_3)) ∧ w'.cell? (ad426.add (x11_3).toNat) = some (.int .i64 (rd x8_3 x11_3))) (ds := []) bQ69_13 (by kernel_rfl) rfl rfl ⟨hx425_0, hx426_0, hx427_0⟩ (fun hHeld => ?_); refine with_tabW spec_l04Slots.tab19 spec_l04Slots.bits19 (fun HT_ HW_ => ?_)
      generalize wr.drew = w85 at HO_6 HO_7 HO_8 BK396 HB hx425_0 hx426_0 hx427_0 hHeld ⊢
      refine pure_ (i := 0) (N := some 86) (v := ?_) (a' := ?_) bQ69_14 rfl rfl (any_of HT_.out (by kernel_rfl)) (fun _ _ _ h => h) (Or.inl ⟨by rfl, ?_⟩) ?_ ?_
      rotate_left
      · intro w'
        go_simp
        with_reducible rfl
      rotate_left
      · simp only [Act.put, List.setIfInBounds_toArray, List.set_cons_zero, List.set_cons_succ, i64_w, i32_w]
        rfl
      refine pure_ (i := 1) (N := some 87) (v := ?_) (a' := ?_) bQ69_15 rfl rfl (any_of HT_.out (by kernel_rfl)) (fun _ _ _ h => h) (Or.inl ⟨by rfl, ?_⟩) ?_ ?_
      rotate_left
      · intro w'
        go_simp
        with_reducible rfl
      rotate_left
      · simp only [Act.put, List.setIfInBounds_toArray, List.set_cons_zero, List.set_cons_succ, i64_w, i32_w]
        rfl
      refine pure_ (i := 2) (N := some 88) (v := ?_) (a' := ?_) bQ69_16 rfl rfl (any_of HT_.out (by kernel_rfl)) (fun _ _ _ h => h) (Or.inl ⟨by rfl, ?_⟩) ?_ ?_
      rotate_left
      · intro w'
        go_simp
        with_reducible rfl
      rotate_left
      · simp only [Act.put, List.setIfInBounds_toArray, List.set_cons_zero, List.set_cons_succ, i64_w, i32_w]
        rfl
      refine take_ (i := 3) (N := some 89) (v := ?_) (a' := ?_) bQ69_17 rfl rfl (take_ofW HT_.out HW_.out (by kernel_rfl)) (fun _ _ _ h => h) (Or.inl ⟨by rfl, ?_⟩) hHeld ?_ ?_
      rotate_left
      · rintro w' ⟨s0, s1, s2⟩
        go_simp
        with_reducible rfl
      rotate_left
      · simp only [Act.put, List.setIfInBounds_toArray, List.set_cons_zero, List.set_cons_succ, i64_w, i32_w]
        rfl
      refine pure_ (i := 4) (N := some 90) (v := ?_) (a' := ?_) bQ69_18 rfl rfl (any_of HT_.out (by kernel_rfl)) (fun _ _ _ h => h) (Or.inl ⟨by rfl, ?_⟩) ?_ ?_
      rotate_left
      · intro w'
        go_simp
        with_reducible rfl
      rotate_left
      · simp only [Act.put, List.setIfInBounds_toArray, List.set_cons_zero, List.set_cons_succ, i64_w, i32_w]
        rfl
      refine pure_ (i := 5) (N := some 91) (v := ?_) (a' := ?_) bQ69_19 rfl rfl (any_of HT_.out (by kernel_rfl)) (fun _ _ _ h => h) (Or.inl ⟨by rfl, ?_⟩) ?_ ?_
      rotate_left
      · intro w'
        go_simp
        with_reducible rfl
      rotate_left
      · simp only [Act.put, List.setIfInBounds_toArray, List.set_cons_zero, List.set_cons_succ, i64_w, i32_w]
        rfl
      refine pure_ (i := 6) (N := some 92) (v := ?_) (a' := ?_) bQ69_20 rfl rfl (any_of HT_.out (by kernel_rfl)) (fun _ _ _ h => h) (Or.inl ⟨by rfl, ?_⟩) ?_ ?_
      rotate_left
      · intro w'
        go_simp
        with_reducible rfl
      rotate_left
      · simp only [Act.put, List.setIfInBounds_toArray, List.set_cons_zero, List.set_cons_succ, i64_w, i32_w]
        rfl
      refine pure_ (i := 7) (N := some 93) (v := ?_) (a' := ?_) bQ69_21 rfl rfl (any_of HT_.out (by kernel_rfl)) (fun _ _ _ h => h) (Or.inl ⟨by rfl, ?_⟩) ?_ ?_
      rotate_left
      · intro w'
        go_simp
        with_reducible rfl
      rotate_left
      · simp only [Act.put, List.setIfInBounds_toArray, List.set_cons_zero, List.set_cons_succ, i64_w, i32_w]
        rfl
      refine pure_ (i := 8) (N := some 94) (v := ?_) (a' := ?_) bQ69_22 rfl rfl (any_of HT_.out (by kernel_rfl)) (fun _ _ _ h => h) (Or.inl ⟨by rfl, ?_⟩) ?_ ?_
      rotate_left
      · intro w'
        go_simp
        with_reducible rfl
      rotate_left
      · simp only [Act.put, List.setIfInBounds_toArray, List.set_cons_zero, List.set_cons_succ, i64_w, i32_w]
        rfl
      refine pure_ (i := 9) (N := some 95) (v := ?_) (a' := ?_) bQ69_23 rfl rfl (any_of HT_.out (by kernel_rfl)) (fun _ _ _ h => h) (Or.inl ⟨by rfl, ?_⟩) ?_ ?_
      rotate_left
      · intro w'
        go_simp
        with_reducible rfl
      rotate_left
      · simp only [Act.put, List.setIfInBounds_toArray, List.set_cons_zero, List.set_cons_succ, i64_w, i32_w]
        rfl
      refine pure_ (i := 10) (N := some 96) (v := ?_) (a' := ?_) bQ69_24 rfl rfl (any_of HT_.out (by kernel_rfl)) (fun _ _ _ h => h) (Or.inl ⟨by rfl, ?_⟩) ?_ ?_
      rotate_left
      · intro w'
        go_simp
        with_reducible rfl
      rotate_left
      · simp only [Act.put, List.setIfInBounds_toArray, List.set_cons_zero, List.set_cons_succ, i64_w, i32_w]
        rfl
      refine pure_ (i := 11) (N := some 97) (v := ?_) (a' := ?_) bQ69_25 rfl rfl (any_of HT_.out (by kernel_rfl)) (fun _ _ _ h => h) (Or.inl ⟨by rfl, ?_⟩) ?_ ?_
      rotate_left
      · intro w'
        go_simp
        with_reducible rfl
      rotate_left
      · simp only [Act.put, List.setIfInBounds_toArray, List.set_cons_zero, List.set_cons_succ, i64_w, i32_w]
        rfl
      refine pure_ (i := 13) (N := some 99) (v := ?_) (a' := ?_) bQ69_34 rfl rfl (any_of HT_.out (by kernel_rfl)) (fun _ _ _ h => h) (Or.inl ⟨by rfl, ?_⟩) ?_ ?_
      rotate_left
      · intro w'
        go_simp
        with_reducible rfl
      rotate_left
      · simp only [Act.put, List.setIfInBounds_toArray, List.set_cons_zero, List.set_cons_succ, i64_w, i32_w]
        rfl
      refine pure_ (i := 14) (N := some 100) (v := ?_) (a' := ?_) bQ69_35 rfl rfl (any_of HT_.out (by kernel_rfl)) (fun _ _ _ h => h) (Or.inl ⟨by rfl, ?_⟩) ?_ ?_
      rotate_left
      · intro w'
        go_simp
        with_reducible rfl
      rotate_left
      · simp only [Act.put, List.setIfInBounds_toArray, List.set_cons_zero, List.set_cons_succ, i64_w, i32_w]
        rfl
      refine pure_ (i := 15) (N := some 101) (v := ?_) (a' := ?_) bQ69_36 rfl rfl (any_of HT_.out (by kernel_rfl)) (fun _ _ _ h => h) (Or.inl ⟨by rfl, ?_⟩) ?_ ?_
      rotate_left
      · intro w'
        go_simp
        with_reducible rfl
      rotate_left
      · simp only [Act.put, List.setIfInBounds_toArray, List.set_cons_zero, List.set_cons_succ, i64_w, i32_w]
        rfl
      refine take_ (i := 12) (N := some 98) (v := ?_) (a' := ?_) bQ69_29 rfl rfl (take_ofW HT_.out HW_.out (by kernel_rfl)) (fun _ _ _ h => h) (Or.inl ⟨by rfl, ?_⟩) hHeld ?_ ?_
      rotate_left
      · rintro w' ⟨s0, s1, s2⟩
        go_simp
        with_reducible rfl
      rotate_left
      · simp only [Act.put, List.setIfInBounds_toArray, List.set_cons_zero, List.set_cons_succ, i64_w, i32_w]
        rfl
      refine take_ (i := 16) (N := some 102) (v := ?_) (a' := ?_) bQ69_30 rfl rfl (take_ofW HT_.out HW_.out (by kernel_rfl)) (fun _ _ _ h => h) (Or.inl ⟨by rfl, ?_⟩) hHeld ?_ ?_
      rotate_left
      · rintro w' ⟨s0, s1, s2⟩
        go_simp
        with_reducible rfl
      rotate_left
      · simp only [Act.put, List.setIfInBounds_toArray, List.set_cons_zero, List.set_cons_succ, i64_w, i32_w]
        rfl
      refine pure_ (i := 17) (N := some 103) (v := ?_) (a' := ?_) bQ69_31 rfl rfl (any_of HT_.out (by kernel_rfl)) (fun _ _ _ h => h) (Or.inl ⟨by rfl, ?_⟩) ?_ ?_
      rotate_left
      · intro w'
        go_simp
        with_reducible rfl
      rotate_left
      · simp only [Act.put, List.setIfInBounds_toArray, List.set_cons_zero, List.set_cons_succ, i64_w, i32_w]
        rfl
      refine pure_ (i := 18) (N := some 104) (v := ?_) (a' := ?_) bQ69_32 rfl rfl (any_of HT_.out (by kernel_rfl)) (fun _ _ _ h => h) (Or.inl ⟨by rfl, ?_⟩) ?_ ?_
      rotate_left
      · intro w'
        go_simp
        with_reducible rfl
      rotate_left
      · simp only [Act.put, List.setIfInBounds_toArray, List.set_cons_zero, List.set_cons_succ, i64_w, i32_w]
        rfl
      refine pure_ (i := 19) (N := some 105) (v := ?_) (a' := ?_) bQ69_33 rfl rfl (any_of HT_.out (by kernel_rfl)) (fun _ _ _ h => h) (Or.inl ⟨by rfl, ?_⟩) ?_ ?_
      rotate_left
      · intro w'
        go_simp
        with_reducible rfl
      rotate_left
      · simp only [Act.put, List.setIfInBounds_toArray, List.set_cons_zero, List.set_cons_succ, i64_w, i32_w]
        rfl
      refine done_ (done_of HT_.out (by kernel_rfl)) ?_
      try go_wp2
      (try simp only [← hl7_3])
      go_roundg k3
      case measure => have := HK1.out; have := HK2.out; have := HK3.out; omega
      case rel => exact ⟨(x7_3), (x8_3), (x11_3), (wrap64 (x12_3 + 1)), (by rfl), (by rfl), H', ⟨by have := HK1.out; have := HK2.out; have := HK3.out; omega⟩, ⟨by (try simp only [hl7_3]); exact HO_6.out⟩, ⟨by (try simp only [hl7_3]); exact HO_7.out⟩, ⟨by (try simp only [hl7_3]); exact HO_8.out⟩, ⟨by (try simp only [hl7_3]); exact BK396.out⟩, ⟨by exact HB.out⟩⟩
    rw [if_pos c34] at H
    have c34b0 : ((Int.tmod x9_1 (rd l0_1 x12_3)) == 0) = true := beq_iff_eq.mpr c34
    have c34b1 : ((Int.tmod x9_1 (rd l0_1 x12_3)) != 0) = false := bne_eq_false_iff_eq.mpr c34
    clear c34
    by_cases c35 : x12_3 < (l0_0.length : Int)
    rotate_left
    · rw [if_neg c35] at H
      exact absurd H (by simp)
    rw [if_pos c35] at H
    have c35b0 : decide (x12_3 < (l0_0.length : Int)) = true := decide_eq_true c35
    clear c35
    obtain ⟨y419, hy419⟩ : ∃ y_ : List Int, y_ = (x7_3.set (x12_3 : Int).toNat (rd l0_0 x12_3)) := ⟨_, rfl⟩
    replace H : (if x12_3 < (l0_2.length : Int) then (if x12_3 < (x8_3.length : Int) then ((some (x8_3.set (x12_3 : Int).toNat (wrap64 (x9_1 + (rd l0_2 x12_3))) : List Int)).bind fun y421 => (if (rd y419 x12_3) > 0 then (if x11_3 < 0 then (spec_l04Slots.l2 k3 t397 x6_1 y419 y421 x9_1 x12_3 (wrap64 (x12_3 + 1)) l0_0 l0_1 l0_2) else (if 0 ≤ x11_3 then (if x11_3 < (x8_3.length : Int) then (if (rd y421 x12_3) < (rd y421 x11_3) then (spec_l04Slots.l2 k3 t397 x6_1 y419 y421 x9_1 x12_3 (wrap64 (x12_3 + 1)) l0_0 l0_1 l0_2) else (spec_l04Slots.l2 k3 t397 x6_1 y419 y421 x9_1 x11_3 (wrap64 (x12_3 + 1)) l0_0 l0_1 l0_2)) else (none)) else (none))) else (spec_l04Slots.l2 k3 t397 x6_1 y419 y421 x9_1 x11_3 (wrap64 (x12_3 + 1)) l0_0 l0_1 l0_2))) else (none)) else (none)) = some (r1, r2, r3) := by (have H2_ := (Option.bind_some _ _).symm.trans H; rw [hy419]; with_reducible exact H2_)
    have Ny419 := Aside0.mk hy419
    clear hy419
    by_cases c37 : x12_3 < (l0_2.length : Int)
    rotate_left
    · rw [if_neg c37] at H
      exact absurd H (by simp)
    rw [if_pos c37] at H
    have c37b0 : decide (x12_3 < (l0_2.length : Int)) = true := decide_eq_true c37
    clear c37
    by_cases c38 : x12_3 < (x8_3.length : Int)
    rotate_left
    · rw [if_neg c38] at H
      exact absurd H (by simp)
    rw [if_pos c38] at H
    have c38b0 : decide (x12_3 < (x8_3.length : Int)) = true := decide_eq_true c38
    clear c38
    obtain ⟨y421, hy421⟩ : ∃ y_ : List Int, y_ = (x8_3.set (x12_3 : Int).toNat (wrap64 (x9_1 + (rd l0_2 x12_3)))) := ⟨_, rfl⟩
    replace H : (if (rd y419 x12_3) > 0 then (if x11_3 < 0 then (spec_l04Slots.l2 k3 t397 x6_1 y419 y421 x9_1 x12_3 (wrap64 (x12_3 + 1)) l0_0 l0_1 l0_2) else (if 0 ≤ x11_3 then (if x11_3 < (x8_3.length : Int) then (if (rd y421 x12_3) < (rd y421 x11_3) then (spec_l04Slots.l2 k3 t397 x6_1 y419 y421 x9_1 x12_3 (wrap64 (x12_3 + 1)) l0_0 l0_1 l0_2) else (spec_l04Slots.l2 k3 t397 x6_1 y419 y421 x9_1 x11_3 (wrap64 (x12_3 + 1)) l0_0 l0_1 l0_2)) else (none)) else (none))) else (spec_l04Slots.l2 k3 t397 x6_1 y419 y421 x9_1 x11_3 (wrap64 (x12_3 + 1)) l0_0 l0_1 l0_2)) = some (r1, r2, r3) := by (have H2_ := (Option.bind_some _ _).symm.trans H; rw [hy421]; with_reducible exact H2_)
    have Ny421 := Aside0.mk hy421
    clear hy421
    by_cases c40 : (rd y419 x12_3) > 0
    rotate_left
    · rw [if_neg c40] at H
      have c40b0 : decide (0 < (rd y419 x12_3)) = false := decide_eq_false c40
      clear c40
      have H' := Aside0.mk H
      clear H
      have hcz66_0 : wr.cell? ⟨gb396, 0, none⟩ = some (.slice A0_0 l0_0.length c0_0) := (blk_cell BK396.out 0).trans rfl
      have hcz66_1 : wr.cell? ⟨gb396, 1, none⟩ = some (.slice A0_1 l0_1.length c0_1) := (blk_cell BK396.out 1).trans rfl
      have hcz66_2 : wr.cell? ⟨gb396, 2, none⟩ = some (.slice A0_2 l0_2.length c0_2) := (blk_cell BK396.out 2).trans rfl
      have hfz66_0 := blk_frozen BK396.out 0
      have hfz66_1 := blk_frozen BK396.out 1
      have hfz66_2 := blk_frozen BK396.out 2
      have p417 : 0 ≤ (x12_3 : Int) := of_decide_eq_true (by (with_reducible assumption))
      have q417 : x12_3 < (l0_1.length : Int) := of_decide_eq_true (by (with_reducible assumption))
      obtain ⟨ad417, e417, hx417_0⟩ := Kd.at_int HR0_1.out x12_3 p417 q417
      cases e417
      replace hx417_0 := (HB.out.cell (World.block_lt_of_cell? w _ hx417_0)).trans hx417_0
      replace p417 := eq_true p417
      replace q417 := eq_true q417
      have p418 : 0 ≤ (x12_3 : Int) := of_decide_eq_true (by (with_reducible assumption))
      have q418 : x12_3 < (l0_0.length : Int) := of_decide_eq_true (by (with_reducible assumption))
      obtain ⟨ad418, e418, hx418_0⟩ := Kd.at_int HR0_0.out x12_3 p418 q418
      cases e418
      replace hx418_0 := (HB.out.cell (World.block_lt_of_cell? w _ hx418_0)).trans hx418_0
      replace p418 := eq_true p418
      replace q418 := eq_true q418
      have p36 : 0 ≤ (x12_3 : Int) := of_decide_eq_true (by (with_reducible assumption))
      have q36 : (x12_3 : Int) < ((x7_3.length : Int) : Int) := of_decide_eq_true (by (with_reducible assumption))
      obtain ⟨go36, co36, eo36, gb36, gl36, cl36, HG36⟩ := Kd.R_form HO_7.out (by omega)
      (cases eo36)
      have GB36 := Aside0.mk gb36
      have GG36 := Aside0.mk HG36
      clear gb36 gl36 HG36
      obtain ⟨hx36_0, hf36_0⟩ := Kd.R_celln 0 HO_7.out (x12_3 : Int) p36 q36
      replace p36 := eq_true p36
      replace q36 := eq_true q36
      have HP67 := Kd.R_putg HO_7.out (x12_3 : Int) (rd l0_0 x12_3)
      try go_wp2_with (first | ((with_reducible refine gate_store (t := 2) (p := 75) rfl ?_); refine store_event (t := 2) (p := 75) (v := ?vo_w68) (w1 := (wr.setCell ⟨go36, (x12_3 : Int).toNat, none⟩ (.int .i64 (rd l0_0 x12_3)))) ?hg ?ho ?hn ?hr ?_; (case ho => rfl); (case hg => rfl); (case hn => rfl); (case hr => (go_simp; done)); intro w68 hw; have hg : wr.grownBy w68 (some go36) := (by rw [hw]; exact HP67.2); have hp_ : Kd.R (Kd.int .i64) 2 w68 w.heap.size (fun k_ => some k_ ≠ (u6 : Value).ownBlock ∧ some k_ ≠ (v405 : Value).ownBlock) (.slice (some ⟨go36, 0, none⟩) x7_3.length co29) y419 := (by rw [hw, Ny419.out]; exact HP67.1); clear HP67; have n0_ := Aside0.mk (Kd.R_after (v := (.slice (some ⟨go36, 0, none⟩) x7_3.length co29)) (v1 := (.slice (some ⟨go36, 0, none⟩) x7_3.length co29)) (ok := (fun k_ => some k_ ≠ (v405 : Value).ownBlock)) (by exact Kd.R_mono HO_6.out (fun _ hk => ⟨hk.2, hk.1⟩)) hg (.inl rfl)); have n1_ := Aside0.mk (hp_); have n2_ := Aside0.mk (Kd.R_after (v := (.slice (some ⟨go36, 0, none⟩) x7_3.length co29)) (v1 := (.slice (some ⟨go36, 0, none⟩) x7_3.length co29)) (ok := (fun k_ => some k_ ≠ (u6 : Value).ownBlock)) HO_8.out hg (.inl rfl)); have n3_ := Aside0.mk (blk_grown (g := gb396) (o := .cells #[.slice (some ad418) l0_0.length c0_0, .slice (some ad417) l0_1.length c0_1, .slice A0_2 l0_2.length c0_2] 33 (0, 0)) BK396.out hg (Kd.R_ne HO_7.out BK396.out (by decide))); have n4_ := Aside0.mk ((by rw [hw]; exact below_set (HB.out) GB36.out : Below w.heap.size w w68)); clear HO_6; clear HO_7; clear HO_8; clear BK396; clear HB; have HO_6 := n0_; have HO_7 := n1_; have HO_8 := n2_; have BK396 := n3_; have HB := n4_; clear n0_ n1_ n2_ n3_ n4_; clear hg hw hp_; have hcz69_0 : w68.cell? ⟨gb396, 0, none⟩ = some (.slice (some ad418) l0_0.length c0_0) := (blk_cell BK396.out 0).trans rfl; have hcz69_1 : w68.cell? ⟨gb396, 1, none⟩ = some (.slice (some ad417) l0_1.length c0_1) := (blk_cell BK396.out 1).trans rfl; have hcz69_2 : w68.cell? ⟨gb396, 2, none⟩ = some (.slice A0_2 l0_2.length c0_2) := (blk_cell BK396.out 2).trans rfl; have hfz69_0 := blk_frozen BK396.out 0; have hfz69_1 := blk_frozen BK396.out 1; have hfz69_2 := blk_frozen BK396.out 2; have p420 : 0 ≤ (x12_3 : Int) := of_decide_eq_true (by (with_reducible assumption)); have q420 : x12_3 < (l0_2.length : Int) := of_decide_eq_true (by (with_reducible assumption)); obtain ⟨ad420, e420, hx420_0⟩ := Kd.at_int HR0_2.out x12_3 p420 q420; cases e420; replace hx420_0 := (HB.out.cell (World.block_lt_of_cell? w _ hx420_0)).trans hx420_0; replace p420 := eq_true p420; replace q420 := eq_true q420; have p39 : 0 ≤ (x12_3 : Int) := of_decide_eq_true (by (with_reducible assumption)); have q39 : (x12_3 : Int) < ((x8_3.length : Int) : Int) := of_decide_eq_true (by (with_reducible assumption)); obtain ⟨go39, co39, eo39, gb39, gl39, cl39, HG39⟩ := Kd.R_form HO_8.out (by omega); (cases eo39); have GB39 := Aside0.mk gb39; have GG39 := Aside0.mk HG39; clear gb39 gl39 HG39; obtain ⟨hx39_0, hf39_0⟩ := Kd.R_celln 0 HO_8.out (x12_3 : Int) p39 q39; replace p39 := eq_true p39; replace q39 := eq_true q39; obtain ⟨hy70_, hz70_⟩ := Kd.R_celln 0 HO_8.out (x12_3 : Int) (of_decide_eq_true (by (with_reducible assumption))) (of_decide_eq_true (by (with_reducible assumption))); have HP70 := Kd.R_putg HO_8.out (x12_3 : Int) (wrap64 (x9_1 + (rd l0_2 x12_3)))) | ((with_reducible refine gate_store (t := 2) (p := 85) rfl ?_); refine store_event (t := 2) (p := 85) (v := ?vo_w71) (w1 := (w68.setCell ⟨go39, (x12_3 : Int).toNat, none⟩ (.int .i64 (wrap64 (x9_1 + (rd l0_2 x12_3)))))) ?hg ?ho ?hn ?hr ?_; (case ho => rfl); (case hg => rfl); (case hn => rfl); (case hr => (go_simp; done)); intro w71 hw; have hg : w68.grownBy w71 (some go39) := (by rw [hw]; exact HP70.2); have hp_ : Kd.R (Kd.int .i64) 2 w71 w.heap.size (fun k_ => some k_ ≠ (u6 : Value).ownBlock ∧ some k_ ≠ (.slice (some ⟨go36, 0, none⟩) x7_3.length co29 : Value).ownBlock) (.slice (some ⟨go39, 0, none⟩) x8_3.length co39) y421 := (by rw [hw, Ny421.out]; exact HP70.1); clear HP70; have n0_ := Aside0.mk (Kd.R_after (v := (.slice (some ⟨go39, 0, none⟩) x8_3.length co39)) (v1 := (.slice (some ⟨go39, 0, none⟩) x8_3.length co39)) (ok := (fun k_ => some k_ ≠ (.slice (some ⟨go36, 0, none⟩) x7_3.length co29 : Value).ownBlock)) (by exact Kd.R_mono HO_6.out (fun _ hk => ⟨hk.2, hk.1⟩)) hg (.inl rfl)); have n1_ := Aside0.mk (Kd.R_after (v := (.slice (some ⟨go39, 0, none⟩) x8_3.length co39)) (v1 := (.slice (some ⟨go39, 0, none⟩) x8_3.length co39)) (ok := (fun k_ => some k_ ≠ (u6 : Value).ownBlock)) HO_7.out hg (.inl rfl)); have n2_ := Aside0.mk (hp_); have n3_ := Aside0.mk (blk_grown (g := gb396) (o := .cells #[.slice (some ad418) l0_0.length c0_0, .slice (some ad417) l0_1.length c0_1, .slice (some ad420) l0_2.length c0_2] 33 (0, 0)) BK396.out hg (Kd.R_ne HO_8.out BK396.out (by decide))); have n4_ := Aside0.mk ((by rw [hw]; exact below_set (HB.out) GB39.out : Below w.heap.size w w71)); clear HO_6; clear HO_7; clear HO_8; clear BK396; clear HB; have HO_6 := n0_; have HO_7 := n1_; have HO_8 := n2_; have BK396 := n3_; have HB := n4_; clear n0_ n1_ n2_ n3_ n4_; clear hg hw hp_))
      have n0_ := Aside0.mk (Kd.R_drew HO_6.out)
      have n1_ := Aside0.mk (Kd.R_drew HO_7.out)
      have n2_ := Aside0.mk (Kd.R_drew HO_8.out)
      have n3_ := Aside0.mk (blk_drew BK396.out)
      have n4_ := Aside0.mk (below_drew1 HB.out)
      clear HO_6
      clear HO_7
      clear HO_8
      clear BK396
      clear HB
      have HO_6 := n0_
      have HO_7 := n1_
      have HO_8 := n2_
      have BK396 := n3_
      have HB := n4_
      clear n0_ n1_ n2_ n3_ n4_
      have p422 : 0 ≤ (x12_3 : Int) := of_decide_eq_true (by (with_reducible assumption))
      have q422 : x12_3 < (y419.length : Int) := (by have h_ : (x12_3 : Int) < ((x7_3.length : Int) : Int) := of_decide_eq_true (by (with_reducible assumption)); (have e_ := (Kd.R_reads' HO_7.out).1; omega))
      have ql422 : ((x12_3 : Int) < ((x7_3.length : Int) : Int)) = True := eq_true (of_decide_eq_true (by (with_reducible assumption)))
      obtain ⟨ad422, e422, hx422_0⟩ := Kd.at_int (Kd.R_reads' HO_7.out).2.2 x12_3 p422 q422
      obtain rfl : (⟨go36, 0, none⟩ : Addr) = ad422 := (by injection e422)
      (simp only [add_plain] at hx422_0)
      replace p422 := eq_true p422
      replace q422 := eq_true q422
      refine start_ (n := 20) (S := fun w' => w'.cell? ⟨go36, (x12_3).toNat, none⟩ = some (.int .i64 (rd y419 x12_3))) (ds := []) bQ69_13 (by kernel_rfl) rfl rfl (hx422_0) (fun hHeld => ?_); refine with_tabW spec_l04Slots.tab19 spec_l04Slots.bits19 (fun HT_ HW_ => ?_)
      generalize w71.drew = w72 at HO_6 HO_7 HO_8 BK396 HB hx422_0 hHeld ⊢
      refine pure_ (i := 0) (N := some 86) (v := ?_) (a' := ?_) bQ69_14 rfl rfl (any_of HT_.out (by kernel_rfl)) (fun _ _ _ h => h) (Or.inl ⟨by rfl, ?_⟩) ?_ ?_
      rotate_left
      · intro w'
        go_simp
        with_reducible rfl
      rotate_left
      · simp only [Act.put, List.setIfInBounds_toArray, List.set_cons_zero, List.set_cons_succ, i64_w, i32_w]
        rfl
      refine pure_ (i := 1) (N := some 87) (v := ?_) (a' := ?_) bQ69_15 rfl rfl (any_of HT_.out (by kernel_rfl)) (fun _ _ _ h => h) (Or.inl ⟨by rfl, ?_⟩) ?_ ?_
      rotate_left
      · intro w'
        go_simp
        with_reducible rfl
      rotate_left
      · simp only [Act.put, List.setIfInBounds_toArray, List.set_cons_zero, List.set_cons_succ, i64_w, i32_w]
        rfl
      refine pure_ (i := 2) (N := some 88) (v := ?_) (a' := ?_) bQ69_16 rfl rfl (any_of HT_.out (by kernel_rfl)) (fun _ _ _ h => h) (Or.inl ⟨by rfl, ?_⟩) ?_ ?_
      rotate_left
      · intro w'
        go_simp
        with_reducible rfl
      rotate_left
      · simp only [Act.put, List.setIfInBounds_toArray, List.set_cons_zero, List.set_cons_succ, i64_w, i32_w]
        rfl
      refine take_ (i := 3) (N := some 89) (v := ?_) (a' := ?_) bQ69_17 rfl rfl (take_ofW HT_.out HW_.out (by kernel_rfl)) (fun _ _ _ h => h) (Or.inl ⟨by rfl, ?_⟩) hHeld ?_ ?_
      rotate_left
      · intro w' s0
        go_simp
        with_reducible rfl
      rotate_left
      · simp only [Act.put, List.setIfInBounds_toArray, List.set_cons_zero, List.set_cons_succ, i64_w, i32_w]
        rfl
      refine pure_ (i := 4) (N := some 90) (v := ?_) (a' := ?_) bQ69_18 rfl rfl (any_of HT_.out (by kernel_rfl)) (fun _ _ _ h => h) (Or.inl ⟨by rfl, ?_⟩) ?_ ?_
      rotate_left
      · intro w'
        go_simp
        with_reducible rfl
      rotate_left
      · simp only [Act.put, List.setIfInBounds_toArray, List.set_cons_zero, List.set_cons_succ, i64_w, i32_w]
        rfl
      refine pure_ (i := 5) (N := some 91) (v := ?_) (a' := ?_) bQ69_19 rfl rfl (any_of HT_.out (by kernel_rfl)) (fun _ _ _ h => h) (Or.inl ⟨by rfl, ?_⟩) ?_ ?_
      rotate_left
      · intro w'
        go_simp
        with_reducible rfl
      rotate_left
      · simp only [Act.put, List.setIfInBounds_toArray, List.set_cons_zero, List.set_cons_succ, i64_w, i32_w]
        rfl
      refine pure_ (i := 6) (N := some 92) (v := undef) (a' := ?_) bQ69_20 rfl rfl (any_of HT_.out (by kernel_rfl)) (fun _ _ _ h => h) (Or.inr ⟨by rfl, rfl⟩) ?_ ?_
      rotate_left
      · simp only [Act.put, List.setIfInBounds_toArray, List.set_cons_zero, List.set_cons_succ, i64_w, i32_w]
        rfl
      refine pure_ (i := 7) (N := some 93) (v := undef) (a' := ?_) bQ69_21 rfl rfl (any_of HT_.out (by kernel_rfl)) (fun _ _ _ h => h) (Or.inr ⟨by rfl, rfl⟩) ?_ ?_
      rotate_left
      · simp only [Act.put, List.setIfInBounds_toArray, List.set_cons_zero, List.set_cons_succ, i64_w, i32_w]
        rfl
      refine pure_ (i := 8) (N := some 94) (v := undef) (a' := ?_) bQ69_22 rfl rfl (any_of HT_.out (by kernel_rfl)) (fun _ _ _ h => h) (Or.inr ⟨by rfl, rfl⟩) ?_ ?_
      rotate_left
      · simp only [Act.put, List.setIfInBounds_toArray, List.set_cons_zero, List.set_cons_succ, i64_w, i32_w]
        rfl
      refine pure_ (i := 9) (N := some 95) (v := undef) (a' := ?_) bQ69_23 rfl rfl (any_of HT_.out (by kernel_rfl)) (fun _ _ _ h => h) (Or.inr ⟨by rfl, rfl⟩) ?_ ?_
      rotate_left
      · simp only [Act.put, List.setIfInBounds_toArray, List.set_cons_zero, List.set_cons_succ, i64_w, i32_w]
        rfl
      refine pure_ (i := 10) (N := some 96) (v := undef) (a' := ?_) bQ69_24 rfl rfl (any_of HT_.out (by kernel_rfl)) (fun _ _ _ h => h) (Or.inr ⟨by rfl, rfl⟩) ?_ ?_
      rotate_left
      · simp only [Act.put, List.setIfInBounds_toArray, List.set_cons_zero, List.set_cons_succ, i64_w, i32_w]
        rfl
      refine pure_ (i := 11) (N := some 97) (v := undef) (a' := ?_) bQ69_25 rfl rfl (any_of HT_.out (by kernel_rfl)) (fun _ _ _ h => h) (Or.inr ⟨by rfl, rfl⟩) ?_ ?_
      rotate_left
      · simp only [Act.put, List.setIfInBounds_toArray, List.set_cons_zero, List.set_cons_succ, i64_w, i32_w]
        rfl
      refine pure_ (i := 12) (N := some 98) (v := undef) (a' := ?_) bQ69_26 rfl rfl (any_of HT_.out (by kernel_rfl)) (fun _ _ _ h => h) (Or.inr ⟨by rfl, rfl⟩) ?_ ?_
      rotate_left
      · simp only [Act.put, List.setIfInBounds_toArray, List.set_cons_zero, List.set_cons_succ, i64_w, i32_w]
        rfl
      refine pure_ (i := 13) (N := some 99) (v := undef) (a' := ?_) bQ69_27 rfl rfl (any_of HT_.out (by kernel_rfl)) (fun _ _ _ h => h) (Or.inr ⟨by rfl, rfl⟩) ?_ ?_
      rotate_left
      · simp only [Act.put, List.setIfInBounds_toArray, List.set_cons_zero, List.set_cons_succ, i64_w, i32_w]
        rfl
      refine pure_ (i := 14) (N := some 100) (v := undef) (a' := ?_) bQ69_28 rfl rfl (any_of HT_.out (by kernel_rfl)) (fun _ _ _ h => h) (Or.inr ⟨by rfl, rfl⟩) ?_ ?_
      rotate_left
      · simp only [Act.put, List.setIfInBounds_toArray, List.set_cons_zero, List.set_cons_succ, i64_w, i32_w]
        rfl
      refine pure_ (i := 15) (N := some 101) (v := undef) (a' := ?_) bQ69_29 rfl rfl (any_of HT_.out (by kernel_rfl)) (fun _ _ _ h => h) (Or.inr ⟨by rfl, rfl⟩) ?_ ?_
      rotate_left
      · simp only [Act.put, List.setIfInBounds_toArray, List.set_cons_zero, List.set_cons_succ, i64_w, i32_w]
        rfl
      refine pure_ (i := 16) (N := some 102) (v := undef) (a' := ?_) bQ69_30 rfl rfl (any_of HT_.out (by kernel_rfl)) (fun _ _ _ h => h) (Or.inr ⟨by rfl, rfl⟩) ?_ ?_
      rotate_left
      · simp only [Act.put, List.setIfInBounds_toArray, List.set_cons_zero, List.set_cons_succ, i64_w, i32_w]
        rfl
      refine pure_ (i := 17) (N := some 103) (v := undef) (a' := ?_) bQ69_31 rfl rfl (any_of HT_.out (by kernel_rfl)) (fun _ _ _ h => h) (Or.inr ⟨by rfl, rfl⟩) ?_ ?_
      rotate_left
      · simp only [Act.put, List.setIfInBounds_toArray, List.set_cons_zero, List.set_cons_succ, i64_w, i32_w]
        rfl
      refine pure_ (i := 18) (N := some 104) (v := undef) (a' := ?_) bQ69_32 rfl rfl (any_of HT_.out (by kernel_rfl)) (fun _ _ _ h => h) (Or.inr ⟨by rfl, rfl⟩) ?_ ?_
      rotate_left
      · simp only [Act.put, List.setIfInBounds_toArray, List.set_cons_zero, List.set_cons_succ, i64_w, i32_w]
        rfl
      refine pure_ (i := 19) (N := some 105) (v := ?_) (a' := ?_) bQ69_33 rfl rfl (any_of HT_.out (by kernel_rfl)) (fun _ _ _ h => h) (Or.inl ⟨by rfl, ?_⟩) ?_ ?_
      rotate_left
      · intro w'
        go_simp
        with_reducible rfl
      rotate_left
      · simp only [Act.put, List.setIfInBounds_toArray, List.set_cons_zero, List.set_cons_succ, i64_w, i32_w]
        rfl
      refine done_ (done_of HT_.out (by kernel_rfl)) ?_
      try go_wp2
      (try simp only [← hl7_3])
      go_roundg k3
      case measure => have := HK1.out; have := HK2.out; have := HK3.out; omega
      case rel => exact ⟨(y419), (y421), (x11_3), (wrap64 (x12_3 + 1)), (by rfl), (by rfl), H', ⟨by have := HK1.out; have := HK2.out; have := HK3.out; omega⟩, ⟨by (try simp only [hl7_3]); exact HO_6.out⟩, ⟨by (try simp only [hl7_3]); exact HO_7.out⟩, ⟨by (try simp only [hl7_3]); exact HO_8.out⟩, ⟨by (try simp only [hl7_3]); exact BK396.out⟩, ⟨by exact HB.out⟩⟩
    rw [if_pos c40] at H
    have c40b0 : decide (0 < (rd y419 x12_3)) = true := decide_eq_true c40
    clear c40
    by_cases c41 : x11_3 < 0
    · rw [if_pos c41] at H
      have c41b0 : decide (x11_3 < 0) = true := decide_eq_true c41
      clear c41
      have H' := Aside0.mk H
      clear H
      have hcz42_0 : wr.cell? ⟨gb396, 0, none⟩ = some (.slice A0_0 l0_0.length c0_0) := (blk_cell BK396.out 0).trans rfl
      have hcz42_1 : wr.cell? ⟨gb396, 1, none⟩ = some (.slice A0_1 l0_1.length c0_1) := (blk_cell BK396.out 1).trans rfl
      have hcz42_2 : wr.cell? ⟨gb396, 2, none⟩ = some (.slice A0_2 l0_2.length c0_2) := (blk_cell BK396.out 2).trans rfl
      have hfz42_0 := blk_frozen BK396.out 0
      have hfz42_1 := blk_frozen BK396.out 1
      have hfz42_2 := blk_frozen BK396.out 2
      have p417 : 0 ≤ (x12_3 : Int) := of_decide_eq_true (by (with_reducible assumption))
      have q417 : x12_3 < (l0_1.length : Int) := of_decide_eq_true (by (with_reducible assumption))
      obtain ⟨ad417, e417, hx417_0⟩ := Kd.at_int HR0_1.out x12_3 p417 q417
      cases e417
      replace hx417_0 := (HB.out.cell (World.block_lt_of_cell? w _ hx417_0)).trans hx417_0
      replace p417 := eq_true p417
      replace q417 := eq_true q417
      have p418 : 0 ≤ (x12_3 : Int) := of_decide_eq_true (by (with_reducible assumption))
      have q418 : x12_3 < (l0_0.length : Int) := of_decide_eq_true (by (with_reducible assumption))
      obtain ⟨ad418, e418, hx418_0⟩ := Kd.at_int HR0_0.out x12_3 p418 q418
      cases e418
      replace hx418_0 := (HB.out.cell (World.block_lt_of_cell? w _ hx418_0)).trans hx418_0
      replace p418 := eq_true p418
      replace q418 := eq_true q418
      have p36 : 0 ≤ (x12_3 : Int) := of_decide_eq_true (by (with_reducible assumption))
      have q36 : (x12_3 : Int) < ((x7_3.length : Int) : Int) := of_decide_eq_true (by (with_reducible assumption))
      obtain ⟨go36, co36, eo36, gb36, gl36, cl36, HG36⟩ := Kd.R_form HO_7.out (by omega)
      (cases eo36)
      have GB36 := Aside0.mk gb36
      have GG36 := Aside0.mk HG36
      clear gb36 gl36 HG36
      obtain ⟨hx36_0, hf36_0⟩ := Kd.R_celln 0 HO_7.out (x12_3 : Int) p36 q36
      replace p36 := eq_true p36
      replace q36 := eq_true q36
      have HP43 := Kd.R_putg HO_7.out (x12_3 : Int) (rd l0_0 x12_3)
      try go_wp2_with (first | ((with_reducible refine gate_store (t := 2) (p := 75) rfl ?_); refine store_event (t := 2) (p := 75) (v := ?vo_w44) (w1 := (wr.setCell ⟨go36, (x12_3 : Int).toNat, none⟩ (.int .i64 (rd l0_0 x12_3)))) ?hg ?ho ?hn ?hr ?_; (case ho => rfl); (case hg => rfl); (case hn => rfl); (case hr => (go_simp; done)); intro w44 hw; have hg : wr.grownBy w44 (some go36) := (by rw [hw]; exact HP43.2); have hp_ : Kd.R (Kd.int .i64) 2 w44 w.heap.size (fun k_ => some k_ ≠ (u6 : Value).ownBlock ∧ some k_ ≠ (v405 : Value).ownBlock) (.slice (some ⟨go36, 0, none⟩) x7_3.length co29) y419 := (by rw [hw, Ny419.out]; exact HP43.1); clear HP43; have n0_ := Aside0.mk (Kd.R_after (v := (.slice (some ⟨go36, 0, none⟩) x7_3.length co29)) (v1 := (.slice (some ⟨go36, 0, none⟩) x7_3.length co29)) (ok := (fun k_ => some k_ ≠ (v405 : Value).ownBlock)) (by exact Kd.R_mono HO_6.out (fun _ hk => ⟨hk.2, hk.1⟩)) hg (.inl rfl)); have n1_ := Aside0.mk (hp_); have n2_ := Aside0.mk (Kd.R_after (v := (.slice (some ⟨go36, 0, none⟩) x7_3.length co29)) (v1 := (.slice (some ⟨go36, 0, none⟩) x7_3.length co29)) (ok := (fun k_ => some k_ ≠ (u6 : Value).ownBlock)) HO_8.out hg (.inl rfl)); have n3_ := Aside0.mk (blk_grown (g := gb396) (o := .cells #[.slice (some ad418) l0_0.length c0_0, .slice (some ad417) l0_1.length c0_1, .slice A0_2 l0_2.length c0_2] 33 (0, 0)) BK396.out hg (Kd.R_ne HO_7.out BK396.out (by decide))); have n4_ := Aside0.mk ((by rw [hw]; exact below_set (HB.out) GB36.out : Below w.heap.size w w44)); clear HO_6; clear HO_7; clear HO_8; clear BK396; clear HB; have HO_6 := n0_; have HO_7 := n1_; have HO_8 := n2_; have BK396 := n3_; have HB := n4_; clear n0_ n1_ n2_ n3_ n4_; clear hg hw hp_; have hcz45_0 : w44.cell? ⟨gb396, 0, none⟩ = some (.slice (some ad418) l0_0.length c0_0) := (blk_cell BK396.out 0).trans rfl; have hcz45_1 : w44.cell? ⟨gb396, 1, none⟩ = some (.slice (some ad417) l0_1.length c0_1) := (blk_cell BK396.out 1).trans rfl; have hcz45_2 : w44.cell? ⟨gb396, 2, none⟩ = some (.slice A0_2 l0_2.length c0_2) := (blk_cell BK396.out 2).trans rfl; have hfz45_0 := blk_frozen BK396.out 0; have hfz45_1 := blk_frozen BK396.out 1; have hfz45_2 := blk_frozen BK396.out 2; have p420 : 0 ≤ (x12_3 : Int) := of_decide_eq_true (by (with_reducible assumption)); have q420 : x12_3 < (l0_2.length : Int) := of_decide_eq_true (by (with_reducible assumption)); obtain ⟨ad420, e420, hx420_0⟩ := Kd.at_int HR0_2.out x12_3 p420 q420; cases e420; replace hx420_0 := (HB.out.cell (World.block_lt_of_cell? w _ hx420_0)).trans hx420_0; replace p420 := eq_true p420; replace q420 := eq_true q420; have p39 : 0 ≤ (x12_3 : Int) := of_decide_eq_true (by (with_reducible assumption)); have q39 : (x12_3 : Int) < ((x8_3.length : Int) : Int) := of_decide_eq_true (by (with_reducible assumption)); obtain ⟨go39, co39, eo39, gb39, gl39, cl39, HG39⟩ := Kd.R_form HO_8.out (by omega); (cases eo39); have GB39 := Aside0.mk gb39; have GG39 := Aside0.mk HG39; clear gb39 gl39 HG39; obtain ⟨hx39_0, hf39_0⟩ := Kd.R_celln 0 HO_8.out (x12_3 : Int) p39 q39; replace p39 := eq_true p39; replace q39 := eq_true q39; obtain ⟨hy46_, hz46_⟩ := Kd.R_celln 0 HO_8.out (x12_3 : Int) (of_decide_eq_true (by (with_reducible assumption))) (of_decide_eq_true (by (with_reducible assumption))); have HP46 := Kd.R_putg HO_8.out (x12_3 : Int) (wrap64 (x9_1 + (rd l0_2 x12_3)))) | ((with_reducible refine gate_store (t := 2) (p := 85) rfl ?_); refine store_event (t := 2) (p := 85) (v := ?vo_w47) (w1 := (w44.setCell ⟨go39, (x12_3 : Int).toNat, none⟩ (.int .i64 (wrap64 (x9_1 + (rd l0_2 x12_3)))))) ?hg ?ho ?hn ?hr ?_; (case ho => rfl); (case hg => rfl); (case hn => rfl); (case hr => (go_simp; done)); intro w47 hw; have hg : w44.grownBy w47 (some go39) := (by rw [hw]; exact HP46.2); have hp_ : Kd.R (Kd.int .i64) 2 w47 w.heap.size (fun k_ => some k_ ≠ (u6 : Value).ownBlock ∧ some k_ ≠ (.slice (some ⟨go36, 0, none⟩) x7_3.length co29 : Value).ownBlock) (.slice (some ⟨go39, 0, none⟩) x8_3.length co39) y421 := (by rw [hw, Ny421.out]; exact HP46.1); clear HP46; have n0_ := Aside0.mk (Kd.R_after (v := (.slice (some ⟨go39, 0, none⟩) x8_3.length co39)) (v1 := (.slice (some ⟨go39, 0, none⟩) x8_3.length co39)) (ok := (fun k_ => some k_ ≠ (.slice (some ⟨go36, 0, none⟩) x7_3.length co29 : Value).ownBlock)) (by exact Kd.R_mono HO_6.out (fun _ hk => ⟨hk.2, hk.1⟩)) hg (.inl rfl)); have n1_ := Aside0.mk (Kd.R_after (v := (.slice (some ⟨go39, 0, none⟩) x8_3.length co39)) (v1 := (.slice (some ⟨go39, 0, none⟩) x8_3.length co39)) (ok := (fun k_ => some k_ ≠ (u6 : Value).ownBlock)) HO_7.out hg (.inl rfl)); have n2_ := Aside0.mk (hp_); have n3_ := Aside0.mk (blk_grown (g := gb396) (o := .cells #[.slice (some ad418) l0_0.length c0_0, .slice (some ad417) l0_1.length c0_1, .slice (some ad420) l0_2.length c0_2] 33 (0, 0)) BK396.out hg (Kd.R_ne HO_8.out BK396.out (by decide))); have n4_ := Aside0.mk ((by rw [hw]; exact below_set (HB.out) GB39.out : Below w.heap.size w w47)); clear HO_6; clear HO_7; clear HO_8; clear BK396; clear HB; have HO_6 := n0_; have HO_7 := n1_; have HO_8 := n2_; have BK396 := n3_; have HB := n4_; clear n0_ n1_ n2_ n3_ n4_; clear hg hw hp_))
      have n0_ := Aside0.mk (Kd.R_drew HO_6.out)
      have n1_ := Aside0.mk (Kd.R_drew HO_7.out)
      have n2_ := Aside0.mk (Kd.R_drew HO_8.out)
      have n3_ := Aside0.mk (blk_drew BK396.out)
      have n4_ := Aside0.mk (below_drew1 HB.out)
      clear HO_6
      clear HO_7
      clear HO_8
      clear BK396
      clear HB
      have HO_6 := n0_
      have HO_7 := n1_
      have HO_8 := n2_
      have BK396 := n3_
      have HB := n4_
      clear n0_ n1_ n2_ n3_ n4_
      have p422 : 0 ≤ (x12_3 : Int) := of_decide_eq_true (by (with_reducible assumption))
      have q422 : x12_3 < (y419.length : Int) := (by have h_ : (x12_3 : Int) < ((x7_3.length : Int) : Int) := of_decide_eq_true (by (with_reducible assumption)); (have e_ := (Kd.R_reads' HO_7.out).1; omega))
      have ql422 : ((x12_3 : Int) < ((x7_3.length : Int) : Int)) = True := eq_true (of_decide_eq_true (by (with_reducible assumption)))
      obtain ⟨ad422, e422, hx422_0⟩ := Kd.at_int (Kd.R_reads' HO_7.out).2.2 x12_3 p422 q422
      obtain rfl : (⟨go36, 0, none⟩ : Addr) = ad422 := (by injection e422)
      (simp only [add_plain] at hx422_0)
      replace p422 := eq_true p422
      replace q422 := eq_true q422
      refine start_ (n := 20) (S := fun w' => w'.cell? ⟨go36, (x12_3).toNat, none⟩ = some (.int .i64 (rd y419 x12_3))) (ds := []) bQ69_13 (by kernel_rfl) rfl rfl (hx422_0) (fun hHeld => ?_); refine with_tabW spec_l04Slots.tab19 spec_l04Slots.bits19 (fun HT_ HW_ => ?_)
      generalize w47.drew = w48 at HO_6 HO_7 HO_8 BK396 HB hx422_0 hHeld ⊢
      refine pure_ (i := 0) (N := some 86) (v := ?_) (a' := ?_) bQ69_14 rfl rfl (any_of HT_.out (by kernel_rfl)) (fun _ _ _ h => h) (Or.inl ⟨by rfl, ?_⟩) ?_ ?_
      rotate_left
      · intro w'
        go_simp
        with_reducible rfl
      rotate_left
      · simp only [Act.put, List.setIfInBounds_toArray, List.set_cons_zero, List.set_cons_succ, i64_w, i32_w]
        rfl
      refine pure_ (i := 1) (N := some 87) (v := ?_) (a' := ?_) bQ69_15 rfl rfl (any_of HT_.out (by kernel_rfl)) (fun _ _ _ h => h) (Or.inl ⟨by rfl, ?_⟩) ?_ ?_
      rotate_left
      · intro w'
        go_simp
        with_reducible rfl
      rotate_left
      · simp only [Act.put, List.setIfInBounds_toArray, List.set_cons_zero, List.set_cons_succ, i64_w, i32_w]
        rfl
      refine pure_ (i := 2) (N := some 88) (v := ?_) (a' := ?_) bQ69_16 rfl rfl (any_of HT_.out (by kernel_rfl)) (fun _ _ _ h => h) (Or.inl ⟨by rfl, ?_⟩) ?_ ?_
      rotate_left
      · intro w'
        go_simp
        with_reducible rfl
      rotate_left
      · simp only [Act.put, List.setIfInBounds_toArray, List.set_cons_zero, List.set_cons_succ, i64_w, i32_w]
        rfl
      refine take_ (i := 3) (N := some 89) (v := ?_) (a' := ?_) bQ69_17 rfl rfl (take_ofW HT_.out HW_.out (by kernel_rfl)) (fun _ _ _ h => h) (Or.inl ⟨by rfl, ?_⟩) hHeld ?_ ?_
      rotate_left
      · intro w' s0
        go_simp
        with_reducible rfl
      rotate_left
      · simp only [Act.put, List.setIfInBounds_toArray, List.set_cons_zero, List.set_cons_succ, i64_w, i32_w]
        rfl
      refine pure_ (i := 4) (N := some 90) (v := ?_) (a' := ?_) bQ69_18 rfl rfl (any_of HT_.out (by kernel_rfl)) (fun _ _ _ h => h) (Or.inl ⟨by rfl, ?_⟩) ?_ ?_
      rotate_left
      · intro w'
        go_simp
        with_reducible rfl
      rotate_left
      · simp only [Act.put, List.setIfInBounds_toArray, List.set_cons_zero, List.set_cons_succ, i64_w, i32_w]
        rfl
      refine pure_ (i := 5) (N := some 91) (v := ?_) (a' := ?_) bQ69_19 rfl rfl (any_of HT_.out (by kernel_rfl)) (fun _ _ _ h => h) (Or.inl ⟨by rfl, ?_⟩) ?_ ?_
      rotate_left
      · intro w'
        go_simp
        with_reducible rfl
      rotate_left
      · simp only [Act.put, List.setIfInBounds_toArray, List.set_cons_zero, List.set_cons_succ, i64_w, i32_w]
        rfl
      refine pure_ (i := 6) (N := some 92) (v := ?_) (a' := ?_) bQ69_20 rfl rfl (any_of HT_.out (by kernel_rfl)) (fun _ _ _ h => h) (Or.inl ⟨by rfl, ?_⟩) ?_ ?_
      rotate_left
      · intro w'
        go_simp
        with_reducible rfl
      rotate_left
      · simp only [Act.put, List.setIfInBounds_toArray, List.set_cons_zero, List.set_cons_succ, i64_w, i32_w]
        rfl
      refine pure_ (i := 7) (N := some 93) (v := ?_) (a' := ?_) bQ69_21 rfl rfl (any_of HT_.out (by kernel_rfl)) (fun _ _ _ h => h) (Or.inl ⟨by rfl, ?_⟩) ?_ ?_
      rotate_left
      · intro w'
        go_simp
        with_reducible rfl
      rotate_left
      · simp only [Act.put, List.setIfInBounds_toArray, List.set_cons_zero, List.set_cons_succ, i64_w, i32_w]
        rfl
      refine pure_ (i := 8) (N := some 94) (v := ?_) (a' := ?_) bQ69_22 rfl rfl (any_of HT_.out (by kernel_rfl)) (fun _ _ _ h => h) (Or.inl ⟨by rfl, ?_⟩) ?_ ?_
      rotate_left
      · intro w'
        go_simp
        with_reducible rfl
      rotate_left
      · simp only [Act.put, List.setIfInBounds_toArray, List.set_cons_zero, List.set_cons_succ, i64_w, i32_w]
        rfl
      refine pure_ (i := 9) (N := some 95) (v := undef) (a' := ?_) bQ69_23 rfl rfl (any_of HT_.out (by kernel_rfl)) (fun _ _ _ h => h) (Or.inr ⟨by rfl, rfl⟩) ?_ ?_
      rotate_left
      · simp only [Act.put, List.setIfInBounds_toArray, List.set_cons_zero, List.set_cons_succ, i64_w, i32_w]
        rfl
      refine pure_ (i := 10) (N := some 96) (v := undef) (a' := ?_) bQ69_24 rfl rfl (any_of HT_.out (by kernel_rfl)) (fun _ _ _ h => h) (Or.inr ⟨by rfl, rfl⟩) ?_ ?_
      rotate_left
      · simp only [Act.put, List.setIfInBounds_toArray, List.set_cons_zero, List.set_cons_succ, i64_w, i32_w]
        rfl
      refine pure_ (i := 11) (N := some 97) (v := undef) (a' := ?_) bQ69_25 rfl rfl (any_of HT_.out (by kernel_rfl)) (fun _ _ _ h => h) (Or.inr ⟨by rfl, rfl⟩) ?_ ?_
      rotate_left
      · simp only [Act.put, List.setIfInBounds_toArray, List.set_cons_zero, List.set_cons_succ, i64_w, i32_w]
        rfl
      refine pure_ (i := 12) (N := some 98) (v := undef) (a' := ?_) bQ69_26 rfl rfl (any_of HT_.out (by kernel_rfl)) (fun _ _ _ h => h) (Or.inr ⟨by rfl, rfl⟩) ?_ ?_
      rotate_left
      · simp only [Act.put, List.setIfInBounds_toArray, List.set_cons_zero, List.set_cons_succ, i64_w, i32_w]
        rfl
      refine pure_ (i := 13) (N := some 99) (v := undef) (a' := ?_) bQ69_27 rfl rfl (any_of HT_.out (by kernel_rfl)) (fun _ _ _ h => h) (Or.inr ⟨by rfl, rfl⟩) ?_ ?_
      rotate_left
      · simp only [Act.put, List.setIfInBounds_toArray, List.set_cons_zero, List.set_cons_succ, i64_w, i32_w]
        rfl
      refine pure_ (i := 14) (N := some 100) (v := undef) (a' := ?_) bQ69_28 rfl rfl (any_of HT_.out (by kernel_rfl)) (fun _ _ _ h => h) (Or.inr ⟨by rfl, rfl⟩) ?_ ?_
      rotate_left
      · simp only [Act.put, List.setIfInBounds_toArray, List.set_cons_zero, List.set_cons_succ, i64_w, i32_w]
        rfl
      refine pure_ (i := 15) (N := some 101) (v := undef) (a' := ?_) bQ69_29 rfl rfl (any_of HT_.out (by kernel_rfl)) (fun _ _ _ h => h) (Or.inr ⟨by rfl, rfl⟩) ?_ ?_
      rotate_left
      · simp only [Act.put, List.setIfInBounds_toArray, List.set_cons_zero, List.set_cons_succ, i64_w, i32_w]
        rfl
      refine pure_ (i := 16) (N := some 102) (v := undef) (a' := ?_) bQ69_30 rfl rfl (any_of HT_.out (by kernel_rfl)) (fun _ _ _ h => h) (Or.inr ⟨by rfl, rfl⟩) ?_ ?_
      rotate_left
      · simp only [Act.put, List.setIfInBounds_toArray, List.set_cons_zero, List.set_cons_succ, i64_w, i32_w]
        rfl
      refine pure_ (i := 17) (N := some 103) (v := undef) (a' := ?_) bQ69_31 rfl rfl (any_of HT_.out (by kernel_rfl)) (fun _ _ _ h => h) (Or.inr ⟨by rfl, rfl⟩) ?_ ?_
      rotate_left
      · simp only [Act.put, List.setIfInBounds_toArray, List.set_cons_zero, List.set_cons_succ, i64_w, i32_w]
        rfl
      refine pure_ (i := 18) (N := some 104) (v := ?_) (a' := ?_) bQ69_32 rfl rfl (any_of HT_.out (by kernel_rfl)) (fun _ _ _ h => h) (Or.inl ⟨by rfl, ?_⟩) ?_ ?_
      rotate_left
      · intro w'
        go_simp
        with_reducible rfl
      rotate_left
      · simp only [Act.put, List.setIfInBounds_toArray, List.set_cons_zero, List.set_cons_succ, i64_w, i32_w]
        rfl
      refine pure_ (i := 19) (N := some 105) (v := ?_) (a' := ?_) bQ69_33 rfl rfl (any_of HT_.out (by kernel_rfl)) (fun _ _ _ h => h) (Or.inl ⟨by rfl, ?_⟩) ?_ ?_
      rotate_left
      · intro w'
        go_simp
        with_reducible rfl
      rotate_left
      · simp only [Act.put, List.setIfInBounds_toArray, List.set_cons_zero, List.set_cons_succ, i64_w, i32_w]
        rfl
      refine done_ (done_of HT_.out (by kernel_rfl)) ?_
      try go_wp2
      (try simp only [← hl7_3])
      go_roundg k3
      case measure => have := HK1.out; have := HK2.out; have := HK3.out; omega
      case rel => exact ⟨(y419), (y421), (x12_3), (wrap64 (x12_3 + 1)), (by rfl), (by rfl), H', ⟨by have := HK1.out; have := HK2.out; have := HK3.out; omega⟩, ⟨by (try simp only [hl7_3]); exact HO_6.out⟩, ⟨by (try simp only [hl7_3]); exact HO_7.out⟩, ⟨by (try simp only [hl7_3]); exact HO_8.out⟩, ⟨by (try simp only [hl7_3]); exact BK396.out⟩, ⟨by exact HB.out⟩⟩
    rw [if_neg c41] at H
    have c41b0 : decide (x11_3 < 0) = false := decide_eq_false c41
    clear c41
    by_cases c49 : 0 ≤ x11_3
    rotate_left
    · rw [if_neg c49] at H
      exact absurd H (by simp)
    rw [if_pos c49] at H
    have c49b0 : decide (0 ≤ x11_3) = true := decide_eq_true c49
    clear c49
    by_cases c50 : x11_3 < (x8_3.length : Int)
    rotate_left
    · rw [if_neg c50] at H
      exact absurd H (by simp)
    rw [if_pos c50] at H
    have c50b0 : decide (x11_3 < (x8_3.length : Int)) = true := decide_eq_true c50
    clear c50
    by_cases c51 : (rd y421 x12_3) < (rd y421 x11_3)
    · rw [if_pos c51] at H
      have c51b0 : decide ((rd y421 x12_3) < (rd y421 x11_3)) = true := decide_eq_true c51
      clear c51
      have H' := Aside0.mk H
      clear H
      have hcz52_0 : wr.cell? ⟨gb396, 0, none⟩ = some (.slice A0_0 l0_0.length c0_0) := (blk_cell BK396.out 0).trans rfl
      have hcz52_1 : wr.cell? ⟨gb396, 1, none⟩ = some (.slice A0_1 l0_1.length c0_1) := (blk_cell BK396.out 1).trans rfl
      have hcz52_2 : wr.cell? ⟨gb396, 2, none⟩ = some (.slice A0_2 l0_2.length c0_2) := (blk_cell BK396.out 2).trans rfl
      have hfz52_0 := blk_frozen BK396.out 0
      have hfz52_1 := blk_frozen BK396.out 1
      have hfz52_2 := blk_frozen BK396.out 2
      have p417 : 0 ≤ (x12_3 : Int) := of_decide_eq_true (by (with_reducible assumption))
      have q417 : x12_3 < (l0_1.length : Int) := of_decide_eq_true (by (with_reducible assumption))
      obtain ⟨ad417, e417, hx417_0⟩ := Kd.at_int HR0_1.out x12_3 p417 q417
      cases e417
      replace hx417_0 := (HB.out.cell (World.block_lt_of_cell? w _ hx417_0)).trans hx417_0
      replace p417 := eq_true p417
      replace q417 := eq_true q417
      have p418 : 0 ≤ (x12_3 : Int) := of_decide_eq_true (by (with_reducible assumption))
      have q418 : x12_3 < (l0_0.length : Int) := of_decide_eq_true (by (with_reducible assumption))
      obtain ⟨ad418, e418, hx418_0⟩ := Kd.at_int HR0_0.out x12_3 p418 q418
      cases e418
      replace hx418_0 := (HB.out.cell (World.block_lt_of_cell? w _ hx418_0)).trans hx418_0
      replace p418 := eq_true p418
      replace q418 := eq_true q418
      have p36 : 0 ≤ (x12_3 : Int) := of_decide_eq_true (by (with_reducible assumption))
      have q36 : (x12_3 : Int) < ((x7_3.length : Int) : Int) := of_decide_eq_true (by (with_reducible assumption))
      obtain ⟨go36, co36, eo36, gb36, gl36, cl36, HG36⟩ := Kd.R_form HO_7.out (by omega)
      (cases eo36)
      have GB36 := Aside0.mk gb36
      have GG36 := Aside0.mk HG36
      clear gb36 gl36 HG36
      obtain ⟨hx36_0, hf36_0⟩ := Kd.R_celln 0 HO_7.out (x12_3 : Int) p36 q36
      replace p36 := eq_true p36
      replace q36 := eq_true q36
      have HP53 := Kd.R_putg HO_7.out (x12_3 : Int) (rd l0_0 x12_3)
      try go_wp2_with (first | ((with_reducible refine gate_store (t := 2) (p := 75) rfl ?_); refine store_event (t := 2) (p := 75) (v := ?vo_w54) (w1 := (wr.setCell ⟨go36, (x12_3 : Int).toNat, none⟩ (.int .i64 (rd l0_0 x12_3)))) ?hg ?ho ?hn ?hr ?_; (case ho => rfl); (case hg => rfl); (case hn => rfl); (case hr => (go_simp; done)); intro w54 hw; have hg : wr.grownBy w54 (some go36) := (by rw [hw]; exact HP53.2); have hp_ : Kd.R (Kd.int .i64) 2 w54 w.heap.size (fun k_ => some k_ ≠ (u6 : Value).ownBlock ∧ some k_ ≠ (v405 : Value).ownBlock) (.slice (some ⟨go36, 0, none⟩) x7_3.length co29) y419 := (by rw [hw, Ny419.out]; exact HP53.1); clear HP53; have n0_ := Aside0.mk (Kd.R_after (v := (.slice (some ⟨go36, 0, none⟩) x7_3.length co29)) (v1 := (.slice (some ⟨go36, 0, none⟩) x7_3.length co29)) (ok := (fun k_ => some k_ ≠ (v405 : Value).ownBlock)) (by exact Kd.R_mono HO_6.out (fun _ hk => ⟨hk.2, hk.1⟩)) hg (.inl rfl)); have n1_ := Aside0.mk (hp_); have n2_ := Aside0.mk (Kd.R_after (v := (.slice (some ⟨go36, 0, none⟩) x7_3.length co29)) (v1 := (.slice (some ⟨go36, 0, none⟩) x7_3.length co29)) (ok := (fun k_ => some k_ ≠ (u6 : Value).ownBlock)) HO_8.out hg (.inl rfl)); have n3_ := Aside0.mk (blk_grown (g := gb396) (o := .cells #[.slice (some ad418) l0_0.length c0_0, .slice (some ad417) l0_1.length c0_1, .slice A0_2 l0_2.length c0_2] 33 (0, 0)) BK396.out hg (Kd.R_ne HO_7.out BK396.out (by decide))); have n4_ := Aside0.mk ((by rw [hw]; exact below_set (HB.out) GB36.out : Below w.heap.size w w54)); clear HO_6; clear HO_7; clear HO_8; clear BK396; clear HB; have HO_6 := n0_; have HO_7 := n1_; have HO_8 := n2_; have BK396 := n3_; have HB := n4_; clear n0_ n1_ n2_ n3_ n4_; clear hg hw hp_; have hcz55_0 : w54.cell? ⟨gb396, 0, none⟩ = some (.slice (some ad418) l0_0.length c0_0) := (blk_cell BK396.out 0).trans rfl; have hcz55_1 : w54.cell? ⟨gb396, 1, none⟩ = some (.slice (some ad417) l0_1.length c0_1) := (blk_cell BK396.out 1).trans rfl; have hcz55_2 : w54.cell? ⟨gb396, 2, none⟩ = some (.slice A0_2 l0_2.length c0_2) := (blk_cell BK396.out 2).trans rfl; have hfz55_0 := blk_frozen BK396.out 0; have hfz55_1 := blk_frozen BK396.out 1; have hfz55_2 := blk_frozen BK396.out 2; have p420 : 0 ≤ (x12_3 : Int) := of_decide_eq_true (by (with_reducible assumption)); have q420 : x12_3 < (l0_2.length : Int) := of_decide_eq_true (by (with_reducible assumption)); obtain ⟨ad420, e420, hx420_0⟩ := Kd.at_int HR0_2.out x12_3 p420 q420; cases e420; replace hx420_0 := (HB.out.cell (World.block_lt_of_cell? w _ hx420_0)).trans hx420_0; replace p420 := eq_true p420; replace q420 := eq_true q420; have p39 : 0 ≤ (x12_3 : Int) := of_decide_eq_true (by (with_reducible assumption)); have q39 : (x12_3 : Int) < ((x8_3.length : Int) : Int) := of_decide_eq_true (by (with_reducible assumption)); obtain ⟨go39, co39, eo39, gb39, gl39, cl39, HG39⟩ := Kd.R_form HO_8.out (by omega); (cases eo39); have GB39 := Aside0.mk gb39; have GG39 := Aside0.mk HG39; clear gb39 gl39 HG39; obtain ⟨hx39_0, hf39_0⟩ := Kd.R_celln 0 HO_8.out (x12_3 : Int) p39 q39; replace p39 := eq_true p39; replace q39 := eq_true q39; obtain ⟨hy56_, hz56_⟩ := Kd.R_celln 0 HO_8.out (x12_3 : Int) (of_decide_eq_true (by (with_reducible assumption))) (of_decide_eq_true (by (with_reducible assumption))); have HP56 := Kd.R_putg HO_8.out (x12_3 : Int) (wrap64 (x9_1 + (rd l0_2 x12_3)))) | ((with_reducible refine gate_store (t := 2) (p := 85) rfl ?_); refine store_event (t := 2) (p := 85) (v := ?vo_w57) (w1 := (w54.setCell ⟨go39, (x12_3 : Int).toNat, none⟩ (.int .i64 (wrap64 (x9_1 + (rd l0_2 x12_3)))))) ?hg ?ho ?hn ?hr ?_; (case ho => rfl); (case hg => rfl); (case hn => rfl); (case hr => (go_simp; done)); intro w57 hw; have hg : w54.grownBy w57 (some go39) := (by rw [hw]; exact HP56.2); have hp_ : Kd.R (Kd.int .i64) 2 w57 w.heap.size (fun k_ => some k_ ≠ (u6 : Value).ownBlock ∧ some k_ ≠ (.slice (some ⟨go36, 0, none⟩) x7_3.length co29 : Value).ownBlock) (.slice (some ⟨go39, 0, none⟩) x8_3.length co39) y421 := (by rw [hw, Ny421.out]; exact HP56.1); clear HP56; have n0_ := Aside0.mk (Kd.R_after (v := (.slice (some ⟨go39, 0, none⟩) x8_3.length co39)) (v1 := (.slice (some ⟨go39, 0, none⟩) x8_3.length co39)) (ok := (fun k_ => some k_ ≠ (.slice (some ⟨go36, 0, none⟩) x7_3.length co29 : Value).ownBlock)) (by exact Kd.R_mono HO_6.out (fun _ hk => ⟨hk.2, hk.1⟩)) hg (.inl rfl)); have n1_ := Aside0.mk (Kd.R_after (v := (.slice (some ⟨go39, 0, none⟩) x8_3.length co39)) (v1 := (.slice (some ⟨go39, 0, none⟩) x8_3.length co39)) (ok := (fun k_ => some k_ ≠ (u6 : Value).ownBlock)) HO_7.out hg (.inl rfl)); have n2_ := Aside0.mk (hp_); have n3_ := Aside0.mk (blk_grown (g := gb396) (o := .cells #[.slice (some ad418) l0_0.length c0_0, .slice (some ad417) l0_1.length c0_1, .slice (some ad420) l0_2.length c0_2] 33 (0, 0)) BK396.out hg (Kd.R_ne HO_8.out BK396.out (by decide))); have n4_ := Aside0.mk ((by rw [hw]; exact below_set (HB.out) GB39.out : Below w.heap.size w w57)); clear HO_6; clear HO_7; clear HO_8; clear BK396; clear HB; have HO_6 := n0_; have HO_7 := n1_; have HO_8 := n2_; have BK396 := n3_; have HB := n4_; clear n0_ n1_ n2_ n3_ n4_; clear hg hw hp_))
      have n0_ := Aside0.mk (Kd.R_drew HO_6.out)
      have n1_ := Aside0.mk (Kd.R_drew HO_7.out)
      have n2_ := Aside0.mk (Kd.R_drew HO_8.out)
      have n3_ := Aside0.mk (blk_drew BK396.out)
      have n4_ := Aside0.mk (below_drew1 HB.out)
      clear HO_6
      clear HO_7
      clear HO_8
      clear BK396
      clear HB
      have HO_6 := n0_
      have HO_7 := n1_
      have HO_8 := n2_
      have BK396 := n3_
      have HB := n4_
      clear n0_ n1_ n2_ n3_ n4_
      have p422 : 0 ≤ (x12_3 : Int) := of_decide_eq_true (by (with_reducible assumption))
      have q422 : x12_3 < (y419.length : Int) := (by have h_ : (x12_3 : Int) < ((x7_3.length : Int) : Int) := of_decide_eq_true (by (with_reducible assumption)); (have e_ := (Kd.R_reads' HO_7.out).1; omega))
      have ql422 : ((x12_3 : Int) < ((x7_3.length : Int) : Int)) = True := eq_true (of_decide_eq_true (by (with_reducible assumption)))
      obtain ⟨ad422, e422, hx422_0⟩ := Kd.at_int (Kd.R_reads' HO_7.out).2.2 x12_3 p422 q422
      obtain rfl : (⟨go36, 0, none⟩ : Addr) = ad422 := (by injection e422)
      (simp only [add_plain] at hx422_0)
      replace p422 := eq_true p422
      replace q422 := eq_true q422
      have p423 : 0 ≤ (x12_3 : Int) := of_decide_eq_true (by (with_reducible assumption))
      have q423 : x12_3 < (y421.length : Int) := (by have h_ : (x12_3 : Int) < ((x8_3.length : Int) : Int) := of_decide_eq_true (by (with_reducible assumption)); (have e_ := (Kd.R_reads' HO_8.out).1; omega))
      have ql423 : ((x12_3 : Int) < ((x8_3.length : Int) : Int)) = True := eq_true (of_decide_eq_true (by (with_reducible assumption)))
      obtain ⟨ad423, e423, hx423_0⟩ := Kd.at_int (Kd.R_reads' HO_8.out).2.2 x12_3 p423 q423
      obtain rfl : (⟨go39, 0, none⟩ : Addr) = ad423 := (by injection e423)
      (simp only [add_plain] at hx423_0)
      replace p423 := eq_true p423
      replace q423 := eq_true q423
      have p424 : 0 ≤ (x11_3 : Int) := of_decide_eq_true (by (with_reducible assumption))
      have q424 : x11_3 < (y421.length : Int) := (by have h_ : (x11_3 : Int) < ((x8_3.length : Int) : Int) := of_decide_eq_true (by (with_reducible assumption)); (have e_ := (Kd.R_reads' HO_8.out).1; omega))
      have ql424 : ((x11_3 : Int) < ((x8_3.length : Int) : Int)) = True := eq_true (of_decide_eq_true (by (with_reducible assumption)))
      obtain ⟨ad424, e424, hx424_0⟩ := Kd.at_int (Kd.R_reads' HO_8.out).2.2 x11_3 p424 q424
      obtain rfl : (⟨go39, 0, none⟩ : Addr) = ad424 := (by injection e424)
      (simp only [add_plain] at hx424_0)
      replace p424 := eq_true p424
      replace q424 := eq_true q424
      refine start_ (n := 20) (S := fun w' => w'.cell? ⟨go36, (x12_3).toNat, none⟩ = some (.int .i64 (rd y419 x12_3)) ∧ w'.cell? ⟨go39, (x12_3).toNat, none⟩ = some (.int .i64 (rd y421 x12_3)) ∧ w'.cell? ⟨go39, (x11_3).toNat, none⟩ = some (.int .i64 (rd y421 x11_3))) (ds := []) bQ69_13 (by kernel_rfl) rfl rfl ⟨hx422_0, hx423_0, hx424_0⟩ (fun hHeld => ?_); refine with_tabW spec_l04Slots.tab19 spec_l04Slots.bits19 (fun HT_ HW_ => ?_)
      generalize w57.drew = w58 at HO_6 HO_7 HO_8 BK396 HB hx422_0 hx423_0 hx424_0 hHeld ⊢
      refine pure_ (i := 0) (N := some 86) (v := ?_) (a' := ?_) bQ69_14 rfl rfl (any_of HT_.out (by kernel_rfl)) (fun _ _ _ h => h) (Or.inl ⟨by rfl, ?_⟩) ?_ ?_
      rotate_left
      · intro w'
        go_simp
        with_reducible rfl
      rotate_left
      · simp only [Act.put, List.setIfInBounds_toArray, List.set_cons_zero, List.set_cons_succ, i64_w, i32_w]
        rfl
      refine pure_ (i := 1) (N := some 87) (v := ?_) (a' := ?_) bQ69_15 rfl rfl (any_of HT_.out (by kernel_rfl)) (fun _ _ _ h => h) (Or.inl ⟨by rfl, ?_⟩) ?_ ?_
      rotate_left
      · intro w'
        go_simp
        with_reducible rfl
      rotate_left
      · simp only [Act.put, List.setIfInBounds_toArray, List.set_cons_zero, List.set_cons_succ, i64_w, i32_w]
        rfl
      refine pure_ (i := 2) (N := some 88) (v := ?_) (a' := ?_) bQ69_16 rfl rfl (any_of HT_.out (by kernel_rfl)) (fun _ _ _ h => h) (Or.inl ⟨by rfl, ?_⟩) ?_ ?_
      rotate_left
      · intro w'
        go_simp
        with_reducible rfl
      rotate_left
      · simp only [Act.put, List.setIfInBounds_toArray, List.set_cons_zero, List.set_cons_succ, i64_w, i32_w]
        rfl
      refine take_ (i := 3) (N := some 89) (v := ?_) (a' := ?_) bQ69_17 rfl rfl (take_ofW HT_.out HW_.out (by kernel_rfl)) (fun _ _ _ h => h) (Or.inl ⟨by rfl, ?_⟩) hHeld ?_ ?_
      rotate_left
      · rintro w' ⟨s0, s1, s2⟩
        go_simp
        with_reducible rfl
      rotate_left
      · simp only [Act.put, List.setIfInBounds_toArray, List.set_cons_zero, List.set_cons_succ, i64_w, i32_w]
        rfl
      refine pure_ (i := 4) (N := some 90) (v := ?_) (a' := ?_) bQ69_18 rfl rfl (any_of HT_.out (by kernel_rfl)) (fun _ _ _ h => h) (Or.inl ⟨by rfl, ?_⟩) ?_ ?_
      rotate_left
      · intro w'
        go_simp
        with_reducible rfl
      rotate_left
      · simp only [Act.put, List.setIfInBounds_toArray, List.set_cons_zero, List.set_cons_succ, i64_w, i32_w]
        rfl
      refine pure_ (i := 5) (N := some 91) (v := ?_) (a' := ?_) bQ69_19 rfl rfl (any_of HT_.out (by kernel_rfl)) (fun _ _ _ h => h) (Or.inl ⟨by rfl, ?_⟩) ?_ ?_
      rotate_left
      · intro w'
        go_simp
        with_reducible rfl
      rotate_left
      · simp only [Act.put, List.setIfInBounds_toArray, List.set_cons_zero, List.set_cons_succ, i64_w, i32_w]
        rfl
      refine pure_ (i := 6) (N := some 92) (v := ?_) (a' := ?_) bQ69_20 rfl rfl (any_of HT_.out (by kernel_rfl)) (fun _ _ _ h => h) (Or.inl ⟨by rfl, ?_⟩) ?_ ?_
      rotate_left
      · intro w'
        go_simp
        with_reducible rfl
      rotate_left
      · simp only [Act.put, List.setIfInBounds_toArray, List.set_cons_zero, List.set_cons_succ, i64_w, i32_w]
        rfl
      refine pure_ (i := 7) (N := some 93) (v := ?_) (a' := ?_) bQ69_21 rfl rfl (any_of HT_.out (by kernel_rfl)) (fun _ _ _ h => h) (Or.inl ⟨by rfl, ?_⟩) ?_ ?_
      rotate_left
      · intro w'
        go_simp
        with_reducible rfl
      rotate_left
      · simp only [Act.put, List.setIfInBounds_toArray, List.set_cons_zero, List.set_cons_succ, i64_w, i32_w]
        rfl
      refine pure_ (i := 8) (N := some 94) (v := ?_) (a' := ?_) bQ69_22 rfl rfl (any_of HT_.out (by kernel_rfl)) (fun _ _ _ h => h) (Or.inl ⟨by rfl, ?_⟩) ?_ ?_
      rotate_left
      · intro w'
        go_simp
        with_reducible rfl
      rotate_left
      · simp only [Act.put, List.setIfInBounds_toArray, List.set_cons_zero, List.set_cons_succ, i64_w, i32_w]
        rfl
      refine pure_ (i := 9) (N := some 95) (v := ?_) (a' := ?_) bQ69_23 rfl rfl (any_of HT_.out (by kernel_rfl)) (fun _ _ _ h => h) (Or.inl ⟨by rfl, ?_⟩) ?_ ?_
      rotate_left
      · intro w'
        go_simp
        with_reducible rfl
      rotate_left
      · simp only [Act.put, List.setIfInBounds_toArray, List.set_cons_zero, List.set_cons_succ, i64_w, i32_w]
        rfl
      refine pure_ (i := 10) (N := some 96) (v := ?_) (a' := ?_) bQ69_24 rfl rfl (any_of HT_.out (by kernel_rfl)) (fun _ _ _ h => h) (Or.inl ⟨by rfl, ?_⟩) ?_ ?_
      rotate_left
      · intro w'
        go_simp
        with_reducible rfl
      rotate_left
      · simp only [Act.put, List.setIfInBounds_toArray, List.set_cons_zero, List.set_cons_succ, i64_w, i32_w]
        rfl
      refine pure_ (i := 11) (N := some 97) (v := ?_) (a' := ?_) bQ69_25 rfl rfl (any_of HT_.out (by kernel_rfl)) (fun _ _ _ h => h) (Or.inl ⟨by rfl, ?_⟩) ?_ ?_
      rotate_left
      · intro w'
        go_simp
        with_reducible rfl
      rotate_left
      · simp only [Act.put, List.setIfInBounds_toArray, List.set_cons_zero, List.set_cons_succ, i64_w, i32_w]
        rfl
      refine pure_ (i := 13) (N := some 99) (v := ?_) (a' := ?_) bQ69_34 rfl rfl (any_of HT_.out (by kernel_rfl)) (fun _ _ _ h => h) (Or.inl ⟨by rfl, ?_⟩) ?_ ?_
      rotate_left
      · intro w'
        go_simp
        with_reducible rfl
      rotate_left
      · simp only [Act.put, List.setIfInBounds_toArray, List.set_cons_zero, List.set_cons_succ, i64_w, i32_w]
        rfl
      refine pure_ (i := 14) (N := some 100) (v := ?_) (a' := ?_) bQ69_35 rfl rfl (any_of HT_.out (by kernel_rfl)) (fun _ _ _ h => h) (Or.inl ⟨by rfl, ?_⟩) ?_ ?_
      rotate_left
      · intro w'
        go_simp
        with_reducible rfl
      rotate_left
      · simp only [Act.put, List.setIfInBounds_toArray, List.set_cons_zero, List.set_cons_succ, i64_w, i32_w]
        rfl
      refine pure_ (i := 15) (N := some 101) (v := ?_) (a' := ?_) bQ69_36 rfl rfl (any_of HT_.out (by kernel_rfl)) (fun _ _ _ h => h) (Or.inl ⟨by rfl, ?_⟩) ?_ ?_
      rotate_left
      · intro w'
        go_simp
        with_reducible rfl
      rotate_left
      · simp only [Act.put, List.setIfInBounds_toArray, List.set_cons_zero, List.set_cons_succ, i64_w, i32_w]
        rfl
      refine take_ (i := 12) (N := some 98) (v := ?_) (a' := ?_) bQ69_29 rfl rfl (take_ofW HT_.out HW_.out (by kernel_rfl)) (fun _ _ _ h => h) (Or.inl ⟨by rfl, ?_⟩) hHeld ?_ ?_
      rotate_left
      · rintro w' ⟨s0, s1, s2⟩
        go_simp
        with_reducible rfl
      rotate_left
      · simp only [Act.put, List.setIfInBounds_toArray, List.set_cons_zero, List.set_cons_succ, i64_w, i32_w]
        rfl
      refine take_ (i := 16) (N := some 102) (v := ?_) (a' := ?_) bQ69_30 rfl rfl (take_ofW HT_.out HW_.out (by kernel_rfl)) (fun _ _ _ h => h) (Or.inl ⟨by rfl, ?_⟩) hHeld ?_ ?_
      rotate_left
      · rintro w' ⟨s0, s1, s2⟩
        go_simp
        with_reducible rfl
      rotate_left
      · simp only [Act.put, List.setIfInBounds_toArray, List.set_cons_zero, List.set_cons_succ, i64_w, i32_w]
        rfl
      refine pure_ (i := 17) (N := some 103) (v := ?_) (a' := ?_) bQ69_31 rfl rfl (any_of HT_.out (by kernel_rfl)) (fun _ _ _ h => h) (Or.inl ⟨by rfl, ?_⟩) ?_ ?_
      rotate_left
      · intro w'
        go_simp
        with_reducible rfl
      rotate_left
      · simp only [Act.put, List.setIfInBounds_toArray, List.set_cons_zero, List.set_cons_succ, i64_w, i32_w]
        rfl
      refine pure_ (i := 18) (N := some 104) (v := ?_) (a' := ?_) bQ69_32 rfl rfl (any_of HT_.out (by kernel_rfl)) (fun _ _ _ h => h) (Or.inl ⟨by rfl, ?_⟩) ?_ ?_
      rotate_left
      · intro w'
        go_simp
        with_reducible rfl
      rotate_left
      · simp only [Act.put, List.setIfInBounds_toArray, List.set_cons_zero, List.set_cons_succ, i64_w, i32_w]
        rfl
      refine pure_ (i := 19) (N := some 105) (v := ?_) (a' := ?_) bQ69_33 rfl rfl (any_of HT_.out (by kernel_rfl)) (fun _ _ _ h => h) (Or.inl ⟨by rfl, ?_⟩) ?_ ?_
      rotate_left
      · intro w'
        go_simp
        with_reducible rfl
      rotate_left
      · simp only [Act.put, List.setIfInBounds_toArray, List.set_cons_zero, List.set_cons_succ, i64_w, i32_w]
        rfl
      refine done_ (done_of HT_.out (by kernel_rfl)) ?_
      try go_wp2
      (try simp only [← hl7_3])
      go_roundg k3
      case measure => have := HK1.out; have := HK2.out; have := HK3.out; omega
      case rel => exact ⟨(y419), (y421), (x12_3), (wrap64 (x12_3 + 1)), (by rfl), (by rfl), H', ⟨by have := HK1.out; have := HK2.out; have := HK3.out; omega⟩, ⟨by (try simp only [hl7_3]); exact HO_6.out⟩, ⟨by (try simp only [hl7_3]); exact HO_7.out⟩, ⟨by (try simp only [hl7_3]); exact HO_8.out⟩, ⟨by (try simp only [hl7_3]); exact BK396.out⟩, ⟨by exact HB.out⟩⟩
    rw [if_neg c51] at H
    have c51b0 : decide ((rd y421 x12_3) < (rd y421 x11_3)) = false := decide_eq_false c51
    clear c51
    have H' := Aside0.mk H
    clear H
    have hcz59_0 : wr.cell? ⟨gb396, 0, none⟩ = some (.slice A0_0 l0_0.length c0_0) := (blk_cell BK396.out 0).trans rfl
    have hcz59_1 : wr.cell? ⟨gb396, 1, none⟩ = some (.slice A0_1 l0_1.length c0_1) := (blk_cell BK396.out 1).trans rfl
    have hcz59_2 : wr.cell? ⟨gb396, 2, none⟩ = some (.slice A0_2 l0_2.length c0_2) := (blk_cell BK396.out 2).trans rfl
    have hfz59_0 := blk_frozen BK396.out 0
    have hfz59_1 := blk_frozen BK396.out 1
    have hfz59_2 := blk_frozen BK396.out 2
    have p417 : 0 ≤ (x12_3 : Int) := of_decide_eq_true (by (with_reducible assumption))
    have q417 : x12_3 < (l0_1.length : Int) := of_decide_eq_true (by (with_reducible assumption))
    obtain ⟨ad417, e417, hx417_0⟩ := Kd.at_int HR0_1.out x12_3 p417 q417
    cases e417
    replace hx417_0 := (HB.out.cell (World.block_lt_of_cell? w _ hx417_0)).trans hx417_0
    replace p417 := eq_true p417
    replace q417 := eq_true q417
    have p418 : 0 ≤ (x12_3 : Int) := of_decide_eq_true (by (with_reducible assumption))
    have q418 : x12_3 < (l0_0.length : Int) := of_decide_eq_true (by (with_reducible assumption))
    obtain ⟨ad418, e418, hx418_0⟩ := Kd.at_int HR0_0.out x12_3 p418 q418
    cases e418
    replace hx418_0 := (HB.out.cell (World.block_lt_of_cell? w _ hx418_0)).trans hx418_0
    replace p418 := eq_true p418
    replace q418 := eq_true q418
    have p36 : 0 ≤ (x12_3 : Int) := of_decide_eq_true (by (with_reducible assumption))
    have q36 : (x12_3 : Int) < ((x7_3.length : Int) : Int) := of_decide_eq_true (by (with_reducible assumption))
    obtain ⟨go36, co36, eo36, gb36, gl36, cl36, HG36⟩ := Kd.R_form HO_7.out (by omega)
    (cases eo36)
    have GB36 := Aside0.mk gb36
    have GG36 := Aside0.mk HG36
    clear gb36 gl36 HG36
    obtain ⟨hx36_0, hf36_0⟩ := Kd.R_celln 0 HO_7.out (x12_3 : Int) p36 q36
    replace p36 := eq_true p36
    replace q36 := eq_true q36
    have HP60 := Kd.R_putg HO_7.out (x12_3 : Int) (rd l0_0 x12_3)
    try go_wp2_with (first | ((with_reducible refine gate_store (t := 2) (p := 75) rfl ?_); refine store_event (t := 2) (p := 75) (v := ?vo_w61) (w1 := (wr.setCell ⟨go36, (x12_3 : Int).toNat, none⟩ (.int .i64 (rd l0_0 x12_3)))) ?hg ?ho ?hn ?hr ?_; (case ho => rfl); (case hg => rfl); (case hn => rfl); (case hr => (go_simp; done)); intro w61 hw; have hg : wr.grownBy w61 (some go36) := (by rw [hw]; exact HP60.2); have hp_ : Kd.R (Kd.int .i64) 2 w61 w.heap.size (fun k_ => some k_ ≠ (u6 : Value).ownBlock ∧ some k_ ≠ (v405 : Value).ownBlock) (.slice (some ⟨go36, 0, none⟩) x7_3.length co29) y419 := (by rw [hw, Ny419.out]; exact HP60.1); clear HP60; have n0_ := Aside0.mk (Kd.R_after (v := (.slice (some ⟨go36, 0, none⟩) x7_3.length co29)) (v1 := (.slice (some ⟨go36, 0, none⟩) x7_3.length co29)) (ok := (fun k_ => some k_ ≠ (v405 : Value).ownBlock)) (by exact Kd.R_mono HO_6.out (fun _ hk => ⟨hk.2, hk.1⟩)) hg (.inl rfl)); have n1_ := Aside0.mk (hp_); have n2_ := Aside0.mk (Kd.R_after (v := (.slice (some ⟨go36, 0, none⟩) x7_3.length co29)) (v1 := (.slice (some ⟨go36, 0, none⟩) x7_3.length co29)) (ok := (fun k_ => some k_ ≠ (u6 : Value).ownBlock)) HO_8.out hg (.inl rfl)); have n3_ := Aside0.mk (blk_grown (g := gb396) (o := .cells #[.slice (some ad418) l0_0.length c0_0, .slice (some ad417) l0_1.length c0_1, .slice A0_2 l0_2.length c0_2] 33 (0, 0)) BK396.out hg (Kd.R_ne HO_7.out BK396.out (by decide))); have n4_ := Aside0.mk ((by rw [hw]; exact below_set (HB.out) GB36.out : Below w.heap.size w w61)); clear HO_6; clear HO_7; clear HO_8; clear BK396; clear HB; have HO_6 := n0_; have HO_7 := n1_; have HO_8 := n2_; have BK396 := n3_; have HB := n4_; clear n0_ n1_ n2_ n3_ n4_; clear hg hw hp_; have hcz62_0 : w61.cell? ⟨gb396, 0, none⟩ = some (.slice (some ad418) l0_0.length c0_0) := (blk_cell BK396.out 0).trans rfl; have hcz62_1 : w61.cell? ⟨gb396, 1, none⟩ = some (.slice (some ad417) l0_1.length c0_1) := (blk_cell BK396.out 1).trans rfl; have hcz62_2 : w61.cell? ⟨gb396, 2, none⟩ = some (.slice A0_2 l0_2.length c0_2) := (blk_cell BK396.out 2).trans rfl; have hfz62_0 := blk_frozen BK396.out 0; have hfz62_1 := blk_frozen BK396.out 1; have hfz62_2 := blk_frozen BK396.out 2; have p420 : 0 ≤ (x12_3 : Int) := of_decide_eq_true (by (with_reducible assumption)); have q420 : x12_3 < (l0_2.length : Int) := of_decide_eq_true (by (with_reducible assumption)); obtain ⟨ad420, e420, hx420_0⟩ := Kd.at_int HR0_2.out x12_3 p420 q420; cases e420; replace hx420_0 := (HB.out.cell (World.block_lt_of_cell? w _ hx420_0)).trans hx420_0; replace p420 := eq_true p420; replace q420 := eq_true q420; have p39 : 0 ≤ (x12_3 : Int) := of_decide_eq_true (by (with_reducible assumption)); have q39 : (x12_3 : Int) < ((x8_3.length : Int) : Int) := of_decide_eq_true (by (with_reducible assumption)); obtain ⟨go39, co39, eo39, gb39, gl39, cl39, HG39⟩ := Kd.R_form HO_8.out (by omega); (cases eo39); have GB39 := Aside0.mk gb39; have GG39 := Aside0.mk HG39; clear gb39 gl39 HG39; obtain ⟨hx39_0, hf39_0⟩ := Kd.R_celln 0 HO_8.out (x12_3 : Int) p39 q39; replace p39 := eq_true p39; replace q39 := eq_true q39; obtain ⟨hy63_, hz63_⟩ := Kd.R_celln 0 HO_8.out (x12_3 : Int) (of_decide_eq_true (by (with_reducible assumption))) (of_decide_eq_true (by (with_reducible assumption))); have HP63 := Kd.R_putg HO_8.out (x12_3 : Int) (wrap64 (x9_1 + (rd l0_2 x12_3)))) | ((with_reducible refine gate_store (t := 2) (p := 85) rfl ?_); refine store_event (t := 2) (p := 85) (v := ?vo_w64) (w1 := (w61.setCell ⟨go39, (x12_3 : Int).toNat, none⟩ (.int .i64 (wrap64 (x9_1 + (rd l0_2 x12_3)))))) ?hg ?ho ?hn ?hr ?_; (case ho => rfl); (case hg => rfl); (case hn => rfl); (case hr => (go_simp; done)); intro w64 hw; have hg : w61.grownBy w64 (some go39) := (by rw [hw]; exact HP63.2); have hp_ : Kd.R (Kd.int .i64) 2 w64 w.heap.size (fun k_ => some k_ ≠ (u6 : Value).ownBlock ∧ some k_ ≠ (.slice (some ⟨go36, 0, none⟩) x7_3.length co29 : Value).ownBlock) (.slice (some ⟨go39, 0, none⟩) x8_3.length co39) y421 := (by rw [hw, Ny421.out]; exact HP63.1); clear HP63; have n0_ := Aside0.mk (Kd.R_after (v := (.slice (some ⟨go39, 0, none⟩) x8_3.length co39)) (v1 := (.slice (some ⟨go39, 0, none⟩) x8_3.length co39)) (ok := (fun k_ => some k_ ≠ (.slice (some ⟨go36, 0, none⟩) x7_3.length co29 : Value).ownBlock)) (by exact Kd.R_mono HO_6.out (fun _ hk => ⟨hk.2, hk.1⟩)) hg (.inl rfl)); have n1_ := Aside0.mk (Kd.R_after (v := (.slice (some ⟨go39, 0, none⟩) x8_3.length co39)) (v1 := (.slice (some ⟨go39, 0, none⟩) x8_3.length co39)) (ok := (fun k_ => some k_ ≠ (u6 : Value).ownBlock)) HO_7.out hg (.inl rfl)); have n2_ := Aside0.mk (hp_); have n3_ := Aside0.mk (blk_grown (g := gb396) (o := .cells #[.slice (some ad418) l0_0.length c0_0, .slice (some ad417) l0_1.length c0_1, .slice (some ad420) l0_2.length c0_2] 33 (0, 0)) BK396.out hg (Kd.R_ne HO_8.out BK396.out (by decide))); have n4_ := Aside0.mk ((by rw [hw]; exact below_set (HB.out) GB39.out : Below w.heap.size w w64)); clear HO_6; clear HO_7; clear HO_8; clear BK396; clear HB; have HO_6 := n0_; have HO_7 := n1_; have HO_8 := n2_; have BK396 := n3_; have HB := n4_; clear n0_ n1_ n2_ n3_ n4_; clear hg hw hp_))
    have n0_ := Aside0.mk (Kd.R_drew HO_6.out)
    have n1_ := Aside0.mk (Kd.R_drew HO_7.out)
    have n2_ := Aside0.mk (Kd.R_drew HO_8.out)
    have n3_ := Aside0.mk (blk_drew BK396.out)
    have n4_ := Aside0.mk (below_drew1 HB.out)
    clear HO_6
    clear HO_7
    clear HO_8
    clear BK396
    clear HB
    have HO_6 := n0_
    have HO_7 := n1_
    have HO_8 := n2_
    have BK396 := n3_
    have HB := n4_
    clear n0_ n1_ n2_ n3_ n4_
    have p422 : 0 ≤ (x12_3 : Int) := of_decide_eq_true (by (with_reducible assumption))
    have q422 : x12_3 < (y419.length : Int) := (by have h_ : (x12_3 : Int) < ((x7_3.length : Int) : Int) := of_decide_eq_true (by (with_reducible assumption)); (have e_ := (Kd.R_reads' HO_7.out).1; omega))
    have ql422 : ((x12_3 : Int) < ((x7_3.length : Int) : Int)) = True := eq_true (of_decide_eq_true (by (with_reducible assumption)))
    obtain ⟨ad422, e422, hx422_0⟩ := Kd.at_int (Kd.R_reads' HO_7.out).2.2 x12_3 p422 q422
    obtain rfl : (⟨go36, 0, none⟩ : Addr) = ad422 := (by injection e422)
    (simp only [add_plain] at hx422_0)
    replace p422 := eq_true p422
    replace q422 := eq_true q422
    have p423 : 0 ≤ (x12_3 : Int) := of_decide_eq_true (by (with_reducible assumption))
    have q423 : x12_3 < (y421.length : Int) := (by have h_ : (x12_3 : Int) < ((x8_3.length : Int) : Int) := of_decide_eq_true (by (with_reducible assumption)); (have e_ := (Kd.R_reads' HO_8.out).1; omega))
    have ql423 : ((x12_3 : Int) < ((x8_3.length : Int) : Int)) = True := eq_true (of_decide_eq_true (by (with_reducible assumption)))
    obtain ⟨ad423, e423, hx423_0⟩ := Kd.at_int (Kd.R_reads' HO_8.out).2.2 x12_3 p423 q423
    obtain rfl : (⟨go39, 0, none⟩ : Addr) = ad423 := (by injection e423)
    (simp only [add_plain] at hx423_0)
    replace p423 := eq_true p423
    replace q423 := eq_true q423
    have p424 : 0 ≤ (x11_3 : Int) := of_decide_eq_true (by (with_reducible assumption))
    have q424 : x11_3 < (y421.length : Int) := (by have h_ : (x11_3 : Int) < ((x8_3.length : Int) : Int) := of_decide_eq_true (by (with_reducible assumption)); (have e_ := (Kd.R_reads' HO_8.out).1; omega))
    have ql424 : ((x11_3 : Int) < ((x8_3.length : Int) : Int)) = True := eq_true (of_decide_eq_true (by (with_reducible assumption)))
    obtain ⟨ad424, e424, hx424_0⟩ := Kd.at_int (Kd.R_reads' HO_8.out).2.2 x11_3 p424 q424
    obtain rfl : (⟨go39, 0, none⟩ : Addr) = ad424 := (by injection e424)
    (simp only [add_plain] at hx424_0)
    replace p424 := eq_true p424
    replace q424 := eq_true q424
    refine start_ (n := 20) (S := fun w' => w'.cell? ⟨go36, (x12_3).toNat, none⟩ = some (.int .i64 (rd y419 x12_3)) ∧ w'.cell? ⟨go39, (x12_3).toNat, none⟩ = some (.int .i64 (rd y421 x12_3)) ∧ w'.cell? ⟨go39, (x11_3).toNat, none⟩ = some (.int .i64 (rd y421 x11_3))) (ds := []) bQ69_13 (by kernel_rfl) rfl rfl ⟨hx422_0, hx423_0, hx424_0⟩ (fun hHeld => ?_); refine with_tabW spec_l04Slots.tab19 spec_l04Slots.bits19 (fun HT_ HW_ => ?_)
    generalize w64.drew = w65 at HO_6 HO_7 HO_8 BK396 HB hx422_0 hx423_0 hx424_0 hHeld ⊢
    refine pure_ (i := 0) (N := some 86) (v := ?_) (a' := ?_) bQ69_14 rfl rfl (any_of HT_.out (by kernel_rfl)) (fun _ _ _ h => h) (Or.inl ⟨by rfl, ?_⟩) ?_ ?_
    rotate_left
    · intro w'
      go_simp
      with_reducible rfl
    rotate_left
    · simp only [Act.put, List.setIfInBounds_toArray, List.set_cons_zero, List.set_cons_succ, i64_w, i32_w]
      rfl
    refine pure_ (i := 1) (N := some 87) (v := ?_) (a' := ?_) bQ69_15 rfl rfl (any_of HT_.out (by kernel_rfl)) (fun _ _ _ h => h) (Or.inl ⟨by rfl, ?_⟩) ?_ ?_
    rotate_left
    · intro w'
      go_simp
      with_reducible rfl
    rotate_left
    · simp only [Act.put, List.setIfInBounds_toArray, List.set_cons_zero, List.set_cons_succ, i64_w, i32_w]
      rfl
    refine pure_ (i := 2) (N := some 88) (v := ?_) (a' := ?_) bQ69_16 rfl rfl (any_of HT_.out (by kernel_rfl)) (fun _ _ _ h => h) (Or.inl ⟨by rfl, ?_⟩) ?_ ?_
    rotate_left
    · intro w'
      go_simp
      with_reducible rfl
    rotate_left
    · simp only [Act.put, List.setIfInBounds_toArray, List.set_cons_zero, List.set_cons_succ, i64_w, i32_w]
      rfl
    refine take_ (i := 3) (N := some 89) (v := ?_) (a' := ?_) bQ69_17 rfl rfl (take_ofW HT_.out HW_.out (by kernel_rfl)) (fun _ _ _ h => h) (Or.inl ⟨by rfl, ?_⟩) hHeld ?_ ?_
    rotate_left
    · rintro w' ⟨s0, s1, s2⟩
      go_simp
      with_reducible rfl
    rotate_left
    · simp only [Act.put, List.setIfInBounds_toArray, List.set_cons_zero, List.set_cons_succ, i64_w, i32_w]
      rfl
    refine pure_ (i := 4) (N := some 90) (v := ?_) (a' := ?_) bQ69_18 rfl rfl (any_of HT_.out (by kernel_rfl)) (fun _ _ _ h => h) (Or.inl ⟨by rfl, ?_⟩) ?_ ?_
    rotate_left
    · intro w'
      go_simp
      with_reducible rfl
    rotate_left
    · simp only [Act.put, List.setIfInBounds_toArray, List.set_cons_zero, List.set_cons_succ, i64_w, i32_w]
      rfl
    refine pure_ (i := 5) (N := some 91) (v := ?_) (a' := ?_) bQ69_19 rfl rfl (any_of HT_.out (by kernel_rfl)) (fun _ _ _ h => h) (Or.inl ⟨by rfl, ?_⟩) ?_ ?_
    rotate_left
    · intro w'
      go_simp
      with_reducible rfl
    rotate_left
    · simp only [Act.put, List.setIfInBounds_toArray, List.set_cons_zero, List.set_cons_succ, i64_w, i32_w]
      rfl
    refine pure_ (i := 6) (N := some 92) (v := ?_) (a' := ?_) bQ69_20 rfl rfl (any_of HT_.out (by kernel_rfl)) (fun _ _ _ h => h) (Or.inl ⟨by rfl, ?_⟩) ?_ ?_
    rotate_left
    · intro w'
      go_simp
      with_reducible rfl
    rotate_left
    · simp only [Act.put, List.setIfInBounds_toArray, List.set_cons_zero, List.set_cons_succ, i64_w, i32_w]
      rfl
    refine pure_ (i := 7) (N := some 93) (v := ?_) (a' := ?_) bQ69_21 rfl rfl (any_of HT_.out (by kernel_rfl)) (fun _ _ _ h => h) (Or.inl ⟨by rfl, ?_⟩) ?_ ?_
    rotate_left
    · intro w'
      go_simp
      with_reducible rfl
    rotate_left
    · simp only [Act.put, List.setIfInBounds_toArray, List.set_cons_zero, List.set_cons_succ, i64_w, i32_w]
      rfl
    refine pure_ (i := 8) (N := some 94) (v := ?_) (a' := ?_) bQ69_22 rfl rfl (any_of HT_.out (by kernel_rfl)) (fun _ _ _ h => h) (Or.inl ⟨by rfl, ?_⟩) ?_ ?_
    rotate_left
    · intro w'
      go_simp
      with_reducible rfl
    rotate_left
    · simp only [Act.put, List.setIfInBounds_toArray, List.set_cons_zero, List.set_cons_succ, i64_w, i32_w]
      rfl
    refine pure_ (i := 9) (N := some 95) (v := ?_) (a' := ?_) bQ69_23 rfl rfl (any_of HT_.out (by kernel_rfl)) (fun _ _ _ h => h) (Or.inl ⟨by rfl, ?_⟩) ?_ ?_
    rotate_left
    · intro w'
      go_simp
      with_reducible rfl
    rotate_left
    · simp only [Act.put, List.setIfInBounds_toArray, List.set_cons_zero, List.set_cons_succ, i64_w, i32_w]
      rfl
    refine pure_ (i := 10) (N := some 96) (v := ?_) (a' := ?_) bQ69_24 rfl rfl (any_of HT_.out (by kernel_rfl)) (fun _ _ _ h => h) (Or.inl ⟨by rfl, ?_⟩) ?_ ?_
    rotate_left
    · intro w'
      go_simp
      with_reducible rfl
    rotate_left
    · simp only [Act.put, List.setIfInBounds_toArray, List.set_cons_zero, List.set_cons_succ, i64_w, i32_w]
      rfl
    refine pure_ (i := 11) (N := some 97) (v := ?_) (a' := ?_) bQ69_25 rfl rfl (any_of HT_.out (by kernel_rfl)) (fun _ _ _ h => h) (Or.inl ⟨by rfl, ?_⟩) ?_ ?_
    rotate_left
    · intro w'
      go_simp
      with_reducible rfl
    rotate_left
    · simp only [Act.put, List.setIfInBounds_toArray, List.set_cons_zero, List.set_cons_succ, i64_w, i32_w]
      rfl
    refine pure_ (i := 13) (N := some 99) (v := ?_) (a' := ?_) bQ69_34 rfl rfl (any_of HT_.out (by kernel_rfl)) (fun _ _ _ h => h) (Or.inl ⟨by rfl, ?_⟩) ?_ ?_
    rotate_left
    · intro w'
      go_simp
      with_reducible rfl
    rotate_left
    · simp only [Act.put, List.setIfInBounds_toArray, List.set_cons_zero, List.set_cons_succ, i64_w, i32_w]
      rfl
    refine pure_ (i := 14) (N := some 100) (v := ?_) (a' := ?_) bQ69_35 rfl rfl (any_of HT_.out (by kernel_rfl)) (fun _ _ _ h => h) (Or.inl ⟨by rfl, ?_⟩) ?_ ?_
    rotate_left
    · intro w'
      go_simp
      with_reducible rfl
    rotate_left
    · simp only [Act.put, List.setIfInBounds_toArray, List.set_cons_zero, List.set_cons_succ, i64_w, i32_w]
      rfl
    refine pure_ (i := 15) (N := some 101) (v := ?_) (a' := ?_) bQ69_36 rfl rfl (any_of HT_.out (by kernel_rfl)) (fun _ _ _ h => h) (Or.inl ⟨by rfl, ?_⟩) ?_ ?_
    rotate_left
    · intro w'
      go_simp
      with_reducible rfl
    rotate_left
    · simp only [Act.put, List.setIfInBounds_toArray, List.set_cons_zero, List.set_cons_succ, i64_w, i32_w]
      rfl
    refine take_ (i := 12) (N := some 98) (v := ?_) (a' := ?_) bQ69_29 rfl rfl (take_ofW HT_.out HW_.out (by kernel_rfl)) (fun _ _ _ h => h) (Or.inl ⟨by rfl, ?_⟩) hHeld ?_ ?_
    rotate_left
    · rintro w' ⟨s0, s1, s2⟩
      go_simp
      with_reducible rfl
    rotate_left
    · simp only [Act.put, List.setIfInBounds_toArray, List.set_cons_zero, List.set_cons_succ, i64_w, i32_w]
      rfl
    refine take_ (i := 16) (N := some 102) (v := ?_) (a' := ?_) bQ69_30 rfl rfl (take_ofW HT_.out HW_.out (by kernel_rfl)) (fun _ _ _ h => h) (Or.inl ⟨by rfl, ?_⟩) hHeld ?_ ?_
    rotate_left
    · rintro w' ⟨s0, s1, s2⟩
      go_simp
      with_reducible rfl
    rotate_left
    · simp only [Act.put, List.setIfInBounds_toArray, List.set_cons_zero, List.set_cons_succ, i64_w, i32_w]
      rfl
    refine pure_ (i := 17) (N := some 103) (v := ?_) (a' := ?_) bQ69_31 rfl rfl (any_of HT_.out (by kernel_rfl)) (fun _ _ _ h => h) (Or.inl ⟨by rfl, ?_⟩) ?_ ?_
    rotate_left
    · intro w'
      go_simp
      with_reducible rfl
    rotate_left
    · simp only [Act.put, List.setIfInBounds_toArray, List.set_cons_zero, List.set_cons_succ, i64_w, i32_w]
      rfl
    refine pure_ (i := 18) (N := some 104) (v := ?_) (a' := ?_) bQ69_32 rfl rfl (any_of HT_.out (by kernel_rfl)) (fun _ _ _ h => h) (Or.inl ⟨by rfl, ?_⟩) ?_ ?_
    rotate_left
    · intro w'
      go_simp
      with_reducible rfl
    rotate_left
    · simp only [Act.put, List.setIfInBounds_toArray, List.set_cons_zero, List.set_cons_succ, i64_w, i32_w]
      rfl
    refine pure_ (i := 19) (N := some 105) (v := ?_) (a' := ?_) bQ69_33 rfl rfl (any_of HT_.out (by kernel_rfl)) (fun _ _ _ h => h) (Or.inl ⟨by rfl, ?_⟩) ?_ ?_
    rotate_left
    · intro w'
      go_simp
      with_reducible rfl
    rotate_left
    · simp only [Act.put, List.setIfInBounds_toArray, List.set_cons_zero, List.set_cons_succ, i64_w, i32_w]
      rfl
    refine done_ (done_of HT_.out (by kernel_rfl)) ?_
    try go_wp2
    (try simp only [← hl7_3])
    go_roundg k3
    case measure => have := HK1.out; have := HK2.out; have := HK3.out; omega
    case rel => exact ⟨(y419), (y421), (x11_3), (wrap64 (x12_3 + 1)), (by rfl), (by rfl), H', ⟨by have := HK1.out; have := HK2.out; have := HK3.out; omega⟩, ⟨by (try simp only [hl7_3]); exact HO_6.out⟩, ⟨by (try simp only [hl7_3]); exact HO_7.out⟩, ⟨by (try simp only [hl7_3]); exact HO_8.out⟩, ⟨by (try simp only [hl7_3]); exact BK396.out⟩, ⟨by exact HB.out⟩⟩
end Go.Proofs.Ytoakdilhljnjfaa.Q
namespace Go.Proofs.Ytoakdilhljnjfaa.Pure
open Go.RowKit Go.Proofs.Ytoakdilhljnjfaa.Q Go.Proofs.YtoakdilhljnjfaaW.PrintWords Go.Proofs.YtoakdilhljnjfaaW.PrintLast Go.Proofs.YtoakdilhljnjfaaW.PrintMore Go.Proofs.Ytoakdilhljnjfaa.Edf
set_option linter.unusedVariables false
set_option linter.unusedSimpArgs false
theorem rdset (o : List Int) (q j : Nat) (x : Int) (h : q < o.length) : rd (o.set q x) j = if j = q then x else rd o j := by
  by_cases e : j = q
  · subst e; rw [if_pos rfl, rd_get _ _ (by simpa using h)]; simp
  · rw [if_neg e]; simp [rd, List.getElem?_set, Ne.symm e]
def cntI (out : List Int) (i : Nat) : Int := ((out.countP (· == (i : Int)) : Nat) : Int)
theorem cntI_snoc (out : List Int) (b : Int) (i : Nat) : cntI (out ++ [b]) i = cntI out i + if b = (i : Int) then 1 else 0 := by
  unfold cntI
  rw [List.countP_append]
  by_cases e : b = (i : Int) <;> simp [e, List.countP_cons]
section
variable {l0 l1 l2 : List Int}
def late (l u : List Int) (s : Nat) (j : Nat) : Prop := 0 < rd l j ∧ rd u j ≤ s
theorem late_both (n s : Nat) (l u out : List Int) (hn : n ≤ 8) (hl : l.length = n) (hu : u.length = n) (hdue : ∀ j : Nat, j < n → 0 < rd l j → (s : Int) ≤ rd u j) (w : Int) (d : Nat) : ∀ i : Nat, i + d = n →
    (∃ j : Nat, j < n ∧ late l u s j ∧ Ev (fun k => impl_Jobs_earliest.l1 k l u out (s : Int) (n : Int) (i : Int) l0 l1 l2) (out, (j : Int)) ∧ Ev (fun k => spec_l04Slots.l1 k w out l u (s : Int) (i : Int) l0 l1 l2) (out, (s : Int), (j : Int))) ∨
    ((∀ j : Nat, i ≤ j → j < n → ¬ late l u s j) ∧ (∀ r, Ev (fun k => impl_Jobs_earliest.l1 k l u out (s : Int) (n : Int) (n : Int) l0 l1 l2) r → Ev (fun k => impl_Jobs_earliest.l1 k l u out (s : Int) (n : Int) (i : Int) l0 l1 l2) r) ∧
      (∀ r, Ev (fun k => spec_l04Slots.l1 k w out l u (s : Int) (n : Int) l0 l1 l2) r → Ev (fun k => spec_l04Slots.l1 k w out l u (s : Int) (i : Int) l0 l1 l2) r)) := by
  induction d with
  | zero =>
    intro i hi
    obtain rfl : i = n := by omega
    exact .inr ⟨fun j h1 h2 => by omega, fun r h => h, fun r h => h⟩
  | succ d ih =>
    intro i hi
    have g1 : (i : Int) < (n : Int) := by omega
    have g0 : (0 : Int) ≤ (i : Int) := by omega
    have gl : (i : Int) < (l.length : Int) := by omega
    have gu : (i : Int) < (u.length : Int) := by omega
    have hi6 : i ≤ 1000000 := by omega
    by_cases hp : 0 < rd l i
    · by_cases hd : rd u i ≤ s
      · have he : rd u i = (s : Int) := by have := hdue i (by omega) hp; omega
        refine .inl ⟨i, by omega, ⟨hp, hd⟩, Ev.step (fun k => by rw [impl_Jobs_earliest.l1]) ?_, Ev.step (fun k => by rw [spec_l04Slots.l1]) ?_⟩
        · exact Ev.pos g1 (Ev.pos g0 (Ev.pos gl (Ev.pos hp (Ev.pos gu (Ev.pos hd (Ev.now _))))))
        · exact Ev.pos gl (Ev.pos g0 (Ev.pos hp (Ev.pos gu (Ev.pos he (Ev.now _)))))
      · have he : ¬ rd u i = (s : Int) := by omega
        have F1 : ∀ r, Ev (fun k => impl_Jobs_earliest.l1 k l u out (s : Int) (n : Int) ((i + 1 : Nat) : Int) l0 l1 l2) r → Ev (fun k => impl_Jobs_earliest.l1 k l u out (s : Int) (n : Int) (i : Int) l0 l1 l2) r := fun r h => by
          refine Ev.step (fun k => by rw [impl_Jobs_earliest.l1]) ?_
          refine Ev.pos g1 (Ev.pos g0 (Ev.pos gl (Ev.pos hp (Ev.pos gu (Ev.neg hd ?_)))))
          rw [wrap_succ hi6]; exact h
        have F2 : ∀ r, Ev (fun k => spec_l04Slots.l1 k w out l u (s : Int) ((i + 1 : Nat) : Int) l0 l1 l2) r → Ev (fun k => spec_l04Slots.l1 k w out l u (s : Int) (i : Int) l0 l1 l2) r := fun r h => by
          refine Ev.step (fun k => by rw [spec_l04Slots.l1]) ?_
          refine Ev.pos gl (Ev.pos g0 (Ev.pos hp (Ev.pos gu (Ev.neg he ?_))))
          rw [wrap_succ hi6]; exact h
        rcases ih (i + 1) (by omega) with ⟨j, a, b, c, e⟩ | ⟨a, b, c⟩
        · exact .inl ⟨j, a, b, F1 _ c, F2 _ e⟩
        · refine .inr ⟨fun j h1 h2 => ?_, fun r h => F1 r (b r h), fun r h => F2 r (c r h)⟩
          by_cases e : j = i
          · subst e; exact fun h => hd h.2
          · exact a j (by omega) h2
    · have F1 : ∀ r, Ev (fun k => impl_Jobs_earliest.l1 k l u out (s : Int) (n : Int) ((i + 1 : Nat) : Int) l0 l1 l2) r → Ev (fun k => impl_Jobs_earliest.l1 k l u out (s : Int) (n : Int) (i : Int) l0 l1 l2) r := fun r h => by
        refine Ev.step (fun k => by rw [impl_Jobs_earliest.l1]) ?_
        refine Ev.pos g1 (Ev.pos g0 (Ev.pos gl (Ev.neg hp ?_)))
        rw [wrap_succ hi6]; exact h
      have F2 : ∀ r, Ev (fun k => spec_l04Slots.l1 k w out l u (s : Int) ((i + 1 : Nat) : Int) l0 l1 l2) r → Ev (fun k => spec_l04Slots.l1 k w out l u (s : Int) (i : Int) l0 l1 l2) r := fun r h => by
        refine Ev.step (fun k => by rw [spec_l04Slots.l1]) ?_
        refine Ev.pos gl (Ev.pos g0 (Ev.neg hp ?_))
        rw [wrap_succ hi6]; exact h
      rcases ih (i + 1) (by omega) with ⟨j, a, b, c, e⟩ | ⟨a, b, c⟩
      · exact .inl ⟨j, a, b, F1 _ c, F2 _ e⟩
      · refine .inr ⟨fun j h1 h2 => ?_, fun r h => F1 r (b r h), fun r h => F2 r (c r h)⟩
        by_cases e : j = i
        · subst e; exact fun h => hp h.1
        · exact a j (by omega) h2
def nextB (l u : List Int) (i : Nat) (b : Int) : Int := if rd l i > 0 then (if b = -1 then (i : Int) else if rd u i < rd u b then (i : Int) else b) else b
theorem choose_a {α : Type} {X : Nat → Int → Option α} {l u : List Int} {i : Nat} {b N : Int} {r : α} (hb : b = -1 ∨ (0 ≤ b ∧ b < N)) (h : Ev (fun k => X k (nextB l u i b)) r) :
    Ev (fun k => if rd l i > 0 then (if b = -1 then X k (i : Int) else (if 0 ≤ b then (if b < N then (if rd u i < rd u b then X k (i : Int) else X k b) else none) else none)) else X k b) r := by
  unfold nextB at h
  by_cases h1 : rd l i > 0
  · refine Ev.pos h1 ?_
    by_cases h2 : b = -1
    · refine Ev.pos h2 ?_; simpa [h1, h2] using h
    · refine Ev.neg h2 ?_
      obtain ⟨b0, b1⟩ := hb.resolve_left h2
      refine Ev.pos b0 (Ev.pos b1 ?_)
      by_cases h3 : rd u i < rd u b
      · refine Ev.pos h3 ?_; simpa [h1, h2, h3] using h
      · refine Ev.neg h3 ?_; simpa [h1, h2, h3] using h
  · refine Ev.neg h1 ?_; simpa [h1] using h
theorem choose_b {α : Type} {X : Nat → Int → Option α} {l u : List Int} {i : Nat} {b N : Int} {r : α} (hN : (i : Int) < N) (hb : b = -1 ∨ (0 ≤ b ∧ b < N)) (h : Ev (fun k => X k (nextB l u i b)) r) :
    Ev (fun k => if rd l i > 0 then (if b = -1 then X k (i : Int) else (if (i : Int) < N then (if 0 ≤ b then (if b < N then (if rd u i < rd u b then X k (i : Int) else X k b) else none) else none) else none)) else X k b) r := by
  refine Ev.congr (fun k => ?_) (choose_a (X := X) (N := N) hb h)
  simp only [if_pos hN]
theorem choose_c {α : Type} {X : Nat → Int → Option α} {l u : List Int} {i : Nat} {b N : Int} {r : α} (hb : b = -1 ∨ (0 ≤ b ∧ b < N)) (h : Ev (fun k => X k (nextB l u i b)) r) :
    Ev (fun k => if rd l i > 0 then (if b < 0 then X k (i : Int) else (if 0 ≤ b then (if b < N then (if rd u i < rd u b then X k (i : Int) else X k b) else none) else none)) else X k b) r := by
  refine Ev.congr (fun k => ?_) (choose_a (X := X) (N := N) hb h)
  have e : (b < 0) = (b = -1) := by rw [eq_iff_iff]; omega
  simp only [e]
theorem choose_d {α : Type} {X : Nat → Int → Option α} {l u : List Int} {i : Nat} {b N : Int} {r : α} (hN : (i : Int) < N) (hb : b = -1 ∨ (0 ≤ b ∧ b < N)) (h : Ev (fun k => X k (nextB l u i b)) r) :
    Ev (fun k => if rd l i > 0 then (if b < 0 then X k (i : Int) else (if (i : Int) < N then (if 0 ≤ b then (if b < N then (if rd u i < rd u b then X k (i : Int) else X k b) else none) else none) else none)) else X k b) r := by
  refine Ev.congr (fun k => ?_) (choose_c (X := X) (N := N) hb h)
  simp only [if_pos hN]
structure RInv (n s : Nat) (l0 l1 l2 la ua : List Int) (i : Nat) (l u : List Int) (b : Int) : Prop where
  ll : l.length = n
  lu : u.length = n
  vl : ∀ j : Nat, j < n → rd l j = if j < i then relL (rf l0) (rf l1) s (rf la) j else rd la j
  vu : ∀ j : Nat, j < n → rd u j = if j < i then relD (rf l1) (rf l2) s (rf ua) j else rd ua j
  best : (b = -1 ∧ ∀ j : Nat, j < i → rd l j ≤ 0) ∨ ∃ q : Nat, b = (q : Int) ∧ q < i ∧ 0 < rd l q ∧ ∀ j : Nat, j < i → 0 < rd l j → rd u q ≤ rd u j
theorem RInv.b_ok {n s : Nat} {l0 l1 l2 la ua : List Int} {i : Nat} {l u : List Int} {b : Int} (R : RInv n s l0 l1 l2 la ua i l u b) (hi : i ≤ n) : b = -1 ∨ (0 ≤ b ∧ b < (u.length : Int)) := by
  have := R.lu
  rcases R.best with ⟨h, _⟩ | ⟨q, h, h2, _⟩
  · exact .inl h
  · exact .inr ⟨by omega, by omega⟩
theorem RInv.next {n s : Nat} {l0 l1 l2 la ua : List Int} {i : Nat} {l u l' u' : List Int} {b : Int} (R : RInv n s l0 l1 l2 la ua i l u b) (hi : i < n) (hl' : l'.length = n) (hu' : u'.length = n)
    (el : ∀ j : Nat, j < n → rd l' j = if j = i then relL (rf l0) (rf l1) s (rf la) i else rd l j) (eu : ∀ j : Nat, j < n → rd u' j = if j = i then relD (rf l1) (rf l2) s (rf ua) i else rd u j) :
    RInv n s l0 l1 l2 la ua (i + 1) l' u' (nextB l' u' i b) := by
  refine ⟨hl', hu', fun j hj => ?_, fun j hj => ?_, ?_⟩
  · rw [el j hj]
    by_cases e : j = i
    · subst e; rw [if_pos rfl, if_pos (by omega)]
    · rw [if_neg e, R.vl j hj]
      by_cases h : j < i
      · rw [if_pos h, if_pos (by omega)]
      · rw [if_neg h, if_neg (by omega)]
  · rw [eu j hj]
    by_cases e : j = i
    · subst e; rw [if_pos rfl, if_pos (by omega)]
    · rw [if_neg e, R.vu j hj]
      by_cases h : j < i
      · rw [if_pos h, if_pos (by omega)]
      · rw [if_neg h, if_neg (by omega)]
  · have ol : ∀ j : Nat, j < i → rd l' j = rd l j := fun j hj => by rw [el j (by omega), if_neg (by omega)]
    have ou : ∀ j : Nat, j < i → rd u' j = rd u j := fun j hj => by rw [eu j (by omega), if_neg (by omega)]
    have up : ∀ {P : Nat → Prop}, (∀ j : Nat, j < i → P j) → P i → ∀ j : Nat, j < i + 1 → P j := fun h1 h2 j hj => by
      by_cases e : j = i
      · subst e; exact h2
      · exact h1 j (by omega)
    unfold nextB
    by_cases hp : rd l' i > 0
    · rw [if_pos hp]
      rcases R.best with ⟨hb, hno⟩ | ⟨q, hb, hq, hqp, hmin⟩
      · rw [if_pos hb]
        exact .inr ⟨i, rfl, by omega, hp, up (fun j hj h => by rw [ol j hj] at h; have := hno j hj; omega) (fun _ => Int.le_refl _)⟩
      · subst hb
        rw [if_neg (by omega)]
        by_cases hlt : rd u' i < rd u' q
        · rw [if_pos hlt]
          exact .inr ⟨i, rfl, by omega, hp, up (fun j hj h => by rw [ol j hj] at h; have := hmin j hj h; rw [ou j hj]; rw [ou q hq] at hlt; omega) (fun _ => Int.le_refl _)⟩
        · rw [if_neg hlt]
          exact .inr ⟨q, rfl, by omega, by rw [ol q hq]; exact hqp, up (fun j hj h => by rw [ol j hj] at h; rw [ou j hj, ou q hq]; exact hmin j hj h) (fun _ => by omega)⟩
    · rw [if_neg hp]
      rcases R.best with ⟨hb, hno⟩ | ⟨q, hb, hq, hqp, hmin⟩
      · exact .inl ⟨hb, up (fun j hj => by rw [ol j hj]; exact hno j hj) (by omega)⟩
      · exact .inr ⟨q, hb, by omega, by rw [ol q hq]; exact hqp, up (fun j hj h => by rw [ol j hj] at h; rw [ou j hj, ou q hq]; exact hmin j hj h) (fun h => absurd h hp)⟩
theorem rel_both (h : JL l0 l1 l2) (s : Nat) (hs : s ≤ 1000) (la ua out : List Int) (w : Int) (d : Nat) : ∀ (i : Nat) (l u : List Int) (b : Int), i + d = l0.length → RInv l0.length s l0 l1 l2 la ua i l u b →
    ∃ (l' u' : List Int) (b' : Int), RInv l0.length s l0 l1 l2 la ua l0.length l' u' b' ∧
      (∀ r, Ev (fun k => impl_Jobs_earliest.l2 k l' u' out (s : Int) b' l1 (l0.length : Int) (l0.length : Int) l0 l1 l2) r → Ev (fun k => impl_Jobs_earliest.l2 k l u out (s : Int) b l1 (l0.length : Int) (i : Int) l0 l1 l2) r) ∧
      (∀ r, Ev (fun k => spec_l04Slots.l2 k w out l' u' (s : Int) b' (l0.length : Int) l0 l1 l2) r → Ev (fun k => spec_l04Slots.l2 k w out l u (s : Int) b (i : Int) l0 l1 l2) r) := by
  have h8 := h.h8
  have e1 := h.e1
  have e2 := h.e2
  induction d with
  | zero =>
    intro i l u b hi R
    obtain rfl : i = l0.length := by omega
    exact ⟨l, u, b, R, fun r h => h, fun r h => h⟩
  | succ d ih =>
    intro i l u b hi R
    have ho := h.ok i (by omega)
    have hb := R.b_ok (by omega)
    have hll := R.ll
    have hlu := R.lu
    have g1 : (i : Int) < (l0.length : Int) := by omega
    have g0 : (0 : Int) ≤ (i : Int) := by omega
    have gp : (i : Int) < (l1.length : Int) := by omega
    have gd : (i : Int) < (l2.length : Int) := by omega
    have gl : (i : Int) < (l.length : Int) := by omega
    have gu : (i : Int) < (u.length : Int) := by omega
    have gz : ¬ rd l1 i = 0 := by omega
    have hi6 : i ≤ 1000000 := by omega
    have hil : i < l.length := by omega
    have hiu : i < u.length := by omega
    have vli := R.vl i (by omega)
    have vui := R.vu i (by omega)
    rw [if_neg (Nat.lt_irrefl _)] at vli vui
    have hm : Int.tmod (s : Int) (rd l1 i) = (s : Int) % rd l1 i := Int.tmod_eq_emod_of_nonneg (by omega)
    have hsum : wrap64 ((s : Int) + rd l2 i) = (s : Int) + rd l2 i := wrap_eq rfl (by omega) (by omega)
    by_cases hz : (s : Int) % rd l1 i = 0
    · have hzt : Int.tmod (s : Int) (rd l1 i) = 0 := by rw [hm]; exact hz
      have hA : relL (rf l0) (rf l1) s (rf la) i = rd l0 i := by unfold relL rf; rw [if_pos hz]
      have hB : relD (rf l1) (rf l2) s (rf ua) i = (s : Int) + rd l2 i := by unfold relD rf; rw [if_pos hz]
      have R' := R.next (l' := l.set i (rd l0 i)) (u' := u.set i ((s : Int) + rd l2 i)) (by omega) (by simpa using hll) (by simpa using hlu)
        (fun j hj => by rw [rdset l i j _ hil, hA]) (fun j hj => by rw [rdset u i j _ hiu, hB])
      obtain ⟨l', u', b', r1, r2, r3⟩ := ih (i + 1) _ _ _ (by omega) R'
      have hb2 : b = -1 ∨ (0 ≤ b ∧ b < ((u.length : Nat) : Int)) := hb
      refine ⟨l', u', b', r1, fun r hr => Ev.step (fun k => by rw [impl_Jobs_earliest.l2]) ?_, fun r hr => Ev.step (fun k => by rw [spec_l04Slots.l2]) ?_⟩
      · refine Ev.pos g1 (Ev.pos g0 (Ev.pos gp (Ev.neg gz (Ev.pos hzt (Ev.pos g1 (Ev.pos gd (Ev.pos gl ?_)))))))
        refine Ev.bindc rfl (Ev.pos gu (Ev.bindc rfl ?_))
        rw [hsum, wrap_succ hi6, Int.toNat_natCast]
        exact choose_a (X := fun k b => impl_Jobs_earliest.l2 k (l.set i (rd l0 i)) (u.set i ((s : Int) + rd l2 i)) out (s : Int) b l1 (l0.length : Int) ((i + 1 : Nat) : Int) l0 l1 l2) hb2 (r2 r hr)
      · refine Ev.pos gl (Ev.pos g0 (Ev.pos gp (Ev.neg gz (Ev.pos hzt (Ev.pos g1 ?_)))))
        refine Ev.bindc rfl (Ev.pos gd (Ev.pos gu (Ev.bindc rfl ?_)))
        rw [hsum, wrap_succ hi6, Int.toNat_natCast]
        exact choose_c (X := fun k b => spec_l04Slots.l2 k w out (l.set i (rd l0 i)) (u.set i ((s : Int) + rd l2 i)) (s : Int) b ((i + 1 : Nat) : Int) l0 l1 l2) hb2 (r3 r hr)
    · have hzt : ¬ Int.tmod (s : Int) (rd l1 i) = 0 := by rw [hm]; exact hz
      have hA : relL (rf l0) (rf l1) s (rf la) i = rd l i := by rw [vli]; unfold relL rf; rw [if_neg hz]
      have hB : relD (rf l1) (rf l2) s (rf ua) i = rd u i := by rw [vui]; unfold relD rf; rw [if_neg hz]
      have R' := R.next (l' := l) (u' := u) (by omega) hll hlu
        (fun j hj => by
          by_cases e : j = i
          · rw [if_pos e, hA, e]
          · rw [if_neg e]) (fun j hj => by
          by_cases e : j = i
          · rw [if_pos e, hB, e]
          · rw [if_neg e])
      obtain ⟨l', u', b', r1, r2, r3⟩ := ih (i + 1) _ _ _ (by omega) R'
      have hb2 : b = -1 ∨ (0 ≤ b ∧ b < ((u.length : Nat) : Int)) := hb
      refine ⟨l', u', b', r1, fun r hr => Ev.step (fun k => by rw [impl_Jobs_earliest.l2]) ?_, fun r hr => Ev.step (fun k => by rw [spec_l04Slots.l2]) ?_⟩
      · refine Ev.pos g1 (Ev.pos g0 (Ev.pos gp (Ev.neg gz (Ev.neg hzt (Ev.pos gl ?_)))))
        rw [wrap_succ hi6]
        exact choose_b (X := fun k b => impl_Jobs_earliest.l2 k l u out (s : Int) b l1 (l0.length : Int) ((i + 1 : Nat) : Int) l0 l1 l2) gu hb2 (r2 r hr)
      · refine Ev.pos gl (Ev.pos g0 (Ev.pos gp (Ev.neg gz (Ev.neg hzt ?_))))
        rw [wrap_succ hi6]
        exact choose_d (X := fun k b => spec_l04Slots.l2 k w out l u (s : Int) b ((i + 1 : Nat) : Int) l0 l1 l2) gu hb2 (r3 r hr)
end
end Go.Proofs.Ytoakdilhljnjfaa.Pure
namespace Go.Proofs.Ytoakdilhljnjfaa.Pure
open Go.RowKit Go.Proofs.Ytoakdilhljnjfaa.Q Go.Proofs.YtoakdilhljnjfaaW.PrintWords Go.Proofs.YtoakdilhljnjfaaW.PrintLast Go.Proofs.YtoakdilhljnjfaaW.PrintMore Go.Proofs.Ytoakdilhljnjfaa.Edf
set_option linter.unusedVariables false
set_option linter.unusedSimpArgs false
theorem EInv.congr {n : Nat} {L P D : Nat → Int} {s : Nat} {l d c l' d' c' : Nat → Int} (I : EInv n L P D s l d c) (hl : ∀ i, i < n → l' i = l i) (hd : ∀ i, i < n → d' i = d i) (hc : ∀ i, i < n → c' i = c i) : EInv n L P D s l' d' c' := by
  have hw : ∀ t : Int, sumN (wt l' d' t) n = sumN (wt l d t) n := fun t => sumN_congr n fun i hi => by unfold wt; rw [hl i hi, hd i hi]
  refine ⟨fun i hi => ?_, fun i hi => ?_, fun i hi => ?_, fun t => ?_, fun t => ?_⟩
  · rw [hl i hi]; exact I.low i hi
  · rw [hl i hi, hd i hi]; exact I.due i hi
  · rw [hl i hi, hc i hi]; exact I.cnt i hi
  · rw [hw t]; exact I.busy t
  · rw [hw t]; exact I.all t
section
variable {l0 l1 l2 : List Int}
def SEnd (l0 l1 l2 out : List Int) (late slot : Int) : Prop :=
  (late = -1 ∧ slot = -1 ∧ out.length = wholeN l1 ∧ (∀ m : Nat, 1 ≤ m → m ≤ wholeN l1 → demand l0.length (rf l0) (rf l1) (rf l2) m ≤ m) ∧ ∀ i : Nat, i < l0.length → cntI out i * rd l1 i = rd l0 i * (wholeN l1 : Nat)) ∨
  (∃ j : Nat, late = (j : Int) ∧ j < l0.length ∧ slot = (out.length : Int) ∧ out.length ≤ wholeN l1 ∧ ∃ m : Nat, 1 ≤ m ∧ m ≤ wholeN l1 ∧ ¬ demand l0.length (rf l0) (rf l1) (rf l2) m ≤ m)
theorem cei_whole (h : JL l0 l1 l2) (i : Nat) (hi : i < l0.length) : cei (rf l1 i) (wholeN l1 : Nat) * rf l1 i = (wholeN l1 : Nat) := by
  have ho := h.ok i hi
  refine (cei_hit (by unfold rf; omega) ?_).1
  obtain ⟨q, hq⟩ := h.whole_dvd i hi
  unfold rf
  rw [hq, Int.natCast_mul, natOf (by omega)]
  exact Int.mul_emod_right _ _
theorem slots_both (h : JL l0 l1 l2) (hw : wholeN l1 ≤ 240) (d : Nat) : ∀ (s : Nat) (l u out : List Int), s + d = wholeN l1 → l.length = l0.length → u.length = l0.length → out.length = s →
    EInv l0.length (rf l0) (rf l1) (rf l2) s (rf l) (rf u) (cntI out) → (∀ m : Nat, 1 ≤ m → m < s → demand l0.length (rf l0) (rf l1) (rf l2) m ≤ m) →
    ∃ (out' : List Int) (late slot : Int), Ev (fun k => impl_Jobs_earliest.l0 k l u out (s : Int) l0 l1 l2) (out', late) ∧ Ev (fun k => spec_l04Slots.l0 k ((wholeN l1 : Nat) : Int) out l u (s : Int) l0 l1 l2) (out', slot, late) ∧ SEnd l0 l1 l2 out' late slot := by
  have h8 := h.h8
  have e1 := h.e1
  have e2 := h.e2
  have hj := h.jok
  induction d with
  | zero =>
    intro s l u out hs hl hu ho I hM
    have hdue : ∀ j : Nat, j < l0.length → 0 < rd l j → (s : Int) ≤ rd u j := fun j hj' hp => (I.due j hj' hp).1
    rcases late_both (l0 := l0) (l1 := l1) (l2 := l2) l0.length s l u out h8 hl hu hdue ((wholeN l1 : Nat) : Int) l0.length 0 (Nat.zero_add _) with ⟨j, hjn, hlt, E1, E2⟩ | ⟨hno, F1, F2⟩
    · obtain ⟨m, m1, m2, m3⟩ := I.late hj j hjn hlt.1 hlt.2
      have E2' : Ev (fun k => spec_l04Slots.l0 k ((wholeN l1 : Nat) : Int) out l u (s : Int) l0 l1 l2) (out, (s : Int), (j : Int)) := by
        refine Ev.step (fun k => by rw [spec_l04Slots.l0]) ?_
        exact Ev.pos (by omega) E2
      refine ⟨out, (j : Int), (s : Int), Ev.step (fun k => by rw [impl_Jobs_earliest.l0]) (by rw [hl]; exact E1), E2', .inr ⟨j, rfl, hjn, by omega, by omega, m.toNat, by omega, by omega, ?_⟩⟩
      rw [Int.toNat_of_nonneg (by omega)]; omega
    · have hno' : ∀ i, i < l0.length → ¬ (0 < rf l i ∧ rf u i ≤ s) := fun i hi => hno i (Nat.zero_le _) hi
      have hf := I.fine hj hno'
      refine ⟨out, -1, -1, Ev.step (fun k => by rw [impl_Jobs_earliest.l0]) ?_, Ev.step (fun k => by rw [spec_l04Slots.l0]) ?_, .inl ⟨rfl, rfl, by omega, fun m h1 h2 => ?_, fun i hi => ?_⟩⟩
      · rw [hl]
        refine F1 _ (Ev.step (fun k => by rw [impl_Jobs_earliest.l1]) ?_)
        refine Ev.neg (Int.lt_irrefl _) (Ev.bind (whole_ev h) ?_)
        exact Ev.pos (by omega) (Ev.now _)
      · refine Ev.pos (by omega) (F2 _ (Ev.step (fun k => by rw [spec_l04Slots.l1]) ?_))
        refine Ev.neg (by omega) ?_
        exact Ev.pos (by omega) (Ev.now _)
      · by_cases e : m = s
        · rw [e]; exact hf
        · exact hM m h1 (by omega)
      · have hs' : s = wholeN l1 := by omega
        have hcw := cei_whole h i hi
        rw [← hs'] at hcw ⊢
        have hc := I.cnt i hi
        have hlow := (I.low i hi).1
        have hz : rf l i = 0 := by
          by_cases hp : 0 < rf l i
          · have hd := I.due i hi hp
            have := hno' i hi
            rw [hcw] at hd
            omega
          · omega
        rw [hz, Int.add_zero] at hc
        rw [hc]
        show rf l0 i * cei (rf l1 i) (s : Int) * rf l1 i = rf l0 i * (s : Int)
        rw [Int.mul_assoc, hcw]
  | succ d ih =>
    intro s l u out hs hl hu ho I hM
    have hdue : ∀ j : Nat, j < l0.length → 0 < rd l j → (s : Int) ≤ rd u j := fun j hj' hp => (I.due j hj' hp).1
    rcases late_both (l0 := l0) (l1 := l1) (l2 := l2) l0.length s l u out h8 hl hu hdue ((wholeN l1 : Nat) : Int) l0.length 0 (Nat.zero_add _) with ⟨j, hjn, hlt, E1, E2⟩ | ⟨hno, F1, F2⟩
    · obtain ⟨m, m1, m2, m3⟩ := I.late hj j hjn hlt.1 hlt.2
      have E2' : Ev (fun k => spec_l04Slots.l0 k ((wholeN l1 : Nat) : Int) out l u (s : Int) l0 l1 l2) (out, (s : Int), (j : Int)) := by
        refine Ev.step (fun k => by rw [spec_l04Slots.l0]) ?_
        exact Ev.pos (by omega) E2
      refine ⟨out, (j : Int), (s : Int), Ev.step (fun k => by rw [impl_Jobs_earliest.l0]) (by rw [hl]; exact E1), E2', .inr ⟨j, rfl, hjn, by omega, by omega, m.toNat, by omega, by omega, ?_⟩⟩
      rw [Int.toNat_of_nonneg (by omega)]; omega
    · have hno' : ∀ i, i < l0.length → ¬ (0 < rf l i ∧ rf u i ≤ s) := fun i hi => hno i (Nat.zero_le _) hi
      have hf := I.fine hj hno'
      have hM' : ∀ m : Nat, 1 ≤ m → m < s + 1 → demand l0.length (rf l0) (rf l1) (rf l2) m ≤ m := fun m h1 h2 => by
        by_cases e : m = s
        · rw [e]; exact hf
        · exact hM m h1 (by omega)
      have R0 : RInv l0.length s l0 l1 l2 l u 0 l u (-1) := ⟨hl, hu, fun j hj' => by rw [if_neg (by omega)], fun j hj' => by rw [if_neg (by omega)], .inl ⟨rfl, fun j hj' => by omega⟩⟩
      obtain ⟨l', u', b', R, G1, G2⟩ := rel_both h s (by omega) l u out ((wholeN l1 : Nat) : Int) l0.length 0 l u (-1) (Nat.zero_add _) R0
      have hll := R.ll
      have hlu := R.lu
      have vl : ∀ i, i < l0.length → rf l' i = relL (rf l0) (rf l1) s (rf l) i := fun i hi => by have := R.vl i hi; rw [if_pos hi] at this; exact this
      have vu : ∀ i, i < l0.length → rf u' i = relD (rf l1) (rf l2) s (rf u) i := fun i hi => by have := R.vu i hi; rw [if_pos hi] at this; exact this
      have hs6 : s ≤ 1000000 := by omega
      have hne : ¬ (s : Int) = ((wholeN l1 : Nat) : Int) := by omega
      have hle : (s : Int) ≤ ((wholeN l1 : Nat) : Int) := by omega
      have hol : out.length < 17592186044416 := by omega
      have hend : ∀ r, Ev (fun k => impl_Jobs_earliest.l2 k l' u' out (s : Int) b' l1 (l0.length : Int) (l0.length : Int) l0 l1 l2) r → Ev (fun k => impl_Jobs_earliest.l0 k l u out (s : Int) l0 l1 l2) r := fun r hr => by
        refine Ev.step (fun k => by rw [impl_Jobs_earliest.l0]) ?_
        rw [hl]
        refine F1 _ (Ev.step (fun k => by rw [impl_Jobs_earliest.l1]) ?_)
        refine Ev.neg (Int.lt_irrefl _) (Ev.bind (whole_ev h) (Ev.neg hne ?_))
        rw [e1]
        exact G1 r hr
      have hend2 : ∀ r, Ev (fun k => spec_l04Slots.l2 k ((wholeN l1 : Nat) : Int) out l' u' (s : Int) b' (l0.length : Int) l0 l1 l2) r → Ev (fun k => spec_l04Slots.l0 k ((wholeN l1 : Nat) : Int) out l u (s : Int) l0 l1 l2) r := fun r hr => by
        refine Ev.step (fun k => by rw [spec_l04Slots.l0]) (Ev.pos hle ?_)
        refine F2 _ (Ev.step (fun k => by rw [spec_l04Slots.l1]) ?_)
        refine Ev.neg (by omega) (Ev.neg hne ?_)
        exact G2 r hr
      rcases R.best with ⟨hb, hnone⟩ | ⟨q, hb, hq, hqp, hmin⟩
      · subst hb
        have I' : EInv l0.length (rf l0) (rf l1) (rf l2) (s + 1) (rf l') (rf u') (cntI (out ++ [-1])) := by
          refine EInv.congr (EInv.step hj I hno' (relL (rf l0) (rf l1) s (rf l)) (cntI out) (.inr ⟨fun i hi => ?_, fun i hi => rfl, fun i hi => rfl⟩)) vl vu (fun i hi => ?_)
          · rw [← vl i hi]; exact hnone i hi
          · rw [cntI_snoc, if_neg (by omega)]; omega
        obtain ⟨out', lt, sl, E1, E2, E3⟩ := ih (s + 1) l' u' (out ++ [-1]) (by omega) hll hlu (by simp; omega) I' hM'
        refine ⟨out', lt, sl, hend _ (Ev.step (fun k => by rw [impl_Jobs_earliest.l2]) ?_), hend2 _ (Ev.step (fun k => by rw [spec_l04Slots.l2]) ?_), E3⟩
        · refine Ev.neg (Int.lt_irrefl _) (Ev.pos rfl (Ev.pos hol ?_))
          rw [wrap_succ hs6]; exact E1
        · refine Ev.neg (by omega) (Ev.neg (by omega) (Ev.pos hol ?_))
          rw [wrap_succ hs6]; exact E2
      · subst hb
        have hql : q < l'.length := by omega
        have hq0 := vl q hq
        have hlow : rd l' q ≤ 20 := by
          have h1 := (I.low q hq).2
          have h2 := (h.ok q hq).1
          have h3 : rf l' q = relL (rf l0) (rf l1) s (rf l) q := hq0
          unfold relL at h3
          unfold rf at h1 h3
          split at h3 <;> omega
        have hwr : wrap64 (rd l' q - 1) = rd l' q - 1 := wrap_eq rfl (by omega) (by omega)
        have I' : EInv l0.length (rf l0) (rf l1) (rf l2) (s + 1) (rf (l'.set q (rd l' q - 1))) (rf u') (cntI (out ++ [(q : Int)])) := by
          refine EInv.congr (EInv.step hj I hno' (fun i => relL (rf l0) (rf l1) s (rf l) i - if i = q then 1 else 0) (fun i => cntI out i + if i = q then 1 else 0) (.inl ⟨q, hq, ?_, fun i hi hp => ?_, fun i hi => rfl, fun i hi => rfl⟩)) (fun i hi => ?_) vu (fun i hi => ?_)
          · rw [← hq0]; exact hqp
          · rw [← vl i hi] at hp
            rw [← vu i hi, ← vu q hq]
            exact hmin i hi hp
          · have hx := vl i hi
            unfold rf at hx ⊢
            rw [rdset l' q i _ hql]
            show _ = relL (rf l0) (rf l1) s (rf l) i - if i = q then 1 else 0
            by_cases e : i = q
            · subst e; rw [if_pos rfl, if_pos rfl, hx]; rfl
            · rw [if_neg e, if_neg e, hx, Int.sub_zero]; rfl
          · rw [cntI_snoc]
            show _ = cntI out i + if i = q then 1 else 0
            by_cases e : i = q
            · subst e; rw [if_pos rfl, if_pos rfl]
            · rw [if_neg e, if_neg (by omega)]
        obtain ⟨out', lt, sl, E1, E2, E3⟩ := ih (s + 1) (l'.set q (rd l' q - 1)) u' (out ++ [(q : Int)]) (by omega) (by simpa using hll) hlu (by simp; omega) I' hM'
        have g0 : (0 : Int) ≤ (q : Int) := by omega
        have gq : (q : Int) < (l'.length : Int) := by omega
        refine ⟨out', lt, sl, hend _ (Ev.step (fun k => by rw [impl_Jobs_earliest.l2]) ?_), hend2 _ (Ev.step (fun k => by rw [spec_l04Slots.l2]) ?_), E3⟩
        · refine Ev.neg (Int.lt_irrefl _) (Ev.neg (by omega) (Ev.pos g0 (Ev.pos gq (Ev.pos hol ?_))))
          rw [wrap_succ hs6, hwr, Int.toNat_natCast]; exact E1
        · refine Ev.neg (by omega) (Ev.pos g0 (Ev.pos g0 (Ev.pos gq (Ev.pos hol ?_))))
          rw [wrap_succ hs6, hwr, Int.toNat_natCast]; exact E2
theorem earliest_both (h : JL l0 l1 l2) (hw : wholeN l1 ≤ 240) : ∃ (out : List Int) (late slot : Int), Ev (fun k => impl_Jobs_earliest.f k l0 l1 l2) (out, late) ∧ Ev (fun k => spec_l04Slots.f k l0 l1 l2) (out, slot, late) ∧ SEnd l0 l1 l2 out late slot := by
  have h8 := h.h8
  have hz : ∀ i, i < l0.length → rf (List.replicate l0.length 0) i = 0 := fun i hi => by unfold rf; rw [rd_get _ _ (by simpa using hi)]; simp
  have I0 : EInv l0.length (rf l0) (rf l1) (rf l2) 0 (rf (List.replicate l0.length 0)) (rf (List.replicate l0.length 0)) (cntI []) := EInv.congr (EInv.start h.jok) hz hz (fun i hi => rfl)
  obtain ⟨out, lt, sl, E1, E2, E3⟩ := slots_both h hw (wholeN l1) 0 (List.replicate l0.length 0) (List.replicate l0.length 0) [] (Nat.zero_add _) (by simp) (by simp) rfl I0 (fun m h1 h2 => by omega)
  refine ⟨out, lt, sl, ?_, ?_, E3⟩
  · unfold impl_Jobs_earliest.f
    have hm : impl_Jobs_many.f l0 l1 l2 = some (l0.length : Int) := rfl
    refine Ev.bindc hm (Ev.pos (by omega) (Ev.pos (by omega) (Ev.bindc hm (Ev.pos (by omega) (Ev.pos (by omega) ?_)))))
    rw [Int.toNat_natCast]; exact E1
  · unfold spec_l04Slots.f
    refine Ev.bind (l04Whole_w h hw) (Ev.pos (by omega) (Ev.pos (by omega) ?_))
    rw [Int.toNat_natCast]; exact E2
end
end Go.Proofs.Ytoakdilhljnjfaa.Pure
namespace Go.Proofs.Ytoakdilhljnjfaa.Q
open Go.RowKit Go.Proofs.YtoakdilhljnjfaaW.PrintWords Go.Proofs.YtoakdilhljnjfaaW.PrintLast Go.Proofs.YtoakdilhljnjfaaW.PrintMore
attribute [local go_sem] max2_int min2_int max_two min_two max_three min_three max_four min_four   -- for this text's walks alone
set_option linter.unusedVariables false
set_option linter.unusedSimpArgs false
def IsS112 (w0 W : World) (g : Nat) (f0 : List Int) (f1 : Int) (f2 : Int) : Prop := ∃ A0 c0, W.heap[g]? = some (.cells #[.slice A0 f0.length c0, .int .i64 f1, .int .u64 f2] 112 (0, 0)) ∧ w0.heap.size ≤ g ∧ Kd.C (Kd.int .u8) w0 A0 f0.length f0
theorem IsS112.grown {w0 W : World} {g : Nat} {f0 : List Int} {f1 : Int} {f2 : Int} {W1 : World} {row : Option Nat} (h : IsS112 w0 W g f0 f1 f2) (hw : W.grownBy W1 row) (hne : some g ≠ row) : IsS112 w0 W1 g f0 f1 f2 := by
 obtain ⟨A0, c0, hb, hg, hr0⟩ := h
 exact ⟨A0, c0, blk_grown hb hw hne, hg, hr0⟩
theorem IsS112.kept {w0 W : World} {g : Nat} {f0 : List Int} {f1 : Int} {f2 : Int} {W1 : World} {S : Nat → Prop} (h : IsS112 w0 W g f0 f1 f2) (hk : Kept W W1 S) (hne : ¬ S g) : IsS112 w0 W1 g f0 f1 f2 := by
 obtain ⟨A0, c0, hb, hg, hr0⟩ := h
 exact ⟨A0, c0, blk_kept hb hk hne, hg, hr0⟩
theorem IsS112.below {w0 W : World} {g : Nat} {f0 : List Int} {f1 : Int} {f2 : Int} {W1 : World} (h : IsS112 w0 W g f0 f1 f2) (hw : Below W.heap.size W W1) : IsS112 w0 W1 g f0 f1 f2 := h.grown (grown_of_below hw none) (by simp)
theorem IsS112.alloc {w0 W : World} {g : Nat} {f0 : List Int} {f1 : Int} {f2 : Int} (h : IsS112 w0 W g f0 f1 f2) (o : Obj) : IsS112 w0 (W.alloc o) g f0 f1 f2 := h.below (below_alloc (Below.refl _ _) o)
theorem IsS112.drewN {w0 W : World} {g : Nat} {f0 : List Int} {f1 : Int} {f2 : Int} (h : IsS112 w0 W g f0 f1 f2) (m : Nat) : IsS112 w0 (W.drewN m) g f0 f1 f2 := h
theorem IsS112.drew {w0 W : World} {g : Nat} {f0 : List Int} {f1 : Int} {f2 : Int} (h : IsS112 w0 W g f0 f1 f2) : IsS112 w0 W.drew g f0 f1 f2 := h
theorem IsS112.at_ {w0 W : World} {g : Nat} {f0 : List Int} {f1 : Int} {f2 : Int} {w' : World} {m : Nat} (hq : W.drewN m = w') (h : IsS112 w0 W g f0 f1 f2) : IsS112 w0 w' g f0 f1 f2 := by subst hq; exact IsS112.drewN h m
theorem IsS112.apart {w0 W : World} {g : Nat} {f0 : List Int} {f1 : Int} {f2 : Int} {α : Type} {d : Kd α} {e : Nat} {base : Nat} {ok : Nat → Prop} {v : Value} {xs : List α} (h : IsS112 w0 W g f0 f1 f2) (ho : d.R e W base ok v xs) (ht : ∀ q, q ∈ e :: d.E → q ≠ 112) : d.R e W base (fun k => ok k ∧ k ≠ g) v xs := by
 obtain ⟨A0, c0, hb, hg, hr0⟩ := h
 exact Kd.R_types ho hb ht
theorem IsS112.own_ne {w0 W : World} {g : Nat} {f0 : List Int} {f1 : Int} {f2 : Int} {α : Type} {d : Kd α} {e : Nat} {base : Nat} {ok : Nat → Prop} {v : Value} {xs : List α} (h : IsS112 w0 W g f0 f1 f2) (ho : d.R e W base ok v xs) (ht : e ≠ 112) : some g ≠ v.ownBlock := by
 obtain ⟨A0, c0, hb, hg, hr0⟩ := h
 exact Kd.R_ne ho hb ht
theorem IsS112.lt {w0 W : World} {g : Nat} {f0 : List Int} {f1 : Int} {f2 : Int} (h : IsS112 w0 W g f0 f1 f2) : g < W.heap.size := by
 obtain ⟨A0, c0, hb, hg, hr0⟩ := h
 exact blk_lt hb
theorem IsS112.ge {w0 W : World} {g : Nat} {f0 : List Int} {f1 : Int} {f2 : Int} (h : IsS112 w0 W g f0 f1 f2) : w0.heap.size ≤ g := by
 obtain ⟨A0, c0, hb, hg, hr0⟩ := h
 exact hg
theorem IsS112.ne_blk {w0 W : World} {g : Nat} {f0 : List Int} {f1 : Int} {f2 : Int} {a : Nat} {cs : Array Value} {t : TypeId} {fr : Nat × Nat} (h : IsS112 w0 W g f0 f1 f2) (hb2 : W.heap[a]? = some (.cells cs t fr)) (ht : t ≠ 112) : g ≠ a := by
 obtain ⟨A0, c0, hb, hg, hr0⟩ := h
 rintro rfl
 rw [hb] at hb2
 injection hb2 with hb2
 injection hb2 with _ ht2
 exact ht ht2.symm
theorem IsS112.far {w0 W : World} {g : Nat} {f0 : List Int} {f1 : Int} {f2 : Int} {p : Addr} (h : IsS112 w0 W g f0 f1 f2) (hne : g ≠ p.block) (u : Value) : IsS112 w0 (W.setCell p u) g f0 f1 f2 := by
 obtain ⟨A0, c0, hb, hg, hr0⟩ := h
 exact ⟨A0, c0, blk_far hb hne u, hg, hr0⟩
theorem cellS112_0 {W : World} {g : Nat} {A0 : Option Addr} {c0 : Nat} {f0 : List Int} {f1 : Int} {f2 : Int} (h : W.heap[g]? = some (.cells #[.slice A0 f0.length c0, .int .i64 f1, .int .u64 f2] 112 (0, 0))) : W.cell? ⟨g, 0, none⟩ = some (.slice A0 f0.length c0) := (blk_cell h 0).trans rfl
theorem cellS112_1 {W : World} {g : Nat} {A0 : Option Addr} {c0 : Nat} {f0 : List Int} {f1 : Int} {f2 : Int} (h : W.heap[g]? = some (.cells #[.slice A0 f0.length c0, .int .i64 f1, .int .u64 f2] 112 (0, 0))) : W.cell? ⟨g, 1, none⟩ = some (.int .i64 f1) := (blk_cell h 1).trans rfl
theorem IsS112.set_1 {w0 W : World} {g : Nat} {f0 : List Int} {f1 : Int} {f2 : Int} (h : IsS112 w0 W g f0 f1 f2) (x : Int) : IsS112 w0 (W.setCell ⟨g, 1, none⟩ (.int .i64 x)) g f0 x f2 := by
 obtain ⟨A0, c0, hb, hg, hr0⟩ := h
 exact ⟨A0, c0, by simpa using blk_set hb 1 (.int .i64 x), hg, hr0⟩
theorem cellS112_2 {W : World} {g : Nat} {A0 : Option Addr} {c0 : Nat} {f0 : List Int} {f1 : Int} {f2 : Int} (h : W.heap[g]? = some (.cells #[.slice A0 f0.length c0, .int .i64 f1, .int .u64 f2] 112 (0, 0))) : W.cell? ⟨g, 2, none⟩ = some (.int .u64 f2) := (blk_cell h 2).trans rfl
theorem IsS112.set_2 {w0 W : World} {g : Nat} {f0 : List Int} {f1 : Int} {f2 : Int} (h : IsS112 w0 W g f0 f1 f2) (x : Int) : IsS112 w0 (W.setCell ⟨g, 2, none⟩ (.int .u64 x)) g f0 f1 x := by
 obtain ⟨A0, c0, hb, hg, hr0⟩ := h
 exact ⟨A0, c0, by simpa using blk_set hb 2 (.int .u64 x), hg, hr0⟩
abbrev bQ77_0 : Array Bool := #[false, false, false, false, false, false, false, false, false, false, false, false, false, false, false, false]
abbrev bQ77_1 : Array Bool := #[true, false, false, false, false, false, false, false, false, false, false, false, false, false, false, false]
abbrev bQ77_2 : Array Bool := #[true, true, false, false, false, false, false, false, false, false, false, false, false, false, false, false]
abbrev bQ77_3 : Array Bool := #[true, true, true, false, false, false, false, false, false, false, false, false, false, false, false, false]
abbrev bQ77_4 : Array Bool := #[true, true, true, true, false, false, false, false, false, false, false, false, false, false, false, false]
abbrev bQ77_5 : Array Bool := #[true, true, true, true, false, false, true, false, false, false, false, false, false, false, false, false]
abbrev bQ77_6 : Array Bool := #[true, true, true, true, false, false, true, true, false, false, false, false, false, false, false, false]
abbrev bQ77_7 : Array Bool := #[true, true, true, true, false, false, true, true, true, false, false, false, false, false, false, false]
abbrev bQ77_8 : Array Bool := #[true, true, true, true, true, false, true, true, true, false, false, false, false, false, false, false]
abbrev bQ77_9 : Array Bool := #[true, true, true, true, true, true, true, true, true, false, false, false, false, false, false, false]
abbrev bQ77_10 : Array Bool := #[true, true, true, true, true, true, true, true, true, true, false, false, false, false, false, false]
abbrev bQ77_11 : Array Bool := #[true, true, true, true, true, true, true, true, true, true, true, false, false, false, false, false]
abbrev bQ77_12 : Array Bool := #[true, true, true, true, true, true, true, true, true, true, true, true, false, false, false, false]
abbrev bQ77_13 : Array Bool := #[true, true, true, true, true, true, true, true, true, true, true, true, true, false, false, false]
abbrev bQ77_14 : Array Bool := #[true, true, true, true, true, true, true, true, true, true, true, true, true, true, false, false]
abbrev bQ77_15 : Array Bool := #[true, true, true, true, true, true, true, true, true, true, true, true, true, true, true, false]
abbrev bQ77_16 : Array Bool := #[true, true, true, true, true, true, true, true, true, true, true, true, true, true, true, true]
def spec_l01From.l0 : Nat → List Int → Int → List Int → Int → Int → Option (List Int × Int × Int)
 | 0, _, _, _, _, _ => none
 | k + 1, x0, x4, x184000, x184001, x184002 => if x4 < (x0.length : Int) then (if x4 < 4096 then (if 0 ≤ x4 then (spec_l01From.l0 k x0 (wrap64 (x4 + 1)) x184000 x184001 (IntKind.u64.wrap ((IntKind.u64.wrap ((IntKind.u64.wrap (x184002 * 1099511628211)) + (IntKind.u64.wrap (rd x0 x4)))) + 241))) else (none)) else (some (x184000, x184001, x184002))) else (some (x184000, x184001, x184002))
def spec_l01From.f (k : Nat) (l0 : List Int) : Option (List Int × Int × Int) := spec_l01From.l0 k l0 0 l0 0 (IntKind.u64.wrap (14041 + (IntKind.u64.wrap ((l0.length : Int)))))
def spec_l01From.T5 : Bool × List (List Nat × List Nat) := (true, [([], []), ([], []), ([1], [1]), ([2], [2]), ([3], [3]), ([4], [4]), ([], []), ([], []), ([6, 7], [6, 7]), ([8], [8]), ([9], [9]), ([5, 10], [5, 10]), ([11], [11]), ([0, 0, 1, 2, 3, 4, 5, 6, 7, 8, 9, 10, 11, 12], [0]), ([13, 0, 1, 2, 3, 4, 5, 6, 7, 8, 9, 10, 11, 12], [13]), ([14, 12, 0, 1, 2, 3, 4, 5, 6, 7, 8, 9, 10, 11, 12], [12, 14])])
def spec_l01From.B5 : List Nat := [0, 0, 2, 6, 14, 30, 0, 0, 192, 448, 960, 2046, 4094, 8191, 16383, 32767]
theorem spec_l01From.tab5 : rtab .any (opsOf Try.f77 5) = spec_l01From.T5 := by kernel_rfl
theorem spec_l01From.bits5 : waitsOk spec_l01From.T5.2 spec_l01From.B5 = true := by kernel_rfl
set_option maxHeartbeats 8000000 in
set_option maxRecDepth 100000 in
theorem spec_l01From.calls (k : Nat) (A0 : Option Addr) (c0 : Nat) (l0 : List Int) (r1 : List Int) (r2 : Int) (r3 : Int) (w0 w : World) (hB : Below w0.heap.size w0 w) (hr0 : Kd.C (Kd.int .u8) w0 A0 l0.length l0) (hc0 : l0.length ≤ c0) (h : spec_l01From.f k l0 = some (r1, r2, r3)) :
 Calls Try.prog 77 #[.slice A0 l0.length c0] w fun e w' => ∃ g_ : Nat, e = .returned (.pointer (some ⟨g_, 0, none⟩)) ∧ IsS112 w0 w' g_ r1 r2 r3 ∧ Below w0.heap.size w0 w' ∧ Below w.heap.size w w' := by
 have hu112 := Try.underlying112
 have HR0 := Aside0.mk hr0
 have HC0 := Aside0.mk hc0
 clear hr0 hc0
 have HBW := Aside0.mk (Below.refl w.heap.size w)
 have HW0 := Aside0.mk hB.size
 have HB := Aside0.mk hB
 clear hB
 have H : (spec_l01From.l0 k l0 0 l0 0 (IntKind.u64.wrap (14041 + (IntKind.u64.wrap ((l0.length : Int)))))) = some (r1, r2, r3) := h
 clear h
 have H' := Aside0.mk H
 clear H
 go_enter Try.func77, Try.ntmps77
 go_wp2_with (((with_reducible refine gate_dst (N := 11) rfl ?_); refine box_event ?hg (N := 11) ?hd (cs := #[.slice A0 l0.length c0, .int .i64 0, .int .u64 (IntKind.u64.wrap (14041 + (IntKind.u64.wrap (l0.length : Int))))]) (t := 112) ?hr ?_; (case hd => rfl); (case hg => rfl); (case hr => (go_simp; done)); intro gb183 hg w2 hbox hb; have n0_ := Aside0.mk (below_step HBW.out hb); have n1_ := Aside0.mk (below_step HB.out hb); have n2_ := Aside0.mk (hbox); have n3_ := Aside0.mk ((by rw [hg]; exact (below_size HBW.out) : w.heap.size ≤ gb183)); have n4_ := Aside0.mk ((Nat.le_trans HW0.out (by rw [hg]; exact (below_size HBW.out) : w.heap.size ≤ gb183) : w0.heap.size ≤ gb183)); clear HBW; clear HB; have HBW := n0_; have HB := n1_; have BK183 := n2_; have GW183 := n3_; have GE183 := n4_; clear n0_ n1_ n2_ n3_ n4_; clear hb hbox hg))
 go_loopg [4] k (fun kq v4 w' => ∃ (x4_1 : Int) (x184002_1 : Int), v4 = .int .i64 x4_1 ∧ Aside0 (spec_l01From.l0 kq l0 x4_1 l0 0 x184002_1 = some (r1, r2, r3)) ∧ Aside0 (kq ≤ k) ∧ Aside0 (w'.heap[gb183]? = some (.cells #[(.slice A0 l0.length c0), .int .i64 0, .int .u64 x184002_1] 112 (0, 0))) ∧ Aside0 (Below w0.heap.size w0 w') ∧ Aside0 (Below w.heap.size w w'))
 case atStart => exact ⟨(0), (IntKind.u64.wrap (14041 + (IntKind.u64.wrap (l0.length : Int)))), (by rfl), H', ⟨Nat.le_refl _⟩, ⟨by exact BK183.out⟩, ⟨by exact HB.out⟩, ⟨by exact HBW.out⟩⟩
 clear H'
 obtain ⟨x4_1, x184002_1, rfl, HA, HK1, BK183, HB, HBW⟩ := hrel
 cases gk with
 | zero => exact absurd HA.out (by simp [spec_l01From.l0])
 | succ k1 =>
  have H := HA.out
  clear HA
  simp only [spec_l01From.l0] at H
  by_cases c3 : x4_1 < (l0.length : Int)
  rotate_left
  · rw [if_neg c3] at H
    have c3b0 : decide (x4_1 < (l0.length : Int)) = false := decide_eq_false c3
    clear c3
    simp only [Option.some.injEq, Prod.mk.injEq] at H
    obtain ⟨rfl, rfl, rfl⟩ := H
    go_wp2
    go_ret
    exact ⟨_, rfl, (show IsS112 w0 _ gb183 l0 0 x184002_1 from ⟨_, _, by exact BK183.out, GE183.out, HR0.out⟩), by exact HB.out, by exact HBW.out⟩
  rw [if_pos c3] at H
  have c3b0 : decide (x4_1 < (l0.length : Int)) = true := decide_eq_true c3
  clear c3
  by_cases c4 : x4_1 < 4096
  rotate_left
  · rw [if_neg c4] at H
    have c4b0 : decide (x4_1 < 4096) = false := decide_eq_false c4
    clear c4
    simp only [Option.some.injEq, Prod.mk.injEq] at H
    obtain ⟨rfl, rfl, rfl⟩ := H
    go_wp2
    go_ret
    exact ⟨_, rfl, (show IsS112 w0 _ gb183 l0 0 x184002_1 from ⟨_, _, by exact BK183.out, GE183.out, HR0.out⟩), by exact HB.out, by exact HBW.out⟩
  rw [if_pos c4] at H
  have c4b0 : decide (x4_1 < 4096) = true := decide_eq_true c4
  clear c4
  by_cases c5 : 0 ≤ x4_1
  rotate_left
  · rw [if_neg c5] at H
    exact absurd H (by simp)
  rw [if_pos c5] at H
  have c5b0 : decide (0 ≤ x4_1) = true := decide_eq_true c5
  clear c5
  have H' := Aside0.mk H
  clear H
  try go_wp2
  have n0_ := Aside0.mk (blk_drew BK183.out)
  have n1_ := Aside0.mk (below_drew1 HB.out)
  have HBW' := Aside0.mk (below_drew1 HBW.out)
  clear HBW
  have HBW := HBW'
  clear HBW'
  clear BK183
  clear HB
  have BK183 := n0_
  have HB := n1_
  clear n0_ n1_
  have p184 : 0 ≤ (x4_1 : Int) := of_decide_eq_true (by (with_reducible assumption))
  have q184 : x4_1 < (l0.length : Int) := of_decide_eq_true (by (with_reducible assumption))
  obtain ⟨ad184, e184, hx184_0⟩ := Kd.at_int HR0.out x4_1 p184 q184
  have hw184_0 := hx184_0
  cases e184
  replace hx184_0 := pw_cell_below HB.out hx184_0
  replace p184 := eq_true p184
  replace q184 := eq_true q184
  refine start_ (n := 16) (S := fun w' => w'.cell? ⟨gb183, 0, none⟩ = some (.slice (some ad184) l0.length c0) ∧ w'.cell? ⟨gb183, 1, none⟩ = some (.int .i64 0) ∧ w'.cell? ⟨gb183, 2, none⟩ = some (.int .u64 x184002_1) ∧ w'.cell? (ad184.add (x4_1).toNat) = some (.int .u8 (rd l0 x4_1))) (ds := [15]) bQ77_0 (by kernel_rfl) rfl rfl ⟨(blk_cell BK183.out 0).trans rfl, (blk_cell BK183.out 1).trans rfl, (blk_cell BK183.out 2).trans rfl, ((HB.out.cell (World.block_lt_of_cell? _ _ hw184_0)).trans hw184_0)⟩ (fun hHeld => ?_); refine with_tabW spec_l01From.tab5 spec_l01From.bits5 (fun HT_ HW_ => ?_)
  generalize wr.drew = w6 at HBW BK183 HB hx184_0 hHeld ⊢
  refine pure_ (i := 0) (N := some 22) (v := ?_) (a' := ?_) bQ77_1 rfl rfl (any_of HT_.out (by kernel_rfl)) (fun _ _ _ h => h) (Or.inl ⟨by rfl, ?_⟩) ?_ ?_
  rotate_left
  · intro w'
    go_simp
    with_reducible rfl
  rotate_left
  · simp only [Act.put, List.setIfInBounds_toArray, List.set_cons_zero, List.set_cons_succ, i64_w, i32_w]
    rfl
  refine pure_ (i := 1) (N := some 23) (v := ?_) (a' := ?_) bQ77_2 rfl rfl (any_of HT_.out (by kernel_rfl)) (fun _ _ _ h => h) (Or.inl ⟨by rfl, ?_⟩) ?_ ?_
  rotate_left
  · intro w'
    go_simp
    with_reducible rfl
  rotate_left
  · simp only [Act.put, List.setIfInBounds_toArray, List.set_cons_zero, List.set_cons_succ, i64_w, i32_w]
    rfl
  refine pure_ (i := 2) (N := some 24) (v := ?_) (a' := ?_) bQ77_3 rfl rfl (any_of HT_.out (by kernel_rfl)) (fun _ _ _ h => h) (Or.inl ⟨by rfl, ?_⟩) ?_ ?_
  rotate_left
  · intro w'
    go_simp
    with_reducible rfl
  rotate_left
  · simp only [Act.put, List.setIfInBounds_toArray, List.set_cons_zero, List.set_cons_succ, i64_w, i32_w]
    rfl
  refine pure_ (i := 3) (N := some 25) (v := ?_) (a' := ?_) bQ77_4 rfl rfl (any_of HT_.out (by kernel_rfl)) (fun _ _ _ h => h) (Or.inl ⟨by rfl, ?_⟩) ?_ ?_
  rotate_left
  · intro w'
    go_simp
    with_reducible rfl
  rotate_left
  · simp only [Act.put, List.setIfInBounds_toArray, List.set_cons_zero, List.set_cons_succ, i64_w, i32_w]
    rfl
  refine pure_ (i := 6) (N := some 28) (v := ?_) (a' := ?_) bQ77_5 rfl rfl (any_of HT_.out (by kernel_rfl)) (fun _ _ _ h => h) (Or.inl ⟨by rfl, ?_⟩) ?_ ?_
  rotate_left
  · intro w'
    go_simp
    with_reducible rfl
  rotate_left
  · simp only [Act.put, List.setIfInBounds_toArray, List.set_cons_zero, List.set_cons_succ, i64_w, i32_w]
    rfl
  refine pure_ (i := 7) (N := some 29) (v := ?_) (a' := ?_) bQ77_6 rfl rfl (any_of HT_.out (by kernel_rfl)) (fun _ _ _ h => h) (Or.inl ⟨by rfl, ?_⟩) ?_ ?_
  rotate_left
  · intro w'
    go_simp
    with_reducible rfl
  rotate_left
  · simp only [Act.put, List.setIfInBounds_toArray, List.set_cons_zero, List.set_cons_succ, i64_w, i32_w]
    rfl
  refine pure_ (i := 8) (N := some 30) (v := ?_) (a' := ?_) bQ77_7 rfl rfl (any_of HT_.out (by kernel_rfl)) (fun _ _ _ h => h) (Or.inl ⟨by rfl, ?_⟩) ?_ ?_
  rotate_left
  · intro w'
    go_simp
    with_reducible rfl
  rotate_left
  · simp only [Act.put, List.setIfInBounds_toArray, List.set_cons_zero, List.set_cons_succ, i64_w, i32_w]
    rfl
  refine take_ (i := 4) (N := some 26) (v := ?_) (a' := ?_) bQ77_8 rfl rfl (take_ofW HT_.out HW_.out (by kernel_rfl)) (fun _ _ _ h => h) (Or.inl ⟨by rfl, ?_⟩) hHeld ?_ ?_
  rotate_left
  · rintro w' ⟨s0, s1, s2, s3⟩
    go_simp
    with_reducible rfl
  rotate_left
  · simp only [Act.put, List.setIfInBounds_toArray, List.set_cons_zero, List.set_cons_succ, i64_w, i32_w]
    rfl
  refine pure_ (i := 5) (N := some 27) (v := ?_) (a' := ?_) bQ77_9 rfl rfl (any_of HT_.out (by kernel_rfl)) (fun _ _ _ h => h) (Or.inl ⟨by rfl, ?_⟩) ?_ ?_
  rotate_left
  · intro w'
    go_simp
    with_reducible rfl
  rotate_left
  · simp only [Act.put, List.setIfInBounds_toArray, List.set_cons_zero, List.set_cons_succ, i64_w, i32_w]
    rfl
  refine take_ (i := 9) (N := some 31) (v := ?_) (a' := ?_) bQ77_10 rfl rfl (take_ofW HT_.out HW_.out (by kernel_rfl)) (fun _ _ _ h => h) (Or.inl ⟨by rfl, ?_⟩) hHeld ?_ ?_
  rotate_left
  · rintro w' ⟨s0, s1, s2, s3⟩
    go_simp
    with_reducible rfl
  rotate_left
  · simp only [Act.put, List.setIfInBounds_toArray, List.set_cons_zero, List.set_cons_succ, i64_w, i32_w]
    rfl
  refine pure_ (i := 10) (N := some 32) (v := ?_) (a' := ?_) bQ77_11 rfl rfl (any_of HT_.out (by kernel_rfl)) (fun _ _ _ h => h) (Or.inl ⟨by rfl, ?_⟩) ?_ ?_
  rotate_left
  · intro w'
    go_simp
    with_reducible rfl
  rotate_left
  · simp only [Act.put, List.setIfInBounds_toArray, List.set_cons_zero, List.set_cons_succ, i64_w, i32_w]
    rfl
  refine pure_ (i := 11) (N := some 33) (v := ?_) (a' := ?_) bQ77_12 rfl rfl (any_of HT_.out (by kernel_rfl)) (fun _ _ _ h => h) (Or.inl ⟨by rfl, ?_⟩) ?_ ?_
  rotate_left
  · intro w'
    go_simp
    with_reducible rfl
  rotate_left
  · simp only [Act.put, List.setIfInBounds_toArray, List.set_cons_zero, List.set_cons_succ, i64_w, i32_w]
    rfl
  refine pure_ (i := 12) (N := some 34) (v := ?_) (a' := ?_) bQ77_13 rfl rfl (any_of HT_.out (by kernel_rfl)) (fun _ _ _ h => h) (Or.inl ⟨by rfl, ?_⟩) ?_ ?_
  rotate_left
  · intro w'
    go_simp
    with_reducible rfl
  rotate_left
  · simp only [Act.put, List.setIfInBounds_toArray, List.set_cons_zero, List.set_cons_succ, i64_w, i32_w]
    rfl
  refine pure_ (i := 13) (N := some 35) (v := ?_) (a' := ?_) bQ77_14 rfl rfl (any_of HT_.out (by kernel_rfl)) (fun _ _ _ h => h) (Or.inl ⟨by rfl, ?_⟩) ?_ ?_
  rotate_left
  · intro w'
    go_simp
    with_reducible rfl
  rotate_left
  · simp only [Act.put, List.setIfInBounds_toArray, List.set_cons_zero, List.set_cons_succ, i64_w, i32_w]
    rfl
  refine pure_ (i := 14) (N := some 36) (v := ?_) (a' := ?_) bQ77_15 rfl rfl (any_of HT_.out (by kernel_rfl)) (fun _ _ _ h => h) (Or.inl ⟨by rfl, ?_⟩) ?_ ?_
  rotate_left
  · intro w'
    go_simp
    with_reducible rfl
  rotate_left
  · simp only [Act.put, List.setIfInBounds_toArray, List.set_cons_zero, List.set_cons_succ, i64_w, i32_w]
    rfl
  refine last_ (i := 15) (N := none) bQ77_16 rfl rfl (one_of HT_.out (by kernel_rfl)) (by decide) (fun K hK => ?_)
  have hs7 : w6.cell? ⟨gb183, 2, none⟩ = some (.int .u64 x184002_1) := (blk_cell BK183.out 2).trans rfl
  have hfs7 := blk_frozen BK183.out 2
  refine skip_ (w1 := ?_) (by rfl) rfl ?_ ?_
  rotate_left
  · go_simp
    rfl
  refine hK.out _ _ ?_
  clear hK K
  refine done_ (done_of HT_.out (by kernel_rfl)) ?_
  try go_wp2
  go_roundg k1
  case measure => have := HK1.out; omega
  case rel => exact ⟨(wrap64 (x4_1 + 1)), (IntKind.u64.wrap ((IntKind.u64.wrap ((IntKind.u64.wrap (x184002_1 * 1099511628211)) + (IntKind.u64.wrap (rd l0 x4_1)))) + 241)), (by rfl), H', ⟨by have := HK1.out; omega⟩, ⟨by refine blk_put (cs := #[.slice (some ad184) l0.length c0, .int .i64 0, .int .u64 x184002_1]) ?_ 2 _ rfl; exact BK183.out⟩, ⟨by repeat (with_reducible first | exact HB.out | refine below_set ?_ GE183.out)⟩, ⟨by repeat (with_reducible first | exact HBW.out | refine below_set ?_ GW183.out)⟩⟩
end Go.Proofs.Ytoakdilhljnjfaa.Q
namespace Go.Proofs.Ytoakdilhljnjfaa.Q
open Go.RowKit Go.Proofs.YtoakdilhljnjfaaW.PrintWords Go.Proofs.YtoakdilhljnjfaaW.PrintLast Go.Proofs.YtoakdilhljnjfaaW.PrintMore
attribute [local go_sem] max2_int min2_int max_two min_two max_three min_three max_four min_four   -- for this text's walks alone
set_option linter.unusedVariables false
set_option linter.unusedSimpArgs false
def spec_l01Next.f (s0_0 : List Int) (s0_1 : Int) (s0_2 : Int) (a1 : Int) : Option (Int × Int × Int) := if a1 < 1 then (some (0, s0_1, s0_2)) else (if s0_1 < (s0_0.length : Int) then (if 0 ≤ s0_1 then (if a1 = 0 then (none) else (some (Int.tmod (wrap64 ((wrap64 (Go.bits .and .u64 ((IntKind.u64.wrap ((IntKind.u64.wrap (s0_2 * 6364136223846793005)) + 1442695040888963407)) / 8589934592) 16777215)) + (wrap64 (rd s0_0 s0_1)))) a1, wrap64 (s0_1 + 1), IntKind.u64.wrap ((IntKind.u64.wrap (s0_2 * 6364136223846793005)) + 1442695040888963407)))) else (none)) else (if a1 = 0 then (none) else (some (Int.tmod (wrap64 (Go.bits .and .u64 ((IntKind.u64.wrap ((IntKind.u64.wrap (s0_2 * 6364136223846793005)) + 1442695040888963407)) / 8589934592) 16777215)) a1, s0_1, IntKind.u64.wrap ((IntKind.u64.wrap (s0_2 * 6364136223846793005)) + 1442695040888963407)))))
set_option maxHeartbeats 8000000 in
set_option maxRecDepth 100000 in
theorem spec_l01Next.calls (g : Nat) (s0_0 : List Int) (s0_1 : Int) (s0_2 : Int) (a1 : Int) (r1 : Int) (r2 : Int) (r3 : Int) (w0 w : World) (hI : IsS112 w0 w g s0_0 s0_1 s0_2) (hB : Below w0.heap.size w0 w) (h : spec_l01Next.f s0_0 s0_1 s0_2 a1 = some (r1, r2, r3)) :
 Calls Try.prog 110 #[.pointer (some ⟨g, 0, none⟩), .int .i64 a1] w fun e w' => e = .returned (.int .i64 r1) ∧ IsS112 w0 w' g s0_0 r2 r3 ∧ Below w0.heap.size w0 w' ∧ KeepBut w w' g none := by
 have HI0 := Aside0.mk hI
 have HK := Aside0.mk (KeepBut.refl w g none)
 have HL := Aside0.mk hB.size
 clear hI
 have HW0 := Aside0.mk hB.size
 have HB := Aside0.mk hB
 clear hB
 have H : (if a1 < 1 then (some (0, s0_1, s0_2)) else (if s0_1 < (s0_0.length : Int) then (if 0 ≤ s0_1 then (if a1 = 0 then (none) else (some (Int.tmod (wrap64 ((wrap64 (Go.bits .and .u64 ((IntKind.u64.wrap ((IntKind.u64.wrap (s0_2 * 6364136223846793005)) + 1442695040888963407)) / 8589934592) 16777215)) + (wrap64 (rd s0_0 s0_1)))) a1, wrap64 (s0_1 + 1), IntKind.u64.wrap ((IntKind.u64.wrap (s0_2 * 6364136223846793005)) + 1442695040888963407)))) else (none)) else (if a1 = 0 then (none) else (some (Int.tmod (wrap64 (Go.bits .and .u64 ((IntKind.u64.wrap ((IntKind.u64.wrap (s0_2 * 6364136223846793005)) + 1442695040888963407)) / 8589934592) 16777215)) a1, s0_1, IntKind.u64.wrap ((IntKind.u64.wrap (s0_2 * 6364136223846793005)) + 1442695040888963407)))))) = some (r1, r2, r3) := h
 clear h
 by_cases c3 : a1 < 1
 · rw [if_pos c3] at H
   have c3b0 : decide (a1 < 1) = true := decide_eq_true c3
   clear c3
   simp only [Option.some.injEq, Prod.mk.injEq] at H
   obtain ⟨rfl, rfl, rfl⟩ := H
   go_enter Try.func110, Try.ntmps110
   go_wp2
   repeat (go_quiet (fail); try go_wp2)
   go_ret
   exact ⟨by rfl, by exact HI0.out, by exact HB.out, by exact HK.out⟩
 rw [if_neg c3] at H
 have c3b0 : decide (a1 < 1) = false := decide_eq_false c3
 clear c3
 by_cases c4 : s0_1 < (s0_0.length : Int)
 rotate_left
 · rw [if_neg c4] at H
   have c4b0 : decide (s0_1 < (s0_0.length : Int)) = false := decide_eq_false c4
   clear c4
   by_cases c8 : a1 = 0
   · rw [if_pos c8] at H
     exact absurd H (by simp)
   rw [if_neg c8] at H
   have c8b0 : (a1 == 0) = false := beq_eq_false_iff_ne.mpr c8
   have c8b1 : (a1 != 0) = true := bne_iff_ne.mpr c8
   simp only [Option.some.injEq, Prod.mk.injEq] at H
   obtain ⟨rfl, rfl, rfl⟩ := H
   obtain ⟨ASz9_0, cSz9_0, HGz9, hgz9, HSz9_0⟩ := HI0.out
   have hcz9_0 := cellS112_0 HGz9
   have hcz9_1 := cellS112_1 HGz9
   have hcz9_2 := cellS112_2 HGz9
   have hfz9_1 := blk_frozen HGz9 1
   have hfz9_2 := blk_frozen HGz9 2
   clear HGz9 hgz9
   go_enter Try.func110, Try.ntmps110
   go_wp2
   repeat (go_quiet (fail); try go_wp2)
   go_ret
   exact ⟨by rfl, by repeat (with_reducible first | exact HI0.out | apply IsS112.drewN | apply IsS112.set_2), by repeat ((with_reducible first | exact HB.out | apply pw_below_drewN | refine below_set ?_ (IsS112.ge HI0.out))), by repeat (with_reducible first | exact HK.out | apply KeepBut.set_ | apply keep_drewN)⟩
 rw [if_pos c4] at H
 have c4b0 : decide (s0_1 < (s0_0.length : Int)) = true := decide_eq_true c4
 clear c4
 by_cases c5 : 0 ≤ s0_1
 rotate_left
 · rw [if_neg c5] at H
   exact absurd H (by simp)
 rw [if_pos c5] at H
 have c5b0 : decide (0 ≤ s0_1) = true := decide_eq_true c5
 clear c5
 by_cases c6 : a1 = 0
 · rw [if_pos c6] at H
   exact absurd H (by simp)
 rw [if_neg c6] at H
 have c6b0 : (a1 == 0) = false := beq_eq_false_iff_ne.mpr c6
 have c6b1 : (a1 != 0) = true := bne_iff_ne.mpr c6
 simp only [Option.some.injEq, Prod.mk.injEq] at H
 obtain ⟨rfl, rfl, rfl⟩ := H
 obtain ⟨ASz7_0, cSz7_0, HGz7, hgz7, HSz7_0⟩ := HI0.out
 have hcz7_0 := cellS112_0 HGz7
 have hcz7_1 := cellS112_1 HGz7
 have hcz7_2 := cellS112_2 HGz7
 have hfz7_1 := blk_frozen HGz7 1
 have hfz7_2 := blk_frozen HGz7 2
 clear HGz7 hgz7
 have p185 : 0 ≤ (s0_1 : Int) := of_decide_eq_true (by (with_reducible assumption))
 have q185 : s0_1 < (s0_0.length : Int) := of_decide_eq_true (by (with_reducible assumption))
 obtain ⟨ad185, e185, hx185_0⟩ := Kd.at_int HSz7_0 s0_1 p185 q185
 cases e185
 have hn185_0 : ad185.block ≠ g := Nat.ne_of_lt (Nat.lt_of_lt_of_le (by have := World.block_lt_of_cell? _ _ hx185_0; rwa [add_block] at this) (IsS112.ge HI0.out))
 replace hx185_0 := pw_cell_below HB.out hx185_0
 replace hx185_0 := (cell_far (p := ⟨g, 2, none⟩) (by (rw [add_block]; exact hn185_0)) (.int .u64 (IntKind.u64.wrap ((IntKind.u64.wrap (s0_2 * 6364136223846793005)) + 1442695040888963407)))).trans hx185_0
 (try have hy185_0 := fun (n_ : Nat) => (show (((w.drewN n_).setCell ⟨g, 2, none⟩ (.int .u64 (IntKind.u64.wrap ((IntKind.u64.wrap (s0_2 * 6364136223846793005)) + 1442695040888963407))))).cell? _ = some _ from hx185_0))
 clear hn185_0
 replace p185 := eq_true p185
 replace q185 := eq_true q185
 go_enter Try.func110, Try.ntmps110
 go_wp2
 repeat (go_quiet (fail); try go_wp2)
 go_ret
 exact ⟨by rfl, by repeat (with_reducible first | exact HI0.out | apply IsS112.drewN | apply IsS112.set_1 | apply IsS112.set_2), by repeat ((with_reducible first | exact HB.out | apply pw_below_drewN | refine below_set ?_ (IsS112.ge HI0.out))), by repeat (with_reducible first | exact HK.out | apply KeepBut.set_ | apply keep_drewN)⟩
end Go.Proofs.Ytoakdilhljnjfaa.Q
namespace Go.Proofs.Ytoakdilhljnjfaa.Q
open Go.RowKit Go.Proofs.YtoakdilhljnjfaaW.PrintWords Go.Proofs.YtoakdilhljnjfaaW.PrintLast Go.Proofs.YtoakdilhljnjfaaW.PrintMore
attribute [local go_sem] max2_int min2_int max_two min_two max_three min_three max_four min_four   -- for this text's walks alone
set_option linter.unusedVariables false
set_option linter.unusedSimpArgs false
def spec_l01Pick.f (s0_0 : List Int) (s0_1 : Int) (s0_2 : Int) (l1 : List Int) : Option (Int × Int × Int) := (spec_l01Next.f s0_0 s0_1 s0_2 (l1.length : Int)).bind fun bt186 => (if 0 ≤ bt186.1 then (if bt186.1 < (l1.length : Int) then (some (rd l1 bt186.1, bt186.2.1, bt186.2.2)) else (none)) else (none))
set_option maxHeartbeats 8000000 in
set_option maxRecDepth 100000 in
theorem spec_l01Pick.calls (g : Nat) (s0_0 : List Int) (s0_1 : Int) (s0_2 : Int) (A1 : Option Addr) (c1 : Nat) (l1 : List Int) (r1 : Int) (r2 : Int) (r3 : Int) (w0 w : World) (hI : IsS112 w0 w g s0_0 s0_1 s0_2) (hB : Below w0.heap.size w0 w) (hr1 : Kd.C (Kd.int .i64) w A1 l1.length l1) (hc1 : l1.length ≤ c1) (hf1 : ∀ ad, A1 = some ad → 0 < l1.length → ad.block ≠ g) (h : spec_l01Pick.f s0_0 s0_1 s0_2 l1 = some (r1, r2, r3)) :
 Calls Try.prog 79 #[.pointer (some ⟨g, 0, none⟩), .slice A1 l1.length c1] w fun e w' => e = .returned (.int .i64 r1) ∧ IsS112 w0 w' g s0_0 r2 r3 ∧ Below w0.heap.size w0 w' ∧ KeepBut w w' g none := by
 have HR1 := Aside0.mk hr1
 have HC1 := Aside0.mk hc1
 clear hr1 hc1
 have HI0 := Aside0.mk hI
 have HK := Aside0.mk (KeepBut.refl w g none)
 have HL := Aside0.mk hB.size
 clear hI
 have HW0 := Aside0.mk hB.size
 have HB := Aside0.mk hB
 clear hB
 have H : ((spec_l01Next.f s0_0 s0_1 s0_2 (l1.length : Int)).bind fun bt186 => (if 0 ≤ bt186.1 then (if bt186.1 < (l1.length : Int) then (some (rd l1 bt186.1, bt186.2.1, bt186.2.2)) else (none)) else (none))) = some (r1, r2, r3) := h
 clear h
 replace H := Option.bind_eq_some_iff.mp H
 obtain ⟨⟨t186, t187, t188⟩, A30, H⟩ := H
 replace H : (if 0 ≤ t186 then (if t186 < (l1.length : Int) then (some (rd l1 t186, t187, t188)) else (none)) else (none)) = some (r1, r2, r3) := H
 have A3 := Aside0.mk A30
 clear A30
 by_cases c4 : 0 ≤ t186
 rotate_left
 · rw [if_neg c4] at H
   exact absurd H (by simp)
 rw [if_pos c4] at H
 have c4b0 : decide (0 ≤ t186) = true := decide_eq_true c4
 clear c4
 by_cases c5 : t186 < (l1.length : Int)
 rotate_left
 · rw [if_neg c5] at H
   exact absurd H (by simp)
 rw [if_pos c5] at H
 have c5b0 : decide (t186 < (l1.length : Int)) = true := decide_eq_true c5
 clear c5
 simp only [Option.some.injEq, Prod.mk.injEq] at H
 obtain ⟨rfl, rfl, rfl⟩ := H
 go_enter Try.func79, Try.ntmps79
 go_wp2_with (((with_reducible refine gate_callee (f := 110) rfl ?_); refine goesL_ (some 9) rfl rfl Try.func110 (by kernel_rfl) rfl #[.pointer (some ⟨g, 0, none⟩), .int .i64 (l1.length : Int)] rfl (by (try simp only [List.map_toArray, List.map_cons, List.map_nil]); rfl) ?_; (with_reducible refine (spec_l01Next.calls g s0_0 s0_1 s0_2 (l1.length : Int) t186 t187 t188 w0 _ ?side1 ?side2 A3.out).mono ?_); (case side1 => exact HI0.out); (case side2 => exact HB.out); rintro e w6 ⟨rfl, hi, hb, hk⟩; refine ⟨_, rfl, ?_⟩; have n0_ := Aside0.mk (KeepBut.trans HK.out hk (.inl rfl)); have n1_ := Aside0.mk (hb); have n2_ := Aside0.mk (hi); clear HK; clear HB; clear HI0; have HK := n0_; have HB := n1_; have HI0 := n2_; clear n0_ n1_ n2_; (try clear hb); (try clear hb2); (try clear hk); (try clear hi); have p189 : 0 ≤ (t186 : Int) := of_decide_eq_true (by (with_reducible assumption)); have q189 : t186 < (l1.length : Int) := of_decide_eq_true (by (with_reducible assumption)); obtain ⟨ad189, e189, hx189_0⟩ := Kd.at_int HR1.out t186 p189 q189; cases e189; replace hx189_0 := keep_cell HK.out hx189_0 (by (rw [add_block]; exact hf1 _ rfl (by omega))); replace p189 := eq_true p189; replace q189 := eq_true q189))
 go_ret
 exact ⟨by rfl, by exact HI0.out, by exact HB.out, by exact HK.out⟩
end Go.Proofs.Ytoakdilhljnjfaa.Q
namespace Go.Proofs.Ytoakdilhljnjfaa.Q
open Go.RowKit Go.Proofs.YtoakdilhljnjfaaW.PrintWords Go.Proofs.YtoakdilhljnjfaaW.PrintLast Go.Proofs.YtoakdilhljnjfaaW.PrintMore
attribute [local go_sem] max2_int min2_int max_two min_two max_three min_three max_four min_four   -- for this text's walks alone
set_option linter.unusedVariables false
set_option linter.unusedSimpArgs false
def spec_l01Near.f (s0_0 : List Int) (s0_1 : Int) (s0_2 : Int) (a1 : Int) : Option (Int × Int × Int) := (spec_l01Next.f s0_0 s0_1 s0_2 14).bind fun bt511 => (if bt511.1 = 0 then ((spec_l01Pick.f s0_0 bt511.2.1 bt511.2.2 (([(-1), wrap64 (a1 + 1), 1099511627776, (-4611686018427387904)] : List Int))).bind fun bt517 => (some (bt517.1, bt517.2.1, bt517.2.2))) else ((spec_l01Next.f s0_0 bt511.2.1 bt511.2.2 (wrap64 (a1 + 1))).bind fun bt520 => (some (bt520.1, bt520.2.1, bt520.2.2))))
set_option maxHeartbeats 8000000 in
set_option maxRecDepth 100000 in
theorem spec_l01Near.calls (g : Nat) (s0_0 : List Int) (s0_1 : Int) (s0_2 : Int) (a1 : Int) (r1 : Int) (r2 : Int) (r3 : Int) (w0 w : World) (hI : IsS112 w0 w g s0_0 s0_1 s0_2) (hB : Below w0.heap.size w0 w) (h : spec_l01Near.f s0_0 s0_1 s0_2 a1 = some (r1, r2, r3)) :
 Calls Try.prog 78 #[.pointer (some ⟨g, 0, none⟩), .int .i64 a1] w fun e w' => e = .returned (.int .i64 r1) ∧ IsS112 w0 w' g s0_0 r2 r3 ∧ Below w0.heap.size w0 w' ∧ KeepBut w w' g none := by
 have HI0 := Aside0.mk hI
 have HK := Aside0.mk (KeepBut.refl w g none)
 have HL := Aside0.mk hB.size
 clear hI
 have HW0 := Aside0.mk hB.size
 have HB := Aside0.mk hB
 clear hB
 have H : ((spec_l01Next.f s0_0 s0_1 s0_2 14).bind fun bt511 => (if bt511.1 = 0 then ((spec_l01Pick.f s0_0 bt511.2.1 bt511.2.2 (([(-1), wrap64 (a1 + 1), 1099511627776, (-4611686018427387904)] : List Int))).bind fun bt517 => (some (bt517.1, bt517.2.1, bt517.2.2))) else ((spec_l01Next.f s0_0 bt511.2.1 bt511.2.2 (wrap64 (a1 + 1))).bind fun bt520 => (some (bt520.1, bt520.2.1, bt520.2.2))))) = some (r1, r2, r3) := h
 clear h
 replace H := Option.bind_eq_some_iff.mp H
 obtain ⟨⟨t511, t512, t513⟩, A30, H⟩ := H
 replace H : (if t511 = 0 then ((spec_l01Pick.f s0_0 t512 t513 (([(-1), wrap64 (a1 + 1), 1099511627776, (-4611686018427387904)] : List Int))).bind fun bt517 => (some (bt517.1, bt517.2.1, bt517.2.2))) else ((spec_l01Next.f s0_0 t512 t513 (wrap64 (a1 + 1))).bind fun bt520 => (some (bt520.1, bt520.2.1, bt520.2.2)))) = some (r1, r2, r3) := H
 have A3 := Aside0.mk A30
 clear A30
 by_cases c4 : t511 = 0
 rotate_left
 · rw [if_neg c4] at H
   have c4b0 : (t511 == 0) = false := beq_eq_false_iff_ne.mpr c4
   have c4b1 : (t511 != 0) = true := bne_iff_ne.mpr c4
   replace H := Option.bind_eq_some_iff.mp H
   obtain ⟨⟨t520, t521, t522⟩, A110, H⟩ := H
   replace H : (some (t520, t521, t522)) = some (r1, r2, r3) := H
   have A11 := Aside0.mk A110
   clear A110
   simp only [Option.some.injEq, Prod.mk.injEq] at H
   obtain ⟨rfl, rfl, rfl⟩ := H
   go_enter Try.func78, Try.ntmps78
   go_wp2_with (first | ((with_reducible refine gate_callee (f := 110) rfl ?_); refine goesL_ (some 6) rfl rfl Try.func110 (by kernel_rfl) rfl #[.pointer (some ⟨g, 0, none⟩), .int .i64 14] rfl (by (try simp only [List.map_toArray, List.map_cons, List.map_nil]); rfl) ?_; (with_reducible refine (spec_l01Next.calls g s0_0 s0_1 s0_2 14 t511 t512 t513 w0 _ ?side1 ?side2 A3.out).mono ?_); (case side1 => exact HI0.out); (case side2 => exact HB.out); rintro e w12 ⟨rfl, hi, hb, hk⟩; refine ⟨_, rfl, ?_⟩; have n0_ := Aside0.mk (KeepBut.trans HK.out hk (.inl rfl)); have n1_ := Aside0.mk (hb); have n2_ := Aside0.mk (hi); clear HK; clear HB; clear HI0; have HK := n0_; have HB := n1_; have HI0 := n2_; clear n0_ n1_ n2_; (try clear hb); (try clear hb2); (try clear hk); (try clear hi)) | ((with_reducible refine gate_callee (f := 110) rfl ?_); refine goesL_ (some 16) rfl rfl Try.func110 (by kernel_rfl) rfl #[.pointer (some ⟨g, 0, none⟩), .int .i64 (wrap64 (a1 + 1))] rfl (by (try simp only [List.map_toArray, List.map_cons, List.map_nil]); rfl) ?_; (with_reducible refine (spec_l01Next.calls g s0_0 t512 t513 (wrap64 (a1 + 1)) t520 t521 t522 w0 _ ?side1 ?side2 A11.out).mono ?_); (case side1 => exact HI0.out); (case side2 => exact HB.out); rintro e w13 ⟨rfl, hi, hb, hk⟩; refine ⟨_, rfl, ?_⟩; have n0_ := Aside0.mk (KeepBut.trans HK.out hk (.inl rfl)); have n1_ := Aside0.mk (hb); have n2_ := Aside0.mk (hi); clear HK; clear HB; clear HI0; have HK := n0_; have HB := n1_; have HI0 := n2_; clear n0_ n1_ n2_; (try clear hb); (try clear hb2); (try clear hk); (try clear hi)))
   go_ret
   exact ⟨by rfl, by exact HI0.out, by exact HB.out, by exact HK.out⟩
 rw [if_pos c4] at H
 have c4b0 : (t511 == 0) = true := beq_iff_eq.mpr c4
 have c4b1 : (t511 != 0) = false := bne_eq_false_iff_eq.mpr c4
 clear c4
 obtain ⟨y514, hy514⟩ : ∃ y_ : List Int, y_ = (([(-1), wrap64 (a1 + 1), 1099511627776, (-4611686018427387904)] : List Int)) := ⟨_, rfl⟩
 replace H : ((spec_l01Pick.f s0_0 t512 t513 y514).bind fun bt517 => (some (bt517.1, bt517.2.1, bt517.2.2))) = some (r1, r2, r3) := by (rw [hy514]; with_reducible exact H)
 have Ny514 := Aside0.mk hy514
 clear hy514
 replace H := Option.bind_eq_some_iff.mp H
 obtain ⟨⟨t517, t518, t519⟩, A50, H⟩ := H
 replace H : (some (t517, t518, t519)) = some (r1, r2, r3) := H
 have A5 := Aside0.mk A50
 clear A50
 simp only [Option.some.injEq, Prod.mk.injEq] at H
 obtain ⟨rfl, rfl, rfl⟩ := H
 go_enter Try.func78, Try.ntmps78
 go_wp2_with (first | ((with_reducible refine gate_callee (f := 110) rfl ?_); refine goesL_ (some 6) rfl rfl Try.func110 (by kernel_rfl) rfl #[.pointer (some ⟨g, 0, none⟩), .int .i64 14] rfl (by (try simp only [List.map_toArray, List.map_cons, List.map_nil]); rfl) ?_; (with_reducible refine (spec_l01Next.calls g s0_0 s0_1 s0_2 14 t511 t512 t513 w0 _ ?side1 ?side2 A3.out).mono ?_); (case side1 => exact HI0.out); (case side2 => exact HB.out); rintro e w6 ⟨rfl, hi, hb, hk⟩; refine ⟨_, rfl, ?_⟩; have n0_ := Aside0.mk (KeepBut.trans HK.out hk (.inl rfl)); have n1_ := Aside0.mk (hb); have n2_ := Aside0.mk (hi); clear HK; clear HB; clear HI0; have HK := n0_; have HB := n1_; have HI0 := n2_; clear n0_ n1_ n2_; (try clear hb); (try clear hb2); (try clear hk); (try clear hi)) | ((with_reducible refine gate_dst (N := 11) rfl ?_); refine Kd.R_lit (Kd.int .i64) _ 2 ?hg (N := 11) ?hd (xs := ([(-1), wrap64 (a1 + 1), 1099511627776, (-4611686018427387904)] : List Int)) (inner := [.int .i64 (-1), .int .i64 (wrap64 (a1 + 1)), .int .i64 1099511627776, .int .i64 (-4611686018427387904)]) (ok := fun _ => True) (okp := fun _ => True) ?hr ?hp (fun _ hk => hk) trivial (Below.refl _ _) (Nat.le_refl _) (by simp) ?_; (case hd => rfl); (case hg => rfl); (case hr => (go_simp; done)); (case hp => exact (Reps.one (show Kd.M (Kd.int .i64) _ _ _ (-1) [.int .i64 (-1)] from rfl) (Reps.one (show Kd.M (Kd.int .i64) _ _ _ (wrap64 (a1 + 1)) [.int .i64 (wrap64 (a1 + 1))] from rfl) (Reps.one (show Kd.M (Kd.int .i64) _ _ _ 1099511627776 [.int .i64 1099511627776] from rfl) (Reps.one (show Kd.M (Kd.int .i64) _ _ _ (-4611686018427387904) [.int .i64 (-4611686018427387904)] from rfl) (Reps.none _ _)))))); intro v515 w7 ho8 hb hg_ hnew_; clear hg_ hnew_; (rw [← Ny514.out] at ho8); have n0_ := Aside0.mk (Kd.R_lower ho8 (keep_size (w := w) (g := g) (row := none) HK.out)); have n1_ := Aside0.mk (IsS112.below HI0.out hb); have n2_ := Aside0.mk (KeepBut.trans HK.out (KeepBut.of_below hb g none) (.inl rfl)); have n3_ := Aside0.mk (below_step HB.out hb); clear HI0; clear HK; clear HB; have HO516 := n0_; have HI0 := n1_; have HK := n2_; have HB := n3_; clear n0_ n1_ n2_ n3_; clear hb ho8; obtain ⟨Ao9, co9, eo9⟩ := Kd.R_slice HO516.out; subst eo9) | ((with_reducible refine gate_callee (f := 79) rfl ?_); refine goesL_ (some 12) rfl rfl Try.func79 (by kernel_rfl) rfl #[.pointer (some ⟨g, 0, none⟩), .slice Ao9 y514.length co9] rfl (by (try simp only [List.map_toArray, List.map_cons, List.map_nil]); rfl) ?_; (with_reducible refine (spec_l01Pick.calls g s0_0 t512 t513 _ _ y514 t517 t518 t519 w0 _ ?side1 ?side2 ?side3 ?side4 ?side5 A5.out).mono ?_); (case side1 => exact HI0.out); (case side2 => exact HB.out); (case side3 => exact (Kd.R_reads' HO516.out).2.2); (case side4 => exact (Kd.R_reads' HO516.out).2.1); (case side5 => exact far_slice (IsS112.own_ne HI0.out HO516.out (by decide))); rintro e w10 ⟨rfl, hi, hb, hk⟩; refine ⟨_, rfl, ?_⟩; have n0_ := Aside0.mk (Kd.R_mono (Kd.R_keep (IsS112.apart (show IsS112 w0 _ g s0_0 t512 t513 from by exact HI0.out) HO516.out (by decide)) hk (fun _ h => h.2)) (fun _ h => h.1)); have n1_ := Aside0.mk (KeepBut.trans HK.out hk (.inl rfl)); have n2_ := Aside0.mk (hb); have n3_ := Aside0.mk (hi); clear HO516; clear HK; clear HB; clear HI0; have HO516 := n0_; have HK := n1_; have HB := n2_; have HI0 := n3_; clear n0_ n1_ n2_ n3_; (try clear hb); (try clear hb2); (try clear hk); (try clear hi)))
 go_ret
 exact ⟨by rfl, by exact HI0.out, by exact HB.out, by exact HK.out⟩
end Go.Proofs.Ytoakdilhljnjfaa.Q
namespace Go.Proofs.Ytoakdilhljnjfaa.Pure
open Go.RowKit Go.Proofs.Ytoakdilhljnjfaa.Q Go.Proofs.YtoakdilhljnjfaaW.PrintWords Go.Proofs.YtoakdilhljnjfaaW.PrintLast Go.Proofs.YtoakdilhljnjfaaW.PrintMore
set_option linter.unusedVariables false
set_option linter.unusedSimpArgs false
structure CodeOk (code : List Int) : Prop where
  len : code.length ≤ 1000000
  byte : ∀ x ∈ code, 0 ≤ x ∧ x ≤ 255
def AtOk (code : List Int) (p : Int) : Prop := 0 ≤ p ∧ p ≤ 1000000
theorem and24 (x : Int) : 0 ≤ Go.bits .and .u64 x 16777215 ∧ Go.bits .and .u64 x 16777215 ≤ 16777215 := by
  have hb : Go.bits .and .u64 x 16777215 = Go.bits .and .u64 (((BitVec.ofInt 64 x).toNat : Nat) : Int) ((16777215 : Nat) : Int) := by
    unfold Go.bits
    show IntKind.u64.wrap (BitVec.ofInt 64 x &&& BitVec.ofInt 64 16777215).toNat = IntKind.u64.wrap (BitVec.ofInt 64 (((BitVec.ofInt 64 x).toNat : Nat) : Int) &&& BitVec.ofInt 64 ((16777215 : Nat) : Int)).toNat
    rw [BitVec.ofInt_natCast, BitVec.ofNat_toNat]
    simp
  rw [hb, Go.bits_and_u64_nat _ _ (BitVec.ofInt 64 x).isLt (by omega)]
  have h : (BitVec.ofInt 64 x).toNat &&& 16777215 ≤ 16777215 := Nat.and_le_right
  omega
theorem draw_mod {s n : Int} (hs : 0 ≤ s) (hs' : s ≤ 100000000) (hn : 1 ≤ n) : 0 ≤ Int.tmod (wrap64 s) n ∧ Int.tmod (wrap64 s) n < n := by
  rw [wrap64_id (by omega) (by omega), Int.tmod_eq_emod_of_nonneg hs]
  exact ⟨Int.emod_nonneg _ (by omega), Int.emod_lt_of_pos _ (by omega)⟩
theorem next_some {code : List Int} (hc : CodeOk code) {p : Int} (hp : AtOk code p) (h n : Int) : ∃ r p' h', spec_l01Next.f code p h n = some (r, p', h') ∧ 0 ≤ r ∧ (1 ≤ n → r < n) ∧ (n < 1 → r = 0) ∧ AtOk code p' := by
  unfold spec_l01Next.f
  have hl := hc.len
  by_cases h1 : n < 1
  · rw [if_pos h1]
    exact ⟨0, p, h, rfl, by omega, fun h2 => by omega, fun _ => rfl, hp⟩
  · rw [if_neg h1]
    obtain ⟨b0, b1⟩ := and24 (IntKind.u64.wrap ((IntKind.u64.wrap (h * 6364136223846793005)) + 1442695040888963407) / 8589934592)
    generalize Go.bits .and .u64 (IntKind.u64.wrap ((IntKind.u64.wrap (h * 6364136223846793005)) + 1442695040888963407) / 8589934592) 16777215 = v at *
    by_cases h2 : p < (code.length : Int)
    · rw [if_pos h2, if_pos hp.1, if_neg (by omega)]
      obtain ⟨q, rfl⟩ := Int.eq_ofNat_of_zero_le hp.1
      have hb := hc.byte _ (rd_memP code q (by omega))
      rw [wrap64_id (x := v) (by omega) (by omega), wrap64_id (x := rd code q) (by omega) (by omega), wrap64_id (x := (q : Int) + 1) (by omega) (by omega)]
      obtain ⟨m0, m1⟩ := draw_mod (s := v + rd code q) (n := n) (by omega) (by omega) (by omega)
      exact ⟨_, _, _, rfl, m0, fun _ => m1, fun h3 => absurd h3 h1, by omega, by omega⟩
    · rw [if_neg h2, if_neg (by omega)]
      obtain ⟨m0, m1⟩ := draw_mod (s := v) (n := n) (by omega) (by omega) (by omega)
      exact ⟨_, _, _, rfl, m0, fun _ => m1, fun h3 => absurd h3 h1, hp⟩
theorem pick_some {code : List Int} (hc : CodeOk code) {p : Int} (hp : AtOk code p) (h : Int) (l : List Int) (hl : 0 < l.length) : ∃ r p' h', spec_l01Pick.f code p h l = some (r, p', h') ∧ r ∈ l ∧ AtOk code p' := by
  unfold spec_l01Pick.f
  obtain ⟨r, p', h', e, r0, r1, _, hp'⟩ := next_some hc hp h (l.length : Int)
  have r2 := r1 (by omega)
  rw [e]
  simp only [Option.bind_some]
  rw [if_pos r0, if_pos r2]
  obtain ⟨q, rfl⟩ := Int.eq_ofNat_of_zero_le r0
  exact ⟨_, _, _, rfl, rd_memP l q (by omega), hp'⟩
theorem near_some {code : List Int} (hc : CodeOk code) {p : Int} (hp : AtOk code p) (h m : Int) : ∃ r p' h', spec_l01Near.f code p h m = some (r, p', h') ∧ AtOk code p' := by
  unfold spec_l01Near.f
  obtain ⟨r, p', h', e, _, _, _, hp'⟩ := next_some hc hp h 14
  rw [e]
  simp only [Option.bind_some]
  by_cases hr : r = 0
  · rw [if_pos hr]
    obtain ⟨r2, p2, h2, e2, _, hp2⟩ := pick_some hc hp' h' ([(-1), wrap64 (m + 1), 1099511627776, (-4611686018427387904)] : List Int) (by simp)
    rw [e2]; exact ⟨_, _, _, rfl, hp2⟩
  · rw [if_neg hr]
    obtain ⟨r2, p2, h2, e2, _, _, _, hp2⟩ := next_some hc hp' h' (wrap64 (m + 1))
    rw [e2]; exact ⟨_, _, _, rfl, hp2⟩
theorem from_l {code : List Int} (hc : CodeOk code) (d : Nat) : ∀ (i : Nat) (h : Int), i + d = code.length → ∃ h', Ev (fun k => spec_l01From.l0 k code (i : Int) code 0 h) (code, 0, h') := by
  have hl := hc.len
  induction d with
  | zero =>
    intro i h hi
    exact ⟨h, Ev.step (fun k => by rw [spec_l01From.l0]) (Ev.neg (by omega) (Ev.now _))⟩
  | succ d ih =>
    intro i h hi
    by_cases h4 : (i : Int) < 4096
    · obtain ⟨h', e⟩ := ih (i + 1) (IntKind.u64.wrap ((IntKind.u64.wrap ((IntKind.u64.wrap (h * 1099511628211)) + (IntKind.u64.wrap (rd code i)))) + 241)) (by omega)
      refine ⟨h', Ev.step (fun k => by rw [spec_l01From.l0]) ?_⟩
      refine Ev.pos (by omega) (Ev.pos h4 (Ev.pos (by omega) ?_))
      rw [wrap64_id (x := (i : Int) + 1) (by omega) (by omega)]
      exact e
    · exact ⟨h, Ev.step (fun k => by rw [spec_l01From.l0]) (Ev.pos (by omega) (Ev.neg h4 (Ev.now _)))⟩
theorem from_ev {code : List Int} (hc : CodeOk code) : ∃ h, Ev (fun k => spec_l01From.f k code) (code, 0, h) := by
  unfold spec_l01From.f
  exact from_l hc code.length 0 _ (Nat.zero_add _)
theorem at0 (code : List Int) : AtOk code 0 := ⟨by omega, by omega⟩
end Go.Proofs.Ytoakdilhljnjfaa.Pure
namespace Go.Proofs.Ytoakdilhljnjfaa.Q
open Go.RowKit Go.Proofs.YtoakdilhljnjfaaW.PrintWords Go.Proofs.YtoakdilhljnjfaaW.PrintLast Go.Proofs.YtoakdilhljnjfaaW.PrintMore
attribute [local go_sem] max2_int min2_int max_two min_two max_three min_three max_four min_four   -- for this text's walks alone
set_option linter.unusedVariables false
set_option linter.unusedSimpArgs false
def spec_l01Own.f (l0 : List Int) : Option (List Int) := (some (([] : List Int) : List Int)).bind fun y110 => (if y110.length + l0.length < 17592186044416 then (some (y110 ++ l0)) else (none))
set_option maxHeartbeats 8000000 in
set_option maxRecDepth 100000 in
theorem spec_l01Own.calls (A0 : Option Addr) (c0 : Nat) (l0 : List Int) (r : List Int) (w : World) (hr0 : Kd.C (Kd.int .i64) w A0 l0.length l0) (hc0 : l0.length ≤ c0) (h : spec_l01Own.f l0 = some r) :
 Calls Try.prog 84 #[.slice A0 l0.length c0] w fun e w' => ∃ v0_ : Value, e = .returned (v0_) ∧ Kd.R (Kd.int .i64) 2 w' w.heap.size (fun _ => True) v0_ r ∧ Below w.heap.size w w' := by
 have HR0 := Aside0.mk hr0
 have HC0 := Aside0.mk hc0
 clear hr0 hc0
 have HB := Aside0.mk (Below.refl w.heap.size w)
 have H : ((some (([] : List Int) : List Int)).bind fun y110 => (if y110.length + l0.length < 17592186044416 then (some (y110 ++ l0)) else (none))) = some r := h
 clear h
 obtain ⟨y110, hy110⟩ : ∃ y_ : List Int, y_ = (([] : List Int)) := ⟨_, rfl⟩
 replace H : (if y110.length + l0.length < 17592186044416 then (some (y110 ++ l0)) else (none)) = some r := by (have H2_ := (Option.bind_some _ _).symm.trans H; rw [hy110]; with_reducible exact H2_)
 have Ny110 := Aside0.mk hy110
 clear hy110
 by_cases c2 : y110.length + l0.length < 17592186044416
 rotate_left
 · rw [if_neg c2] at H
   exact absurd H (by simp)
 rw [if_pos c2] at H
 have LMc2 := Aside0.mk c2
 clear c2
 obtain ⟨y113, hy113⟩ : ∃ y_ : List Int, y_ = (y110 ++ l0) := ⟨_, rfl⟩
 replace H : (some y113) = some r := by (rw [hy113]; with_reducible exact H)
 have Ny113 := Aside0.mk hy113
 clear hy113
 obtain rfl := Option.some.inj H
 go_enter Try.func84, Try.ntmps84
 go_wp2_with (first | ((with_reducible refine gate_dst (N := 3) rfl ?_); refine Kd.R_lit (Kd.int .i64) _ 2 ?hg (N := 3) ?hd (xs := ([] : List Int)) (inner := []) (ok := fun _ => True) (okp := fun _ => True) ?hr ?hp (fun _ hk => hk) trivial (Below.refl _ _) (Nat.le_refl _) (by simp) ?_; (case hd => rfl); (case hg => rfl); (case hr => (go_simp; done)); (case hp => exact (Reps.none _ _)); intro v111 w3 ho4 hb hg_ hnew_; clear hg_ hnew_; (rw [← Ny110.out] at ho4); have n0_ := Aside0.mk (Kd.R_lower ho4 (below_size HB.out)); have n1_ := Aside0.mk (below_step HB.out hb); clear HB; have HO112 := n0_; have HB := n1_; clear n0_ n1_; clear hb ho4) | ((with_reducible refine gate_builtin (b := .append) (xs := #[.tmp 3, .tmp 4]) rfl ?_); at_builtin; refine Kd.R_append_rows (Kd.int .i64) (w0 := w) w.heap.size rfl (.tmp 3) (.tmp 4) 22 2 (.int .i64 0) 8 rfl Try.underlying22 info2 rfl (by decide) (by omega) v111 y110 l0 _ _ _ (fun _ => True) (fun _ => False) rfl rfl ?aO ?aR (fun _ _ h => h) (fun _ h => h.elim) ?aF ?aB ?aS ?aL ?_; (case aR => exact (Kd.C_below HR0.out HB.out)); (case aB => exact HB.out); (case aF => exact (fun _ _ => trivial)); (case aO => exact HO112.out); (case aS => exact (below_size HB.out)); (case aL => have := LMc2.out; omega); intro v114 w5 ho hb hg hat; rw [← Ny113.out] at ho; have n0_ := Aside0.mk (hb); have n1_ := Aside0.mk (ho); clear HB; clear HO112; have HB := n0_; have HO115 := n1_; clear n0_ n1_; clear ho hb hg hat))
 go_ret
 exact ⟨_, by rfl, by exact HO115.out, by exact HB.out⟩
end Go.Proofs.Ytoakdilhljnjfaa.Q
namespace Go.Proofs.Ytoakdilhljnjfaa.Q
open Go.RowKit Go.Proofs.YtoakdilhljnjfaaW.PrintWords Go.Proofs.YtoakdilhljnjfaaW.PrintLast Go.Proofs.YtoakdilhljnjfaaW.PrintMore
attribute [local go_sem] max2_int min2_int max_two min_two max_three min_three max_four min_four   -- for this text's walks alone
set_option linter.unusedVariables false
set_option linter.unusedSimpArgs false
def spec_l04Bad.f (s0_0 : List Int) (s0_1 : Int) (s0_2 : Int) (l1_0 : List Int) (l1_1 : List Int) (l1_2 : List Int) : Option (List Int × List Int × List Int × Int × Int) := (spec_l01Next.f s0_0 s0_1 s0_2 40).bind fun bt192 => (if bt192.1 = 0 then ((spec_l01Own.f l1_0).bind fun t195 => (if t195.length < 17592186044416 then (some ((t195 ++ [1]), l1_1, l1_2, bt192.2.1, bt192.2.2)) else (none))) else (if bt192.1 = 1 then ((spec_l01Own.f l1_1).bind fun t201 => ((spec_l01Pick.f s0_0 bt192.2.1 bt192.2.2 (([0, 61, (-1)] : List Int))).bind fun bt207 => (if 0 < (t201.length : Int) then (some (l1_0, (t201.set (0 : Int).toNat bt207.1), l1_2, bt207.2.1, bt207.2.2)) else (none)))) else (if bt192.1 = 2 then ((spec_l01Own.f l1_2).bind fun t211 => ((spec_l01Pick.f s0_0 bt192.2.1 bt192.2.2 (([0, 61] : List Int))).bind fun bt217 => (if 0 < (t211.length : Int) then (some (l1_0, l1_1, (t211.set (0 : Int).toNat bt217.1), bt217.2.1, bt217.2.2)) else (none)))) else (some (l1_0, l1_1, l1_2, bt192.2.1, bt192.2.2)))))
end Go.Proofs.Ytoakdilhljnjfaa.Q
