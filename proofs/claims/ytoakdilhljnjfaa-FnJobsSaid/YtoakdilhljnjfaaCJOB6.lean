/- Jobs can be met exactly if no demand is too great, and none is late then. (Part 6 of 7.) No conditions beside those of the statement. -/
import Derived.Test.YtoakdilhljnjfaaCJOB5
namespace Go.Proofs.Ytoakdilhljnjfaa.Q
open Go.RowKit Go.Proofs.YtoakdilhljnjfaaW.PrintWords Go.Proofs.YtoakdilhljnjfaaW.PrintLast Go.Proofs.YtoakdilhljnjfaaW.PrintMore
attribute [local go_sem] max2_int min2_int max_two min_two max_three min_three max_four min_four   -- for this text's walks alone
set_option linter.unusedVariables false
set_option linter.unusedSimpArgs false
set_option maxHeartbeats 8000000 in
set_option maxRecDepth 100000 in
theorem spec_l04Bad.calls (g : Nat) (s0_0 : List Int) (s0_1 : Int) (s0_2 : Int) (P1_0_ : Nat → Prop) (u9000_ : Value) (l1_0 : List Int) (P1_1_ : Nat → Prop) (u9001_ : Value) (l1_1 : List Int) (P1_2_ : Nat → Prop) (u9002_ : Value) (l1_2 : List Int) (r1 : List Int) (r2 : List Int) (r3 : List Int) (r4 : Int) (r5 : Int) (w0 w : World) (hI : IsS112 w0 w g s0_0 s0_1 s0_2) (hB : Below w0.heap.size w0 w) (ho1_0 : Kd.R (Kd.int .i64) 2 w w0.heap.size P1_0_ u9000_ l1_0) (hp1_0_1_1 : ∀ k_, P1_0_ k_ → ¬ P1_1_ k_) (hp1_0_1_2 : ∀ k_, P1_0_ k_ → ¬ P1_2_ k_) (ho1_1 : Kd.R (Kd.int .i64) 2 w w0.heap.size P1_1_ u9001_ l1_1) (hp1_1_1_0 : ∀ k_, P1_1_ k_ → ¬ P1_0_ k_) (hp1_1_1_2 : ∀ k_, P1_1_ k_ → ¬ P1_2_ k_) (ho1_2 : Kd.R (Kd.int .i64) 2 w w0.heap.size P1_2_ u9002_ l1_2) (hp1_2_1_0 : ∀ k_, P1_2_ k_ → ¬ P1_0_ k_) (hp1_2_1_1 : ∀ k_, P1_2_ k_ → ¬ P1_1_ k_) (h : spec_l04Bad.f s0_0 s0_1 s0_2 l1_0 l1_1 l1_2 = some (r1, r2, r3, r4, r5)) :
 Calls Try.prog 104 #[.pointer (some ⟨g, 0, none⟩), .agg #[u9000_, u9001_, u9002_]] w fun e w' => ∃ v0_ v1_ v2_ : Value, e = .returned (.agg #[v0_, v1_, v2_]) ∧ Kd.R (Kd.int .i64) 2 w' w0.heap.size (fun k_ => ((P1_0_ k_ ∨ P1_1_ k_ ∨ P1_2_ k_) ∨ w.heap.size ≤ k_) ∧ some k_ ≠ (v1_ : Value).ownBlock ∧ some k_ ≠ (v2_ : Value).ownBlock) v0_ r1 ∧ Kd.R (Kd.int .i64) 2 w' w0.heap.size (fun k_ => ((P1_0_ k_ ∨ P1_1_ k_ ∨ P1_2_ k_) ∨ w.heap.size ≤ k_) ∧ some k_ ≠ (v0_ : Value).ownBlock ∧ some k_ ≠ (v2_ : Value).ownBlock) v1_ r2 ∧ Kd.R (Kd.int .i64) 2 w' w0.heap.size (fun k_ => ((P1_0_ k_ ∨ P1_1_ k_ ∨ P1_2_ k_) ∨ w.heap.size ≤ k_) ∧ some k_ ≠ (v0_ : Value).ownBlock ∧ some k_ ≠ (v1_ : Value).ownBlock) v2_ r3 ∧ IsS112 w0 w' g s0_0 r4 r5 ∧ Below w0.heap.size w0 w' ∧ Kept w w' (fun k_ => (P1_0_ k_ ∨ P1_1_ k_ ∨ P1_2_ k_) ∨ k_ = g) := by
 have hu33 := Try.underlying33
 have HO1_0 := Aside0.mk (show Kd.R (Kd.int .i64) 2 w w0.heap.size (fun k_ => ((P1_0_ k_ ∨ P1_1_ k_ ∨ P1_2_ k_) ∨ w.heap.size ≤ k_) ∧ some k_ ≠ (u9001_ : Value).ownBlock ∧ some k_ ≠ (u9002_ : Value).ownBlock) u9000_ l1_0 from Kd.R_mono ho1_0 (fun k_ hk => ⟨(.inl (.inl hk)), fun e_ => hp1_0_1_1 k_ hk (ho1_1.1 k_ e_.symm), fun e_ => hp1_0_1_2 k_ hk (ho1_2.1 k_ e_.symm)⟩))
 have HO1_1 := Aside0.mk (show Kd.R (Kd.int .i64) 2 w w0.heap.size (fun k_ => ((P1_0_ k_ ∨ P1_1_ k_ ∨ P1_2_ k_) ∨ w.heap.size ≤ k_) ∧ some k_ ≠ (u9000_ : Value).ownBlock ∧ some k_ ≠ (u9002_ : Value).ownBlock) u9001_ l1_1 from Kd.R_mono ho1_1 (fun k_ hk => ⟨(.inl (.inr (.inl hk))), fun e_ => hp1_1_1_0 k_ hk (ho1_0.1 k_ e_.symm), fun e_ => hp1_1_1_2 k_ hk (ho1_2.1 k_ e_.symm)⟩))
 have HO1_2 := Aside0.mk (show Kd.R (Kd.int .i64) 2 w w0.heap.size (fun k_ => ((P1_0_ k_ ∨ P1_1_ k_ ∨ P1_2_ k_) ∨ w.heap.size ≤ k_) ∧ some k_ ≠ (u9000_ : Value).ownBlock ∧ some k_ ≠ (u9001_ : Value).ownBlock) u9002_ l1_2 from Kd.R_mono ho1_2 (fun k_ hk => ⟨(.inl (.inr (.inr hk))), fun e_ => hp1_2_1_0 k_ hk (ho1_0.1 k_ e_.symm), fun e_ => hp1_2_1_1 k_ hk (ho1_1.1 k_ e_.symm)⟩))
 have HI0 := Aside0.mk hI
 have HL := Aside0.mk hB.size
 clear hI
 have HK := Aside0.mk (Kept.refl w (fun k_ => (P1_0_ k_ ∨ P1_1_ k_ ∨ P1_2_ k_) ∨ k_ = g))
 have HW0 := Aside0.mk hB.size
 have HB := Aside0.mk hB
 clear hB
 have H : ((spec_l01Next.f s0_0 s0_1 s0_2 40).bind fun bt192 => (if bt192.1 = 0 then ((spec_l01Own.f l1_0).bind fun t195 => (if t195.length < 17592186044416 then (some ((t195 ++ [1]), l1_1, l1_2, bt192.2.1, bt192.2.2)) else (none))) else (if bt192.1 = 1 then ((spec_l01Own.f l1_1).bind fun t201 => ((spec_l01Pick.f s0_0 bt192.2.1 bt192.2.2 (([0, 61, (-1)] : List Int))).bind fun bt207 => (if 0 < (t201.length : Int) then (some (l1_0, (t201.set (0 : Int).toNat bt207.1), l1_2, bt207.2.1, bt207.2.2)) else (none)))) else (if bt192.1 = 2 then ((spec_l01Own.f l1_2).bind fun t211 => ((spec_l01Pick.f s0_0 bt192.2.1 bt192.2.2 (([0, 61] : List Int))).bind fun bt217 => (if 0 < (t211.length : Int) then (some (l1_0, l1_1, (t211.set (0 : Int).toNat bt217.1), bt217.2.1, bt217.2.2)) else (none)))) else (some (l1_0, l1_1, l1_2, bt192.2.1, bt192.2.2)))))) = some (r1, r2, r3, r4, r5) := h
 clear h
 replace H := Option.bind_eq_some_iff.mp H
 obtain ⟨⟨t192, t193, t194⟩, A30, H⟩ := H
 replace H : (if t192 = 0 then ((spec_l01Own.f l1_0).bind fun t195 => (if t195.length < 17592186044416 then (some ((t195 ++ [1]), l1_1, l1_2, t193, t194)) else (none))) else (if t192 = 1 then ((spec_l01Own.f l1_1).bind fun t201 => ((spec_l01Pick.f s0_0 t193 t194 (([0, 61, (-1)] : List Int))).bind fun bt207 => (if 0 < (t201.length : Int) then (some (l1_0, (t201.set (0 : Int).toNat bt207.1), l1_2, bt207.2.1, bt207.2.2)) else (none)))) else (if t192 = 2 then ((spec_l01Own.f l1_2).bind fun t211 => ((spec_l01Pick.f s0_0 t193 t194 (([0, 61] : List Int))).bind fun bt217 => (if 0 < (t211.length : Int) then (some (l1_0, l1_1, (t211.set (0 : Int).toNat bt217.1), bt217.2.1, bt217.2.2)) else (none)))) else (some (l1_0, l1_1, l1_2, t193, t194))))) = some (r1, r2, r3, r4, r5) := H
 have A3 := Aside0.mk A30
 clear A30
 by_cases c4 : t192 = 0
 · rw [if_pos c4] at H
   have c4b0 : (t192 == 0) = true := beq_iff_eq.mpr c4
   have c4b1 : (t192 != 0) = false := bne_eq_false_iff_eq.mpr c4
   clear c4
   replace H := Option.bind_eq_some_iff.mp H
   obtain ⟨t195, A50, H⟩ := H
   replace H : (if t195.length < 17592186044416 then (some ((t195 ++ [1]), l1_1, l1_2, t193, t194)) else (none)) = some (r1, r2, r3, r4, r5) := H
   have A5 := Aside0.mk A50
   clear A50
   by_cases c6 : t195.length < 17592186044416
   rotate_left
   · rw [if_neg c6] at H
     exact absurd H (by simp)
   rw [if_pos c6] at H
   have LMc6 := Aside0.mk c6
   clear c6
   obtain ⟨y198, hy198⟩ : ∃ y_ : List Int, y_ = (t195 ++ [1]) := ⟨_, rfl⟩
   replace H : (some (y198, l1_1, l1_2, t193, t194)) = some (r1, r2, r3, r4, r5) := by (rw [hy198]; with_reducible exact H)
   have Ny198 := Aside0.mk hy198
   clear hy198
   simp only [Option.some.injEq, Prod.mk.injEq] at H
   obtain ⟨rfl, rfl, rfl, rfl, rfl⟩ := H
   obtain ⟨Ao7, co7, eo7⟩ := Kd.R_slice HO1_0.out
   subst eo7
   obtain ⟨Ao8, co8, eo8⟩ := Kd.R_slice HO1_1.out
   subst eo8
   obtain ⟨Ao9, co9, eo9⟩ := Kd.R_slice HO1_2.out
   subst eo9
   go_enter Try.func104, Try.ntmps104
   go_wp2_with (first | ((with_reducible refine gate_dst (N := 3) rfl ?_); refine box_event ?hg (N := 3) ?hd (cs := #[.slice Ao7 l1_0.length co7, .slice Ao8 l1_1.length co8, .slice Ao9 l1_2.length co9]) (t := 33) ?hr ?_; (case hd => rfl); (case hg => rfl); (case hr => (go_simp; done)); intro gb190 hg w10 hbox hb; have n0_ := Aside0.mk (Kd.R_below HO1_0.out hb); have n1_ := Aside0.mk (Kd.R_below HO1_1.out hb); have n2_ := Aside0.mk (Kd.R_below HO1_2.out hb); have n3_ := Aside0.mk (IsS112.below HI0.out hb); have n4_ := Aside0.mk (Kept.below (S := (fun k_ => (P1_0_ k_ ∨ P1_1_ k_ ∨ P1_2_ k_) ∨ k_ = g)) HK.out hb); have n5_ := Aside0.mk (below_step HB.out hb); have n6_ := Aside0.mk (hbox); have n7_ := Aside0.mk ((by rw [hg]; exact HK.out.1 : w.heap.size ≤ gb190)); have n8_ := Aside0.mk ((by rw [hg]; exact (below_size HB.out) : w0.heap.size ≤ gb190)); have n9_ := Aside0.mk ((by rw [hg]; exact Nat.ne_of_lt (IsS112.lt (show IsS112 w0 _ g s0_0 s0_1 s0_2 from by exact HI0.out)) : g ≠ gb190)); have n10_ := Aside0.mk ((by rw [hg]; exact Nat.ne_of_gt (IsS112.lt (show IsS112 w0 _ g s0_0 s0_1 s0_2 from by exact HI0.out)) : gb190 ≠ g)); clear HO1_0; clear HO1_1; clear HO1_2; clear HI0; clear HK; clear HB; have HO1_0 := n0_; have HO1_1 := n1_; have HO1_2 := n2_; have HI0 := n3_; have HK := n4_; have HB := n5_; have BK190 := n6_; have GW190 := n7_; have GE190 := n8_; have NB0_190 := n9_; have NB190_0 := n10_; clear n0_ n1_ n2_ n3_ n4_ n5_ n6_ n7_ n8_ n9_ n10_; clear hb hbox hg) | ((with_reducible refine gate_dst (N := 4) rfl ?_); refine box_event ?hg (N := 4) ?hd (cs := #[.slice none 0 0, .slice none 0 0, .slice none 0 0]) (t := 33) ?hr ?_; (case hd => rfl); (case hg => rfl); (case hr => (go_simp; done)); intro gb191 hg w11 hbox hb; have n0_ := Aside0.mk (Kd.R_below HO1_0.out hb); have n1_ := Aside0.mk (Kd.R_below HO1_1.out hb); have n2_ := Aside0.mk (Kd.R_below HO1_2.out hb); have n3_ := Aside0.mk (IsS112.below HI0.out hb); have n4_ := Aside0.mk (blk_below (g := gb190) (o := .cells #[.slice Ao7 l1_0.length co7, .slice Ao8 l1_1.length co8, .slice Ao9 l1_2.length co9] 33 (0, 0)) BK190.out hb); have n5_ := Aside0.mk (Kept.below (S := (fun k_ => (P1_0_ k_ ∨ P1_1_ k_ ∨ P1_2_ k_) ∨ k_ = g)) HK.out hb); have n6_ := Aside0.mk (below_step HB.out hb); have n7_ := Aside0.mk (hbox); have n8_ := Aside0.mk ((by rw [hg]; exact HK.out.1 : w.heap.size ≤ gb191)); have n9_ := Aside0.mk ((by rw [hg]; exact (below_size HB.out) : w0.heap.size ≤ gb191)); have n10_ := Aside0.mk ((by rw [hg]; exact Nat.ne_of_lt (blk_lt (g := gb190) (o := .cells #[.slice Ao7 l1_0.length co7, .slice Ao8 l1_1.length co8, .slice Ao9 l1_2.length co9] 33 (0, 0)) BK190.out) : gb190 ≠ gb191)); have n11_ := Aside0.mk ((by rw [hg]; exact Nat.ne_of_gt (blk_lt (g := gb190) (o := .cells #[.slice Ao7 l1_0.length co7, .slice Ao8 l1_1.length co8, .slice Ao9 l1_2.length co9] 33 (0, 0)) BK190.out) : gb191 ≠ gb190)); have n12_ := Aside0.mk ((by rw [hg]; exact Nat.ne_of_lt (IsS112.lt (show IsS112 w0 _ g s0_0 s0_1 s0_2 from by exact HI0.out)) : g ≠ gb191)); have n13_ := Aside0.mk ((by rw [hg]; exact Nat.ne_of_gt (IsS112.lt (show IsS112 w0 _ g s0_0 s0_1 s0_2 from by exact HI0.out)) : gb191 ≠ g)); clear HO1_0; clear HO1_1; clear HO1_2; clear HI0; clear BK190; clear HK; clear HB; have HO1_0 := n0_; have HO1_1 := n1_; have HO1_2 := n2_; have HI0 := n3_; have BK190 := n4_; have HK := n5_; have HB := n6_; have BK191 := n7_; have GW191 := n8_; have GE191 := n9_; have NB190_191 := n10_; have NB191_190 := n11_; have NB0_191 := n12_; have NB191_0 := n13_; clear n0_ n1_ n2_ n3_ n4_ n5_ n6_ n7_ n8_ n9_ n10_ n11_ n12_ n13_; clear hb hbox hg) | ((with_reducible refine gate_callee (f := 110) rfl ?_); refine goesL_ (some 6) rfl rfl Try.func110 (by kernel_rfl) rfl #[.pointer (some ⟨g, 0, none⟩), .int .i64 40] rfl (by (try simp only [List.map_toArray, List.map_cons, List.map_nil]); rfl) ?_; (with_reducible refine (spec_l01Next.calls g s0_0 s0_1 s0_2 40 t192 t193 t194 w0 _ ?side1 ?side2 A3.out).mono ?_); (case side1 => exact HI0.out); (case side2 => exact HB.out); rintro e w12 ⟨rfl, hi, hb, hk⟩; refine ⟨_, rfl, ?_⟩; have n0_ := Aside0.mk (Kd.R_mono (Kd.R_keep (IsS112.apart (show IsS112 w0 _ g s0_0 s0_1 s0_2 from by exact HI0.out) HO1_0.out (by decide)) hk (fun _ h => h.2)) (fun _ h => h.1)); have n1_ := Aside0.mk (Kd.R_mono (Kd.R_keep (IsS112.apart (show IsS112 w0 _ g s0_0 s0_1 s0_2 from by exact HI0.out) HO1_1.out (by decide)) hk (fun _ h => h.2)) (fun _ h => h.1)); have n2_ := Aside0.mk (Kd.R_mono (Kd.R_keep (IsS112.apart (show IsS112 w0 _ g s0_0 s0_1 s0_2 from by exact HI0.out) HO1_2.out (by decide)) hk (fun _ h => h.2)) (fun _ h => h.1)); have n3_ := Aside0.mk (KeepBut.blk hk (g' := gb190) (o := .cells #[.slice Ao7 l1_0.length co7, .slice Ao8 l1_1.length co8, .slice Ao9 l1_2.length co9] 33 (0, 0)) BK190.out NB190_0.out (by simp)); have n4_ := Aside0.mk (KeepBut.blk hk (g' := gb191) (o := .cells #[.slice none 0 0, .slice none 0 0, .slice none 0 0] 33 (0, 0)) BK191.out NB191_0.out (by simp)); have n5_ := Aside0.mk (Kept.of_keep (S := (fun k_ => (P1_0_ k_ ∨ P1_1_ k_ ∨ P1_2_ k_) ∨ k_ = g)) HK.out hk (.inl (.inr rfl))); have n6_ := Aside0.mk (hb); have n7_ := Aside0.mk (hi); clear HO1_0; clear HO1_1; clear HO1_2; clear BK190; clear BK191; clear HK; clear HB; clear HI0; have HO1_0 := n0_; have HO1_1 := n1_; have HO1_2 := n2_; have BK190 := n3_; have BK191 := n4_; have HK := n5_; have HB := n6_; have HI0 := n7_; clear n0_ n1_ n2_ n3_ n4_ n5_ n6_ n7_; (try clear hb); (try clear hb2); (try clear hk); (try clear hi); have hnb13 := NB190_191.out; have hnc13 := NB191_190.out; have hnb14 := NB190_0.out; have hnc14 := NB0_190.out; have hcz15_0 : w12.cell? ⟨gb190, 0, none⟩ = some (.slice Ao7 l1_0.length co7) := (blk_cell BK190.out 0).trans rfl; have hcz15_1 : w12.cell? ⟨gb190, 1, none⟩ = some (.slice Ao8 l1_1.length co8) := (blk_cell BK190.out 1).trans rfl; have hcz15_2 : w12.cell? ⟨gb190, 2, none⟩ = some (.slice Ao9 l1_2.length co9) := (blk_cell BK190.out 2).trans rfl; have hfz15_0 := blk_frozen BK190.out 0; have hfz15_1 := blk_frozen BK190.out 1; have hfz15_2 := blk_frozen BK190.out 2) | ((with_reducible refine gate_callee (f := 84) rfl ?_); refine goesL_ (some 11) rfl rfl Try.func84 (by kernel_rfl) rfl #[.slice Ao7 l1_0.length co7] rfl (by (try simp only [List.map_toArray, List.map_cons, List.map_nil]); rfl) ?_; (with_reducible refine (spec_l01Own.calls _ _ l1_0 t195 _ ?side1 ?side2 A5.out).mono ?_); (case side1 => exact (Kd.R_reads' HO1_0.out).2.2); (case side2 => exact (Kd.R_reads' HO1_0.out).2.1); rintro e w16 ⟨v196, rfl, ho0, hb⟩; refine ⟨_, rfl, ?_⟩; have n0_ := Aside0.mk (Kd.R_elder' HO1_0.out (Kd.R_base ho0) hb); have n1_ := Aside0.mk (Kd.R_elder' HO1_1.out (Kd.R_base ho0) hb); have n2_ := Aside0.mk (Kd.R_elder' HO1_2.out (Kd.R_base ho0) hb); have n3_ := Aside0.mk (Kd.R_lower (Kd.R_new' (Kd.R_new' (Kd.R_new' (Kd.R_newM (M := fun k_ => ((P1_0_ k_ ∨ P1_1_ k_ ∨ P1_2_ k_) ∨ w.heap.size ≤ k_)) ho0 HK.out.1 (fun k_ h_ => .inr h_)) (Kd.R_lt HO1_0.out)) (Kd.R_lt HO1_1.out)) (Kd.R_lt HO1_2.out)) (below_size HB.out)); have n4_ := Aside0.mk (IsS112.below HI0.out hb); have n5_ := Aside0.mk (blk_below (g := gb190) (o := .cells #[.slice Ao7 l1_0.length co7, .slice Ao8 l1_1.length co8, .slice Ao9 l1_2.length co9] 33 (0, 0)) BK190.out hb); have n6_ := Aside0.mk (blk_below (g := gb191) (o := .cells #[.slice none 0 0, .slice none 0 0, .slice none 0 0] 33 (0, 0)) BK191.out hb); have n7_ := Aside0.mk (Kept.below (S := (fun k_ => (P1_0_ k_ ∨ P1_1_ k_ ∨ P1_2_ k_) ∨ k_ = g)) HK.out hb); have n8_ := Aside0.mk (below_step HB.out hb); clear HO1_0; clear HO1_1; clear HO1_2; clear HI0; clear BK190; clear BK191; clear HK; clear HB; have HO1_0 := n0_; have HO1_1 := n1_; have HO1_2 := n2_; have HO197 := n3_; have HI0 := n4_; have BK190 := n5_; have BK191 := n6_; have HK := n7_; have HB := n8_; clear n0_ n1_ n2_ n3_ n4_ n5_ n6_ n7_ n8_; (try clear hb); (try clear hb2); (try clear hk); (try clear hi); (try clear ho0)) | ((with_reducible refine gate_builtin (b := .append) (xs := #[.tmp 11, .tmp 12]) rfl ?_); at_builtin; refine Kd.R_append (Kd.int .i64) (w0 := w0) w0.heap.size rfl (.tmp 11) (.tmp 12) 22 2 (.int .i64 0) 8 rfl Try.underlying22 info2 rfl (by decide) (by omega) v196 t195 1 [.int .i64 1] (fun k_ => ((P1_0_ k_ ∨ P1_1_ k_ ∨ P1_2_ k_) ∨ w.heap.size ≤ k_) ∧ some k_ ≠ (.slice Ao7 l1_0.length co7 : Value).ownBlock ∧ some k_ ≠ (.slice Ao8 l1_1.length co8 : Value).ownBlock ∧ some k_ ≠ (.slice Ao9 l1_2.length co9 : Value).ownBlock) (fun _ => False) rfl rfl ?aP (fun _ hk => hk.elim) ?aF ?aO ?aB ?aS ?aL ?_; (case aP => exact rfl); (case aB => exact HB.out); (case aF => exact (fun k_ hk => ⟨(.inr (Nat.le_trans HK.out.1 hk)), Kd.fresh' (Kd.R_lt HO1_0.out) k_ hk, Kd.fresh' (Kd.R_lt HO1_1.out) k_ hk, Kd.fresh' (Kd.R_lt HO1_2.out) k_ hk⟩)); (case aO => exact (by exact Kd.R_mono HO197.out (fun _ hk => ⟨hk.1.1.1.1, ⟨hk.1.1.2, ⟨hk.1.2, hk.2⟩⟩⟩))); (case aS => exact (below_size HB.out)); (case aL => have := LMc6.out; omega); intro v199 w17 ho hb hg hat; rw [← Ny198.out] at ho; have n0_ := Aside0.mk (IsS112.grown HI0.out hg (IsS112.own_ne HI0.out HO197.out (by decide))); have n1_ := Aside0.mk (Kd.R_after (ok := (fun k_ => ((P1_0_ k_ ∨ P1_1_ k_ ∨ P1_2_ k_) ∨ w.heap.size ≤ k_) ∧ some k_ ≠ (.slice Ao8 l1_1.length co8 : Value).ownBlock ∧ some k_ ≠ (.slice Ao9 l1_2.length co9 : Value).ownBlock)) HO1_0.out hg hat); have n2_ := Aside0.mk (Kd.R_after (ok := (fun k_ => ((P1_0_ k_ ∨ P1_1_ k_ ∨ P1_2_ k_) ∨ w.heap.size ≤ k_) ∧ some k_ ≠ (.slice Ao7 l1_0.length co7 : Value).ownBlock ∧ some k_ ≠ (.slice Ao9 l1_2.length co9 : Value).ownBlock)) HO1_1.out hg hat); have n3_ := Aside0.mk (Kd.R_after (ok := (fun k_ => ((P1_0_ k_ ∨ P1_1_ k_ ∨ P1_2_ k_) ∨ w.heap.size ≤ k_) ∧ some k_ ≠ (.slice Ao7 l1_0.length co7 : Value).ownBlock ∧ some k_ ≠ (.slice Ao8 l1_1.length co8 : Value).ownBlock)) HO1_2.out hg hat); have n4_ := Aside0.mk (blk_grown (g := gb190) (o := .cells #[.slice Ao7 l1_0.length co7, .slice Ao8 l1_1.length co8, .slice Ao9 l1_2.length co9] 33 (0, 0)) BK190.out hg (Kd.R_ne HO197.out BK190.out (by decide))); have n5_ := Aside0.mk (blk_grown (g := gb191) (o := .cells #[.slice none 0 0, .slice none 0 0, .slice none 0 0] 33 (0, 0)) BK191.out hg (Kd.R_ne HO197.out BK191.out (by decide))); have n6_ := Aside0.mk (hb); have n7_ := Aside0.mk (Kept.of_grown (S := (fun k_ => (P1_0_ k_ ∨ P1_1_ k_ ∨ P1_2_ k_) ∨ k_ = g)) hg HK.out (fun k_ e_ => Or.imp_left Or.inl ((HO197.out.1 k_ e_).1.1.1.1))); have n8_ := Aside0.mk (ho); clear HI0; clear HO1_0; clear HO1_1; clear HO1_2; clear BK190; clear BK191; clear HB; clear HK; clear HO197; have HI0 := n0_; have HO1_0 := n1_; have HO1_1 := n2_; have HO1_2 := n3_; have BK190 := n4_; have BK191 := n5_; have HB := n6_; have HK := n7_; have HO200 := n8_; clear n0_ n1_ n2_ n3_ n4_ n5_ n6_ n7_ n8_; clear ho hb hg hat; obtain ⟨Ao18, co18, eo18⟩ := Kd.R_slice HO200.out; subst eo18; have hcz19_0 : w17.cell? ⟨gb190, 0, none⟩ = some (.slice Ao7 l1_0.length co7) := (blk_cell BK190.out 0).trans rfl; have hcz19_1 : w17.cell? ⟨gb190, 1, none⟩ = some (.slice Ao8 l1_1.length co8) := (blk_cell BK190.out 1).trans rfl; have hcz19_2 : w17.cell? ⟨gb190, 2, none⟩ = some (.slice Ao9 l1_2.length co9) := (blk_cell BK190.out 2).trans rfl; have hfz19_0 := blk_frozen BK190.out 0; have hfz19_1 := blk_frozen BK190.out 1; have hfz19_2 := blk_frozen BK190.out 2; have hnb20 := NB191_0.out; have hnc20 := NB0_191.out; have hcz21_0 : w17.cell? ⟨gb191, 0, none⟩ = some (.slice none 0 0) := (blk_cell BK191.out 0).trans rfl; have hcz21_1 : w17.cell? ⟨gb191, 1, none⟩ = some (.slice none 0 0) := (blk_cell BK191.out 1).trans rfl; have hcz21_2 : w17.cell? ⟨gb191, 2, none⟩ = some (.slice none 0 0) := (blk_cell BK191.out 2).trans rfl; have hfz21_0 := blk_frozen BK191.out 0; have hfz21_1 := blk_frozen BK191.out 1; have hfz21_2 := blk_frozen BK191.out 2))
   refine bodyPost_ret (results_cell_row rfl _ _ gb191 33 #[.slice Ao18 y198.length co18, .slice Ao8 l1_1.length co8, .slice Ao9 l1_2.length co9] (0, 0) _ rfl (by refine blk_put (cs := #[.slice Ao18 y198.length co18, .slice Ao8 l1_1.length co8, .slice none 0 0]) ?_ 2 _ rfl; refine blk_put (cs := #[.slice Ao18 y198.length co18, .slice none 0 0, .slice none 0 0]) ?_ 1 _ rfl; refine blk_put (cs := #[.slice none 0 0, .slice none 0 0, .slice none 0 0]) ?_ 0 _ rfl; refine blk_far ?_ NB191_190.out _; exact BK191.out) Try.underlying33 rfl (by kernel_rfl)) rfl ?_
   exact ⟨_, _, _, by rfl, by exact Kd.R_mono (Kd.R_far (p := ⟨gb191, 2, none⟩) (Kd.R_far (p := ⟨gb191, 1, none⟩) (Kd.R_far (p := ⟨gb191, 0, none⟩) (Kd.R_far (p := ⟨gb190, 0, none⟩) (Kd.R_types (Kd.R_types HO200.out BK190.out (by decide)) BK191.out (by decide)) (fun _ hk => hk.1.2) (.slice Ao18 y198.length co18)) (fun _ hk => hk.2) (.slice Ao18 y198.length co18)) (fun _ hk => hk.2) (.slice Ao8 l1_1.length co8)) (fun _ hk => hk.2) (.slice Ao9 l1_2.length co9)) (fun _ hk => ⟨hk.1.1.1, ⟨hk.1.1.2.2.1, hk.1.1.2.2.2⟩⟩), by exact Kd.R_mono (Kd.R_far (p := ⟨gb191, 2, none⟩) (Kd.R_far (p := ⟨gb191, 1, none⟩) (Kd.R_far (p := ⟨gb191, 0, none⟩) (Kd.R_far (p := ⟨gb190, 0, none⟩) (Kd.R_types (Kd.R_types HO1_1.out BK190.out (by decide)) BK191.out (by decide)) (fun _ hk => hk.1.2) (.slice Ao18 y198.length co18)) (fun _ hk => hk.2) (.slice Ao18 y198.length co18)) (fun _ hk => hk.2) (.slice Ao8 l1_1.length co8)) (fun _ hk => hk.2) (.slice Ao9 l1_2.length co9)) (fun _ hk => ⟨hk.1.1.1.1, ⟨hk.1.1.2, hk.1.1.1.2.2⟩⟩), by exact Kd.R_mono (Kd.R_far (p := ⟨gb191, 2, none⟩) (Kd.R_far (p := ⟨gb191, 1, none⟩) (Kd.R_far (p := ⟨gb191, 0, none⟩) (Kd.R_far (p := ⟨gb190, 0, none⟩) (Kd.R_types (Kd.R_types HO1_2.out BK190.out (by decide)) BK191.out (by decide)) (fun _ hk => hk.1.2) (.slice Ao18 y198.length co18)) (fun _ hk => hk.2) (.slice Ao18 y198.length co18)) (fun _ hk => hk.2) (.slice Ao8 l1_1.length co8)) (fun _ hk => hk.2) (.slice Ao9 l1_2.length co9)) (fun _ hk => ⟨hk.1.1.1.1, ⟨hk.1.1.2, hk.1.1.1.2.2⟩⟩), by repeat (with_reducible first | exact HI0.out | refine IsS112.far ?_ NB0_190.out _ | refine IsS112.far ?_ NB0_191.out _), by repeat (with_reducible first | exact HB.out | refine below_set ?_ GE190.out | refine below_set ?_ GE191.out), by repeat ((with_reducible first | exact HK.out | refine Kept.setCell ?_ (.inr GW190.out) _ | refine Kept.setCell ?_ (.inr GW191.out) _))⟩
 rw [if_neg c4] at H
 have c4b0 : (t192 == 0) = false := beq_eq_false_iff_ne.mpr c4
 have c4b1 : (t192 != 0) = true := bne_iff_ne.mpr c4
 by_cases c22 : t192 = 1
 · rw [if_pos c22] at H
   have c22b0 : (t192 == 1) = true := beq_iff_eq.mpr c22
   have c22b1 : (t192 != 1) = false := bne_eq_false_iff_eq.mpr c22
   clear c22
   replace H := Option.bind_eq_some_iff.mp H
   obtain ⟨t201, A230, H⟩ := H
   replace H : ((spec_l01Pick.f s0_0 t193 t194 (([0, 61, (-1)] : List Int))).bind fun bt207 => (if 0 < (t201.length : Int) then (some (l1_0, (t201.set (0 : Int).toNat bt207.1), l1_2, bt207.2.1, bt207.2.2)) else (none))) = some (r1, r2, r3, r4, r5) := H
   have A23 := Aside0.mk A230
   clear A230
   obtain ⟨y204, hy204⟩ : ∃ y_ : List Int, y_ = (([0, 61, (-1)] : List Int)) := ⟨_, rfl⟩
   replace H : ((spec_l01Pick.f s0_0 t193 t194 y204).bind fun bt207 => (if 0 < (t201.length : Int) then (some (l1_0, (t201.set (0 : Int).toNat bt207.1), l1_2, bt207.2.1, bt207.2.2)) else (none))) = some (r1, r2, r3, r4, r5) := by (rw [hy204]; with_reducible exact H)
   have Ny204 := Aside0.mk hy204
   clear hy204
   replace H := Option.bind_eq_some_iff.mp H
   obtain ⟨⟨t207, t208, t209⟩, A240, H⟩ := H
   replace H : (if 0 < (t201.length : Int) then (some (l1_0, (t201.set (0 : Int).toNat t207), l1_2, t208, t209)) else (none)) = some (r1, r2, r3, r4, r5) := H
   have A24 := Aside0.mk A240
   clear A240
   by_cases c25 : 0 < (t201.length : Int)
   rotate_left
   · rw [if_neg c25] at H
     exact absurd H (by simp)
   rw [if_pos c25] at H
   have c25b0 : decide (0 < (t201.length : Int)) = true := decide_eq_true c25
   have c25b1 : decide (0 < t201.length) = true := decide_eq_true (by omega)
   clear c25
   obtain ⟨y210, hy210⟩ : ∃ y_ : List Int, y_ = (t201.set (0 : Int).toNat t207) := ⟨_, rfl⟩
   replace H : (some (l1_0, y210, l1_2, t208, t209)) = some (r1, r2, r3, r4, r5) := by (rw [hy210]; with_reducible exact H)
   have Ny210 := Aside0.mk hy210
   clear hy210
   simp only [Option.some.injEq, Prod.mk.injEq] at H
   obtain ⟨rfl, rfl, rfl, rfl, rfl⟩ := H
   obtain ⟨Ao27, co27, eo27⟩ := Kd.R_slice HO1_0.out
   subst eo27
   obtain ⟨Ao28, co28, eo28⟩ := Kd.R_slice HO1_1.out
   subst eo28
   obtain ⟨Ao29, co29, eo29⟩ := Kd.R_slice HO1_2.out
   subst eo29
   go_enter Try.func104, Try.ntmps104
   try go_wp2_with (first | ((with_reducible refine gate_dst (N := 3) rfl ?_); refine box_event ?hg (N := 3) ?hd (cs := #[.slice Ao27 l1_0.length co27, .slice Ao28 l1_1.length co28, .slice Ao29 l1_2.length co29]) (t := 33) ?hr ?_; (case hd => rfl); (case hg => rfl); (case hr => (go_simp; done)); intro gb190 hg w30 hbox hb; have n0_ := Aside0.mk (Kd.R_below HO1_0.out hb); have n1_ := Aside0.mk (Kd.R_below HO1_1.out hb); have n2_ := Aside0.mk (Kd.R_below HO1_2.out hb); have n3_ := Aside0.mk (IsS112.below HI0.out hb); have n4_ := Aside0.mk (Kept.below (S := (fun k_ => (P1_0_ k_ ∨ P1_1_ k_ ∨ P1_2_ k_) ∨ k_ = g)) HK.out hb); have n5_ := Aside0.mk (below_step HB.out hb); have n6_ := Aside0.mk (hbox); have n7_ := Aside0.mk ((by rw [hg]; exact HK.out.1 : w.heap.size ≤ gb190)); have n8_ := Aside0.mk ((by rw [hg]; exact (below_size HB.out) : w0.heap.size ≤ gb190)); have n9_ := Aside0.mk ((by rw [hg]; exact Nat.ne_of_lt (IsS112.lt (show IsS112 w0 _ g s0_0 s0_1 s0_2 from by exact HI0.out)) : g ≠ gb190)); have n10_ := Aside0.mk ((by rw [hg]; exact Nat.ne_of_gt (IsS112.lt (show IsS112 w0 _ g s0_0 s0_1 s0_2 from by exact HI0.out)) : gb190 ≠ g)); clear HO1_0; clear HO1_1; clear HO1_2; clear HI0; clear HK; clear HB; have HO1_0 := n0_; have HO1_1 := n1_; have HO1_2 := n2_; have HI0 := n3_; have HK := n4_; have HB := n5_; have BK190 := n6_; have GW190 := n7_; have GE190 := n8_; have NB0_190 := n9_; have NB190_0 := n10_; clear n0_ n1_ n2_ n3_ n4_ n5_ n6_ n7_ n8_ n9_ n10_; clear hb hbox hg) | ((with_reducible refine gate_dst (N := 4) rfl ?_); refine box_event ?hg (N := 4) ?hd (cs := #[.slice none 0 0, .slice none 0 0, .slice none 0 0]) (t := 33) ?hr ?_; (case hd => rfl); (case hg => rfl); (case hr => (go_simp; done)); intro gb191 hg w31 hbox hb; have n0_ := Aside0.mk (Kd.R_below HO1_0.out hb); have n1_ := Aside0.mk (Kd.R_below HO1_1.out hb); have n2_ := Aside0.mk (Kd.R_below HO1_2.out hb); have n3_ := Aside0.mk (IsS112.below HI0.out hb); have n4_ := Aside0.mk (blk_below (g := gb190) (o := .cells #[.slice Ao27 l1_0.length co27, .slice Ao28 l1_1.length co28, .slice Ao29 l1_2.length co29] 33 (0, 0)) BK190.out hb); have n5_ := Aside0.mk (Kept.below (S := (fun k_ => (P1_0_ k_ ∨ P1_1_ k_ ∨ P1_2_ k_) ∨ k_ = g)) HK.out hb); have n6_ := Aside0.mk (below_step HB.out hb); have n7_ := Aside0.mk (hbox); have n8_ := Aside0.mk ((by rw [hg]; exact HK.out.1 : w.heap.size ≤ gb191)); have n9_ := Aside0.mk ((by rw [hg]; exact (below_size HB.out) : w0.heap.size ≤ gb191)); have n10_ := Aside0.mk ((by rw [hg]; exact Nat.ne_of_lt (blk_lt (g := gb190) (o := .cells #[.slice Ao27 l1_0.length co27, .slice Ao28 l1_1.length co28, .slice Ao29 l1_2.length co29] 33 (0, 0)) BK190.out) : gb190 ≠ gb191)); have n11_ := Aside0.mk ((by rw [hg]; exact Nat.ne_of_gt (blk_lt (g := gb190) (o := .cells #[.slice Ao27 l1_0.length co27, .slice Ao28 l1_1.length co28, .slice Ao29 l1_2.length co29] 33 (0, 0)) BK190.out) : gb191 ≠ gb190)); have n12_ := Aside0.mk ((by rw [hg]; exact Nat.ne_of_lt (IsS112.lt (show IsS112 w0 _ g s0_0 s0_1 s0_2 from by exact HI0.out)) : g ≠ gb191)); have n13_ := Aside0.mk ((by rw [hg]; exact Nat.ne_of_gt (IsS112.lt (show IsS112 w0 _ g s0_0 s0_1 s0_2 from by exact HI0.out)) : gb191 ≠ g)); clear HO1_0; clear HO1_1; clear HO1_2; clear HI0; clear BK190; clear HK; clear HB; have HO1_0 := n0_; have HO1_1 := n1_; have HO1_2 := n2_; have HI0 := n3_; have BK190 := n4_; have HK := n5_; have HB := n6_; have BK191 := n7_; have GW191 := n8_; have GE191 := n9_; have NB190_191 := n10_; have NB191_190 := n11_; have NB0_191 := n12_; have NB191_0 := n13_; clear n0_ n1_ n2_ n3_ n4_ n5_ n6_ n7_ n8_ n9_ n10_ n11_ n12_ n13_; clear hb hbox hg) | ((with_reducible refine gate_callee (f := 110) rfl ?_); refine goesL_ (some 6) rfl rfl Try.func110 (by kernel_rfl) rfl #[.pointer (some ⟨g, 0, none⟩), .int .i64 40] rfl (by (try simp only [List.map_toArray, List.map_cons, List.map_nil]); rfl) ?_; (with_reducible refine (spec_l01Next.calls g s0_0 s0_1 s0_2 40 t192 t193 t194 w0 _ ?side1 ?side2 A3.out).mono ?_); (case side1 => exact HI0.out); (case side2 => exact HB.out); rintro e w32 ⟨rfl, hi, hb, hk⟩; refine ⟨_, rfl, ?_⟩; have n0_ := Aside0.mk (Kd.R_mono (Kd.R_keep (IsS112.apart (show IsS112 w0 _ g s0_0 s0_1 s0_2 from by exact HI0.out) HO1_0.out (by decide)) hk (fun _ h => h.2)) (fun _ h => h.1)); have n1_ := Aside0.mk (Kd.R_mono (Kd.R_keep (IsS112.apart (show IsS112 w0 _ g s0_0 s0_1 s0_2 from by exact HI0.out) HO1_1.out (by decide)) hk (fun _ h => h.2)) (fun _ h => h.1)); have n2_ := Aside0.mk (Kd.R_mono (Kd.R_keep (IsS112.apart (show IsS112 w0 _ g s0_0 s0_1 s0_2 from by exact HI0.out) HO1_2.out (by decide)) hk (fun _ h => h.2)) (fun _ h => h.1)); have n3_ := Aside0.mk (KeepBut.blk hk (g' := gb190) (o := .cells #[.slice Ao27 l1_0.length co27, .slice Ao28 l1_1.length co28, .slice Ao29 l1_2.length co29] 33 (0, 0)) BK190.out NB190_0.out (by simp)); have n4_ := Aside0.mk (KeepBut.blk hk (g' := gb191) (o := .cells #[.slice none 0 0, .slice none 0 0, .slice none 0 0] 33 (0, 0)) BK191.out NB191_0.out (by simp)); have n5_ := Aside0.mk (Kept.of_keep (S := (fun k_ => (P1_0_ k_ ∨ P1_1_ k_ ∨ P1_2_ k_) ∨ k_ = g)) HK.out hk (.inl (.inr rfl))); have n6_ := Aside0.mk (hb); have n7_ := Aside0.mk (hi); clear HO1_0; clear HO1_1; clear HO1_2; clear BK190; clear BK191; clear HK; clear HB; clear HI0; have HO1_0 := n0_; have HO1_1 := n1_; have HO1_2 := n2_; have BK190 := n3_; have BK191 := n4_; have HK := n5_; have HB := n6_; have HI0 := n7_; clear n0_ n1_ n2_ n3_ n4_ n5_ n6_ n7_; (try clear hb); (try clear hb2); (try clear hk); (try clear hi); have hnb33 := NB190_191.out; have hnc33 := NB191_190.out; have hnb34 := NB190_0.out; have hnc34 := NB0_190.out; have hcz35_0 : w32.cell? ⟨gb190, 0, none⟩ = some (.slice Ao27 l1_0.length co27) := (blk_cell BK190.out 0).trans rfl; have hcz35_1 : w32.cell? ⟨gb190, 1, none⟩ = some (.slice Ao28 l1_1.length co28) := (blk_cell BK190.out 1).trans rfl; have hcz35_2 : w32.cell? ⟨gb190, 2, none⟩ = some (.slice Ao29 l1_2.length co29) := (blk_cell BK190.out 2).trans rfl; have hfz35_0 := blk_frozen BK190.out 0; have hfz35_1 := blk_frozen BK190.out 1; have hfz35_2 := blk_frozen BK190.out 2) | ((with_reducible refine gate_callee (f := 84) rfl ?_); refine goesL_ (some 19) rfl rfl Try.func84 (by kernel_rfl) rfl #[.slice Ao28 l1_1.length co28] rfl (by (try simp only [List.map_toArray, List.map_cons, List.map_nil]); rfl) ?_; (with_reducible refine (spec_l01Own.calls _ _ l1_1 t201 _ ?side1 ?side2 A23.out).mono ?_); (case side1 => exact (Kd.R_reads' HO1_1.out).2.2); (case side2 => exact (Kd.R_reads' HO1_1.out).2.1); rintro e w36 ⟨v202, rfl, ho0, hb⟩; refine ⟨_, rfl, ?_⟩; have n0_ := Aside0.mk (Kd.R_elder' HO1_0.out (Kd.R_base ho0) hb); have n1_ := Aside0.mk (Kd.R_elder' HO1_1.out (Kd.R_base ho0) hb); have n2_ := Aside0.mk (Kd.R_elder' HO1_2.out (Kd.R_base ho0) hb); have n3_ := Aside0.mk (Kd.R_lower (Kd.R_new' (Kd.R_new' (Kd.R_new' (Kd.R_newM (M := fun k_ => ((P1_0_ k_ ∨ P1_1_ k_ ∨ P1_2_ k_) ∨ w.heap.size ≤ k_)) ho0 HK.out.1 (fun k_ h_ => .inr h_)) (Kd.R_lt HO1_0.out)) (Kd.R_lt HO1_1.out)) (Kd.R_lt HO1_2.out)) (below_size HB.out)); have n4_ := Aside0.mk (IsS112.below HI0.out hb); have n5_ := Aside0.mk (blk_below (g := gb190) (o := .cells #[.slice Ao27 l1_0.length co27, .slice Ao28 l1_1.length co28, .slice Ao29 l1_2.length co29] 33 (0, 0)) BK190.out hb); have n6_ := Aside0.mk (blk_below (g := gb191) (o := .cells #[.slice none 0 0, .slice none 0 0, .slice none 0 0] 33 (0, 0)) BK191.out hb); have n7_ := Aside0.mk (Kept.below (S := (fun k_ => (P1_0_ k_ ∨ P1_1_ k_ ∨ P1_2_ k_) ∨ k_ = g)) HK.out hb); have n8_ := Aside0.mk (below_step HB.out hb); clear HO1_0; clear HO1_1; clear HO1_2; clear HI0; clear BK190; clear BK191; clear HK; clear HB; have HO1_0 := n0_; have HO1_1 := n1_; have HO1_2 := n2_; have HO203 := n3_; have HI0 := n4_; have BK190 := n5_; have BK191 := n6_; have HK := n7_; have HB := n8_; clear n0_ n1_ n2_ n3_ n4_ n5_ n6_ n7_ n8_; (try clear hb); (try clear hb2); (try clear hk); (try clear hi); (try clear ho0); obtain ⟨Ao37, co37, eo37⟩ := Kd.R_slice HO203.out; subst eo37; have hcz38_0 : w36.cell? ⟨gb190, 0, none⟩ = some (.slice Ao27 l1_0.length co27) := (blk_cell BK190.out 0).trans rfl; have hcz38_1 : w36.cell? ⟨gb190, 1, none⟩ = some (.slice Ao28 l1_1.length co28) := (blk_cell BK190.out 1).trans rfl; have hcz38_2 : w36.cell? ⟨gb190, 2, none⟩ = some (.slice Ao29 l1_2.length co29) := (blk_cell BK190.out 2).trans rfl; have hfz38_0 := blk_frozen BK190.out 0; have hfz38_1 := blk_frozen BK190.out 1; have hfz38_2 := blk_frozen BK190.out 2))
   have n0_ : Aside0 (Kd.R (Kd.int .i64) 2 (w36.setCell ⟨gb190, 1, none⟩ (.slice Ao37 t201.length co37)) w0.heap.size (fun k_ => ((P1_0_ k_ ∨ P1_1_ k_ ∨ P1_2_ k_) ∨ w.heap.size ≤ k_) ∧ some k_ ≠ (.slice Ao28 l1_1.length co28 : Value).ownBlock ∧ some k_ ≠ (.slice Ao29 l1_2.length co29 : Value).ownBlock ∧ some k_ ≠ (.slice Ao37 t201.length co37 : Value).ownBlock) (.slice Ao27 l1_0.length co27) l1_0) := ⟨by exact Kd.R_mono (Kd.R_far (p := ⟨gb190, 1, none⟩) (Kd.R_types HO1_0.out BK190.out (by decide)) (fun _ hk => hk.2) (.slice Ao37 t201.length co37)) (fun _ hk => ⟨hk.1.1.1, ⟨hk.1.1.2.1, ⟨hk.1.1.2.2, hk.1.2⟩⟩⟩)⟩
   have n1_ : Aside0 (Kd.R (Kd.int .i64) 2 (w36.setCell ⟨gb190, 1, none⟩ (.slice Ao37 t201.length co37)) w0.heap.size (fun k_ => ((P1_0_ k_ ∨ P1_1_ k_ ∨ P1_2_ k_) ∨ w.heap.size ≤ k_) ∧ some k_ ≠ (.slice Ao27 l1_0.length co27 : Value).ownBlock ∧ some k_ ≠ (.slice Ao29 l1_2.length co29 : Value).ownBlock ∧ some k_ ≠ (.slice Ao37 t201.length co37 : Value).ownBlock) (.slice Ao28 l1_1.length co28) l1_1) := ⟨by exact Kd.R_mono (Kd.R_far (p := ⟨gb190, 1, none⟩) (Kd.R_types HO1_1.out BK190.out (by decide)) (fun _ hk => hk.2) (.slice Ao37 t201.length co37)) (fun _ hk => ⟨hk.1.1.1, ⟨hk.1.1.2.1, ⟨hk.1.1.2.2, hk.1.2⟩⟩⟩)⟩
   have n2_ : Aside0 (Kd.R (Kd.int .i64) 2 (w36.setCell ⟨gb190, 1, none⟩ (.slice Ao37 t201.length co37)) w0.heap.size (fun k_ => ((P1_0_ k_ ∨ P1_1_ k_ ∨ P1_2_ k_) ∨ w.heap.size ≤ k_) ∧ some k_ ≠ (.slice Ao27 l1_0.length co27 : Value).ownBlock ∧ some k_ ≠ (.slice Ao28 l1_1.length co28 : Value).ownBlock ∧ some k_ ≠ (.slice Ao37 t201.length co37 : Value).ownBlock) (.slice Ao29 l1_2.length co29) l1_2) := ⟨by exact Kd.R_mono (Kd.R_far (p := ⟨gb190, 1, none⟩) (Kd.R_types HO1_2.out BK190.out (by decide)) (fun _ hk => hk.2) (.slice Ao37 t201.length co37)) (fun _ hk => ⟨hk.1.1.1, ⟨hk.1.1.2.1, ⟨hk.1.1.2.2, hk.1.2⟩⟩⟩)⟩
   have n3_ : Aside0 (Kd.R (Kd.int .i64) 2 (w36.setCell ⟨gb190, 1, none⟩ (.slice Ao37 t201.length co37)) w0.heap.size (fun k_ => ((P1_0_ k_ ∨ P1_1_ k_ ∨ P1_2_ k_) ∨ w.heap.size ≤ k_) ∧ some k_ ≠ (.slice Ao27 l1_0.length co27 : Value).ownBlock ∧ some k_ ≠ (.slice Ao28 l1_1.length co28 : Value).ownBlock ∧ some k_ ≠ (.slice Ao29 l1_2.length co29 : Value).ownBlock) (.slice Ao37 t201.length co37) t201) := ⟨by exact Kd.R_mono (Kd.R_far (p := ⟨gb190, 1, none⟩) (Kd.R_types HO203.out BK190.out (by decide)) (fun _ hk => hk.2) (.slice Ao37 t201.length co37)) (fun _ hk => ⟨hk.1.1.1.1.1, ⟨hk.1.1.1.2, ⟨hk.1.1.2, hk.1.2⟩⟩⟩)⟩
   have n4_ : Aside0 ((w36.setCell ⟨gb190, 1, none⟩ (.slice Ao37 t201.length co37)).heap[gb190]? = some (.cells #[.slice Ao27 l1_0.length co27, .slice Ao37 t201.length co37, .slice Ao29 l1_2.length co29] 33 (0, 0))) := ⟨by refine blk_put (cs := #[.slice Ao27 l1_0.length co27, .slice Ao28 l1_1.length co28, .slice Ao29 l1_2.length co29]) ?_ 1 _ rfl; exact BK190.out⟩
   have n5_ : Aside0 ((w36.setCell ⟨gb190, 1, none⟩ (.slice Ao37 t201.length co37)).heap[gb191]? = some (.cells #[.slice none 0 0, .slice none 0 0, .slice none 0 0] 33 (0, 0))) := ⟨by refine blk_far ?_ NB191_190.out _; exact BK191.out⟩
   have n6_ : Aside0 (IsS112 w0 (w36.setCell ⟨gb190, 1, none⟩ (.slice Ao37 t201.length co37)) g s0_0 t193 t194) := ⟨by repeat (with_reducible first | exact HI0.out | refine IsS112.far ?_ NB0_190.out _)⟩
   have n7_ : Aside0 (Kept w (w36.setCell ⟨gb190, 1, none⟩ (.slice Ao37 t201.length co37)) (fun k_ => (P1_0_ k_ ∨ P1_1_ k_ ∨ P1_2_ k_) ∨ k_ = g)) := ⟨by repeat ((with_reducible first | exact HK.out | refine Kept.setCell ?_ (.inr GW190.out) _))⟩
   have n8_ : Aside0 (Below w0.heap.size w0 (w36.setCell ⟨gb190, 1, none⟩ (.slice Ao37 t201.length co37))) := ⟨by repeat (with_reducible first | exact HB.out | refine below_set ?_ GE190.out)⟩
   (try clear HO1_0)
   (try clear HO1_1)
   (try clear HO1_2)
   (try clear HO203)
   (try clear BK190)
   (try clear BK191)
   (try clear HI0)
   (try clear HK)
   (try clear HB)
   generalize (w36.setCell ⟨gb190, 1, none⟩ (.slice Ao37 t201.length co37)) = w39 at n0_ n1_ n2_ n3_ n4_ n5_ n6_ n7_ n8_ ⊢
   have HO1_0 := n0_
   have HO1_1 := n1_
   have HO1_2 := n2_
   have HO203 := n3_
   have BK190 := n4_
   have BK191 := n5_
   have HI0 := n6_
   have HK := n7_
   have HB := n8_
   clear n0_ n1_ n2_ n3_ n4_ n5_ n6_ n7_ n8_
   have n0_ := Aside0.mk (Kd.R_drew HO1_0.out)
   have n1_ := Aside0.mk (Kd.R_drew HO1_1.out)
   have n2_ := Aside0.mk (Kd.R_drew HO1_2.out)
   have n3_ := Aside0.mk (Kd.R_drew HO203.out)
   have n4_ := Aside0.mk (blk_drew BK190.out)
   have n5_ := Aside0.mk (blk_drew BK191.out)
   have n6_ := Aside0.mk (IsS112.drew HI0.out)
   have n7_ := Aside0.mk (Kept.drew HK.out)
   have n8_ := Aside0.mk (below_drew1 HB.out)
   clear HO1_0
   clear HO1_1
   clear HO1_2
   clear HO203
   clear BK190
   clear BK191
   clear HI0
   clear HK
   clear HB
   have HO1_0 := n0_
   have HO1_1 := n1_
   have HO1_2 := n2_
   have HO203 := n3_
   have BK190 := n4_
   have BK191 := n5_
   have HI0 := n6_
   have HK := n7_
   have HB := n8_
   clear n0_ n1_ n2_ n3_ n4_ n5_ n6_ n7_ n8_
   refine start_ (n := 7) (S := fun w' => w'.cell? ⟨gb190, 0, none⟩ = some (.slice Ao27 l1_0.length co27) ∧ w'.cell? ⟨gb190, 1, none⟩ = some (.slice Ao37 t201.length co37) ∧ w'.cell? ⟨gb190, 2, none⟩ = some (.slice Ao29 l1_2.length co29)) (ds := [6]) #[false, false, false, false, false, false, false] (by kernel_rfl) rfl rfl ⟨(blk_cell BK190.out 0).trans rfl, (blk_cell BK190.out 1).trans rfl, (blk_cell BK190.out 2).trans rfl⟩ (fun hHeld => ?_)
   generalize w39.drew = w40 at HO1_0 HO1_1 HO1_2 HO203 BK190 BK191 HI0 HK HB hHeld ⊢
   refine pure_ (i := 0) (N := some 21) (v := ?_) (a' := ?_) #[true, false, false, false, false, false, false] rfl rfl (by kernel_rfl) (fun _ _ _ h => h) (Or.inl ⟨by rfl, ?_⟩) ?_ ?_
   rotate_left
   · intro w'
     go_simp
     with_reducible rfl
   rotate_left
   · simp only [Act.put, List.setIfInBounds_toArray, List.set_cons_zero, List.set_cons_succ, i64_w, i32_w]
     rfl
   refine pure_ (i := 2) (N := some 23) (v := ?_) (a' := ?_) #[true, false, true, false, false, false, false] rfl rfl (by kernel_rfl) (fun _ _ _ h => h) (Or.inl ⟨by rfl, ?_⟩) ?_ ?_
   rotate_left
   · intro w'
     go_simp
     with_reducible rfl
   rotate_left
   · simp only [Act.put, List.setIfInBounds_toArray, List.set_cons_zero, List.set_cons_succ, i64_w, i32_w]
     rfl
   refine take_ (i := 1) (N := some 22) (v := ?_) (a' := ?_) #[true, true, true, false, false, false, false] rfl rfl (by kernel_rfl) (fun _ _ _ h => h) (Or.inl ⟨by rfl, ?_⟩) hHeld ?_ ?_
   rotate_left
   · rintro w' ⟨s0, s1, s2⟩
     go_simp
     with_reducible rfl
   rotate_left
   · simp only [Act.put, List.setIfInBounds_toArray, List.set_cons_zero, List.set_cons_succ, i64_w, i32_w]
     rfl
   refine one_ (i := 3) (N := some 24) #[true, true, true, true, false, false, false] rfl rfl (by kernel_rfl) (by decide) (fun K hK => ?_)
   refine Kd.R_lit_step (Kd.int .i64) _ 2 ?hg (N := 24) ?hd (xs := ([0, 61, (-1)] : List Int)) (inner := [.int .i64 0, .int .i64 61, .int .i64 (-1)]) (ok := fun _ => True) (okp := fun _ => True) ?hr ?hp (fun _ hk => hk) trivial (Below.refl _ _) (Nat.le_refl _) (by simp) ?_; (case hd => rfl); (case hg => rfl); (case hr => (go_simp; done)); (case hp => exact (Reps.one (show Kd.M (Kd.int .i64) _ _ _ 0 [.int .i64 0] from rfl) (Reps.one (show Kd.M (Kd.int .i64) _ _ _ 61 [.int .i64 61] from rfl) (Reps.one (show Kd.M (Kd.int .i64) _ _ _ (-1) [.int .i64 (-1)] from rfl) (Reps.none _ _)))))
   intro v205 w41 ho42 hb hg_ hnew_
   clear hg_ hnew_
   (rw [← Ny204.out] at ho42)
   have n0_ := Aside0.mk (Kd.R_elder' HO1_0.out (Kd.R_base ho42) hb)
   have n1_ := Aside0.mk (Kd.R_elder' HO1_1.out (Kd.R_base ho42) hb)
   have n2_ := Aside0.mk (Kd.R_elder' HO1_2.out (Kd.R_base ho42) hb)
   have n3_ := Aside0.mk (Kd.R_elder' HO203.out (Kd.R_base ho42) hb)
   have n4_ := Aside0.mk (Kd.R_lower (Kd.R_new' (Kd.R_new' (Kd.R_new' (Kd.R_new' (Kd.R_newM (M := fun k_ => ((P1_0_ k_ ∨ P1_1_ k_ ∨ P1_2_ k_) ∨ w.heap.size ≤ k_)) ho42 HK.out.1 (fun k_ h_ => .inr h_)) (Kd.R_lt HO1_0.out)) (Kd.R_lt HO1_1.out)) (Kd.R_lt HO1_2.out)) (Kd.R_lt HO203.out)) (below_size HB.out))
   have n5_ := Aside0.mk (IsS112.below HI0.out hb)
   have n6_ := Aside0.mk (blk_below (g := gb190) (o := .cells #[.slice Ao27 l1_0.length co27, .slice Ao37 t201.length co37, .slice Ao29 l1_2.length co29] 33 (0, 0)) BK190.out hb)
   have n7_ := Aside0.mk (blk_below (g := gb191) (o := .cells #[.slice none 0 0, .slice none 0 0, .slice none 0 0] 33 (0, 0)) BK191.out hb)
   have n8_ := Aside0.mk (Kept.below (S := (fun k_ => (P1_0_ k_ ∨ P1_1_ k_ ∨ P1_2_ k_) ∨ k_ = g)) HK.out hb)
   have n9_ := Aside0.mk (below_step HB.out hb)
   clear HO1_0
   clear HO1_1
   clear HO1_2
   clear HO203
   clear HI0
   clear BK190
   clear BK191
   clear HK
   clear HB
   have HO1_0 := n0_
   have HO1_1 := n1_
   have HO1_2 := n2_
   have HO203 := n3_
   have HO206 := n4_
   have HI0 := n5_
   have BK190 := n6_
   have BK191 := n7_
   have HK := n8_
   have HB := n9_
   clear n0_ n1_ n2_ n3_ n4_ n5_ n6_ n7_ n8_ n9_
   clear hb ho42
   obtain ⟨Ao43, co43, eo43⟩ := Kd.R_slice HO206.out
   (subst eo43)
   refine hK.out _ _ ⟨(blk_cell BK190.out 0).trans rfl, (blk_cell BK190.out 1).trans rfl, (blk_cell BK190.out 2).trans rfl⟩ (fun hHeld => ?_)
   clear hK K
   refine norm_ (a' := ?_) ?_ ?_
   rotate_left
   · show Act.put _ (some 24) _ = _
     simp only [Act.put, List.setIfInBounds_toArray, List.set_cons_zero, List.set_cons_succ, i64_w, i32_w]
     rfl
   refine one_ (i := 4) (N := some 25) #[true, true, true, true, true, false, false] rfl rfl (by kernel_rfl) (by decide) (fun K hK => ?_)
   refine goes_ Try.func79 (by kernel_rfl) rfl #[.pointer (some ⟨g, 0, none⟩), .slice Ao43 y204.length co43] (by rfl) rfl rfl (by (try simp only [List.map_toArray, List.map_cons, List.map_nil]); rfl) ?_
   with_reducible refine (spec_l01Pick.calls g s0_0 t193 t194 _ _ y204 t207 t208 t209 w0 _ ?side1 ?side2 ?side3 ?side4 ?side5 A24.out).mono ?_
   (case side1 => exact HI0.out)
   (case side2 => exact HB.out)
   (case side3 => exact (Kd.R_reads' HO206.out).2.2)
   (case side4 => exact (Kd.R_reads' HO206.out).2.1)
   (case side5 => exact far_slice (IsS112.own_ne HI0.out HO206.out (by decide)))
   rintro e w44 ⟨rfl, hi, hb, hk⟩
   refine ⟨_, rfl, ?_⟩
   have n0_ := Aside0.mk (Kd.R_mono (Kd.R_keep (IsS112.apart (show IsS112 w0 _ g s0_0 t193 t194 from by exact HI0.out) HO1_0.out (by decide)) hk (fun _ h => h.2)) (fun _ h => h.1))
   have n1_ := Aside0.mk (Kd.R_mono (Kd.R_keep (IsS112.apart (show IsS112 w0 _ g s0_0 t193 t194 from by exact HI0.out) HO1_1.out (by decide)) hk (fun _ h => h.2)) (fun _ h => h.1))
   have n2_ := Aside0.mk (Kd.R_mono (Kd.R_keep (IsS112.apart (show IsS112 w0 _ g s0_0 t193 t194 from by exact HI0.out) HO1_2.out (by decide)) hk (fun _ h => h.2)) (fun _ h => h.1))
   have n3_ := Aside0.mk (KeepBut.blk hk (g' := gb190) (o := .cells #[.slice Ao27 l1_0.length co27, .slice Ao37 t201.length co37, .slice Ao29 l1_2.length co29] 33 (0, 0)) BK190.out NB190_0.out (by simp))
   have n4_ := Aside0.mk (KeepBut.blk hk (g' := gb191) (o := .cells #[.slice none 0 0, .slice none 0 0, .slice none 0 0] 33 (0, 0)) BK191.out NB191_0.out (by simp))
   have n5_ := Aside0.mk (Kd.R_mono (Kd.R_keep (IsS112.apart (show IsS112 w0 _ g s0_0 t193 t194 from by exact HI0.out) HO203.out (by decide)) hk (fun _ h => h.2)) (fun _ h => h.1))
   have n6_ := Aside0.mk (Kd.R_mono (Kd.R_keep (IsS112.apart (show IsS112 w0 _ g s0_0 t193 t194 from by exact HI0.out) HO206.out (by decide)) hk (fun _ h => h.2)) (fun _ h => h.1))
   have n7_ := Aside0.mk (Kept.of_keep (S := (fun k_ => (P1_0_ k_ ∨ P1_1_ k_ ∨ P1_2_ k_) ∨ k_ = g)) HK.out hk (.inl (.inr rfl)))
   have n8_ := Aside0.mk (hb)
   have n9_ := Aside0.mk (hi)
   clear HO1_0
   clear HO1_1
   clear HO1_2
   clear BK190
   clear BK191
   clear HO203
   clear HO206
   clear HK
   clear HB
   clear HI0
   have HO1_0 := n0_
   have HO1_1 := n1_
   have HO1_2 := n2_
   have BK190 := n3_
   have BK191 := n4_
   have HO203 := n5_
   have HO206 := n6_
   have HK := n7_
   have HB := n8_
   have HI0 := n9_
   clear n0_ n1_ n2_ n3_ n4_ n5_ n6_ n7_ n8_ n9_
   (try clear hb)
   (try clear hb2)
   (try clear hk)
   (try clear hi)
   have p26 : 0 ≤ (0 : Int) := (by omega)
   have q26 : (0 : Int) < ((t201.length : Int) : Int) := of_decide_eq_true (by (with_reducible assumption))
   have qi26 : (0 < t201.length) = True := eq_true (by omega)
   obtain ⟨go26, co26, eo26, gb26, gl26, cl26, HG26⟩ := Kd.R_form HO203.out (by omega)
   (cases eo26)
   have GB26 := Aside0.mk gb26
   have GG26 := Aside0.mk HG26
   clear gb26 gl26 HG26
   have HMgo26 := Aside0.mk (show ((P1_0_ go26 ∨ P1_1_ go26 ∨ P1_2_ go26) ∨ w.heap.size ≤ go26) from (HO203.out.1 _ rfl).1.1)
   obtain ⟨hx26_0, hf26_0⟩ := Kd.R_celln 0 HO203.out (0 : Int) p26 q26
   (try rw [show ((0 : Int)).toNat = 0 from rfl] at hx26_0)
   (try simp only [Nat.reduceMul, Nat.zero_mul, Nat.zero_add, Nat.reduceAdd] at hx26_0)
   (try rw [show ((0 : Int)).toNat = 0 from rfl] at hf26_0)
   (try simp only [Nat.reduceMul, Nat.zero_mul, Nat.zero_add, Nat.reduceAdd] at hf26_0)
   replace p26 := eq_true p26
   replace q26 := eq_true q26
   have HN0_go26 := Aside0.mk (show g ≠ go26 from by have h_ := IsS112.own_ne HI0.out HO203.out (by decide); intro e_; exact h_ (by rw [e_]; rfl))
   have HP45 := Kd.R_putn HO203.out (0 : Int) t207
   rw [← Ny210.out] at HP45
   have HQ45 := Aside0.mk HP45
   clear HP45
   refine hK.out _ _ ⟨(blk_cell BK190.out 0).trans rfl, (blk_cell BK190.out 1).trans rfl, (blk_cell BK190.out 2).trans rfl⟩ (fun hHeld => ?_)
   clear hK K
   refine norm_ (a' := ?_) ?_ ?_
   rotate_left
   · show Act.put _ (some 25) _ = _
     simp only [Act.put, List.setIfInBounds_toArray, List.set_cons_zero, List.set_cons_succ, i64_w, i32_w]
     rfl
   refine pure_ (i := 5) (N := some 26) (v := ?_) (a' := ?_) #[true, true, true, true, true, true, false] rfl rfl (by kernel_rfl) (fun _ _ _ h => h) (Or.inl ⟨by rfl, ?_⟩) ?_ ?_
   rotate_left
   · intro w'
     go_simp
     with_reducible rfl
   rotate_left
   · simp only [Act.put, List.setIfInBounds_toArray, List.set_cons_zero, List.set_cons_succ, i64_w, i32_w]
     rfl
   refine last_ (i := 6) (N := none) #[true, true, true, true, true, true, true] rfl rfl (by kernel_rfl) (by decide) (fun K hK => ?_)
   refine skip_ (w1 := ?_) (by rfl) rfl ?_ ?_
   rotate_left
   · go_simp
     rfl
   refine hK.out _ _ ?_
   clear hK K
   refine done_ (by kernel_rfl) ?_
   have n0_ : Aside0 (Kd.R (Kd.int .i64) 2 (w44.setCell ⟨go26, 0, none⟩ (.int .i64 t207)) w0.heap.size (fun k_ => ((P1_0_ k_ ∨ P1_1_ k_ ∨ P1_2_ k_) ∨ w.heap.size ≤ k_) ∧ some k_ ≠ (.slice Ao28 l1_1.length co28 : Value).ownBlock ∧ some k_ ≠ (.slice Ao29 l1_2.length co29 : Value).ownBlock ∧ some k_ ≠ (.slice (some ⟨go26, 0, none⟩) t201.length co37 : Value).ownBlock ∧ some k_ ≠ (.slice Ao43 y204.length co43 : Value).ownBlock) (.slice Ao27 l1_0.length co27) l1_0) := ⟨by exact Kd.R_mono (Kd.R_far (p := ⟨go26, 0, none⟩) (Kd.R_mono HO1_0.out (fun k_ hk => (⟨hk, fun e_ => hk.1.2.2.2 (by rw [e_]; rfl)⟩ : _ ∧ k_ ≠ go26))) (fun _ hk => hk.2) (.int .i64 t207)) (fun _ hk => ⟨hk.1.1.1, ⟨hk.1.1.2.1, ⟨hk.1.1.2.2.1, ⟨hk.1.1.2.2.2, hk.1.2⟩⟩⟩⟩)⟩
   have n1_ : Aside0 (Kd.R (Kd.int .i64) 2 (w44.setCell ⟨go26, 0, none⟩ (.int .i64 t207)) w0.heap.size (fun k_ => ((P1_0_ k_ ∨ P1_1_ k_ ∨ P1_2_ k_) ∨ w.heap.size ≤ k_) ∧ some k_ ≠ (.slice Ao27 l1_0.length co27 : Value).ownBlock ∧ some k_ ≠ (.slice Ao29 l1_2.length co29 : Value).ownBlock ∧ some k_ ≠ (.slice (some ⟨go26, 0, none⟩) t201.length co37 : Value).ownBlock ∧ some k_ ≠ (.slice Ao43 y204.length co43 : Value).ownBlock) (.slice Ao28 l1_1.length co28) l1_1) := ⟨by exact Kd.R_mono (Kd.R_far (p := ⟨go26, 0, none⟩) (Kd.R_mono HO1_1.out (fun k_ hk => (⟨hk, fun e_ => hk.1.2.2.2 (by rw [e_]; rfl)⟩ : _ ∧ k_ ≠ go26))) (fun _ hk => hk.2) (.int .i64 t207)) (fun _ hk => ⟨hk.1.1.1, ⟨hk.1.1.2.1, ⟨hk.1.1.2.2.1, ⟨hk.1.1.2.2.2, hk.1.2⟩⟩⟩⟩)⟩
   have n2_ : Aside0 (Kd.R (Kd.int .i64) 2 (w44.setCell ⟨go26, 0, none⟩ (.int .i64 t207)) w0.heap.size (fun k_ => ((P1_0_ k_ ∨ P1_1_ k_ ∨ P1_2_ k_) ∨ w.heap.size ≤ k_) ∧ some k_ ≠ (.slice Ao27 l1_0.length co27 : Value).ownBlock ∧ some k_ ≠ (.slice Ao28 l1_1.length co28 : Value).ownBlock ∧ some k_ ≠ (.slice (some ⟨go26, 0, none⟩) t201.length co37 : Value).ownBlock ∧ some k_ ≠ (.slice Ao43 y204.length co43 : Value).ownBlock) (.slice Ao29 l1_2.length co29) l1_2) := ⟨by exact Kd.R_mono (Kd.R_far (p := ⟨go26, 0, none⟩) (Kd.R_mono HO1_2.out (fun k_ hk => (⟨hk, fun e_ => hk.1.2.2.2 (by rw [e_]; rfl)⟩ : _ ∧ k_ ≠ go26))) (fun _ hk => hk.2) (.int .i64 t207)) (fun _ hk => ⟨hk.1.1.1, ⟨hk.1.1.2.1, ⟨hk.1.1.2.2.1, ⟨hk.1.1.2.2.2, hk.1.2⟩⟩⟩⟩)⟩
   have n3_ : Aside0 (Kd.R (Kd.int .i64) 2 (w44.setCell ⟨go26, 0, none⟩ (.int .i64 t207)) w0.heap.size (fun k_ => ((P1_0_ k_ ∨ P1_1_ k_ ∨ P1_2_ k_) ∨ w.heap.size ≤ k_) ∧ some k_ ≠ (.slice Ao27 l1_0.length co27 : Value).ownBlock ∧ some k_ ≠ (.slice Ao28 l1_1.length co28 : Value).ownBlock ∧ some k_ ≠ (.slice Ao29 l1_2.length co29 : Value).ownBlock ∧ some k_ ≠ (.slice Ao43 y204.length co43 : Value).ownBlock) (.slice (some ⟨go26, 0, none⟩) t201.length co37) y210) := ⟨by exact Kd.R_mono HQ45.out (fun _ hk => ⟨hk.1.1, ⟨hk.1.2.1, ⟨hk.1.2.2.1, ⟨hk.1.2.2.2, hk.2⟩⟩⟩⟩)⟩
   have n4_ : Aside0 (Kd.R (Kd.int .i64) 2 (w44.setCell ⟨go26, 0, none⟩ (.int .i64 t207)) w0.heap.size (fun k_ => ((P1_0_ k_ ∨ P1_1_ k_ ∨ P1_2_ k_) ∨ w.heap.size ≤ k_) ∧ some k_ ≠ (.slice Ao27 l1_0.length co27 : Value).ownBlock ∧ some k_ ≠ (.slice Ao28 l1_1.length co28 : Value).ownBlock ∧ some k_ ≠ (.slice Ao29 l1_2.length co29 : Value).ownBlock ∧ some k_ ≠ (.slice (some ⟨go26, 0, none⟩) t201.length co37 : Value).ownBlock) (.slice Ao43 y204.length co43) y204) := ⟨by exact Kd.R_mono (Kd.R_far (p := ⟨go26, 0, none⟩) (Kd.R_mono HO206.out (fun k_ hk => (⟨hk, fun e_ => hk.2 (by rw [e_]; rfl)⟩ : _ ∧ k_ ≠ go26))) (fun _ hk => hk.2) (.int .i64 t207)) (fun _ hk => ⟨hk.1.1.1.1.1.1, ⟨hk.1.1.1.1.2, ⟨hk.1.1.1.2, ⟨hk.1.1.2, hk.1.2⟩⟩⟩⟩)⟩
   have n5_ : Aside0 ((w44.setCell ⟨go26, 0, none⟩ (.int .i64 t207)).heap[gb190]? = some (.cells #[.slice Ao27 l1_0.length co27, .slice (some ⟨go26, 0, none⟩) t201.length co37, .slice Ao29 l1_2.length co29] 33 (0, 0))) := ⟨by refine blk_far ?_ (by have h_ := Kd.R_ne HO203.out BK190.out (by decide); intro e_; exact h_ (by rw [e_]; rfl)) _; exact BK190.out⟩
   have n6_ : Aside0 ((w44.setCell ⟨go26, 0, none⟩ (.int .i64 t207)).heap[gb191]? = some (.cells #[.slice none 0 0, .slice none 0 0, .slice none 0 0] 33 (0, 0))) := ⟨by refine blk_far ?_ (by have h_ := Kd.R_ne HO203.out BK191.out (by decide); intro e_; exact h_ (by rw [e_]; rfl)) _; exact BK191.out⟩
   have n7_ : Aside0 (IsS112 w0 (w44.setCell ⟨go26, 0, none⟩ (.int .i64 t207)) g s0_0 t208 t209) := ⟨by repeat (with_reducible first | exact HI0.out | refine IsS112.far ?_ HN0_go26.out _)⟩
   have n8_ : Aside0 (Kept w (w44.setCell ⟨go26, 0, none⟩ (.int .i64 t207)) (fun k_ => (P1_0_ k_ ∨ P1_1_ k_ ∨ P1_2_ k_) ∨ k_ = g)) := ⟨by repeat ((with_reducible first | exact HK.out | refine Kept.setCell ?_ (Or.imp_left Or.inl HMgo26.out) _))⟩
   have n9_ : Aside0 (Below w0.heap.size w0 (w44.setCell ⟨go26, 0, none⟩ (.int .i64 t207))) := ⟨by repeat (with_reducible first | exact HB.out | refine below_set ?_ GB26.out)⟩
   (try clear HO1_0)
   (try clear HO1_1)
   (try clear HO1_2)
   (try clear HO203)
   (try clear HO206)
   (try clear BK190)
   (try clear BK191)
   (try clear HI0)
   (try clear HK)
   (try clear HB)
   generalize (w44.setCell ⟨go26, 0, none⟩ (.int .i64 t207)) = w46 at n0_ n1_ n2_ n3_ n4_ n5_ n6_ n7_ n8_ n9_ ⊢
   have HO1_0 := n0_
   have HO1_1 := n1_
   have HO1_2 := n2_
   have HO203 := n3_
   have HO206 := n4_
   have BK190 := n5_
   have BK191 := n6_
   have HI0 := n7_
   have HK := n8_
   have HB := n9_
   clear n0_ n1_ n2_ n3_ n4_ n5_ n6_ n7_ n8_ n9_
   have hcz47_0 : w46.cell? ⟨gb190, 0, none⟩ = some (.slice Ao27 l1_0.length co27) := (blk_cell BK190.out 0).trans rfl
   have hcz47_1 : w46.cell? ⟨gb190, 1, none⟩ = some (.slice (some ⟨go26, 0, none⟩) t201.length co37) := (blk_cell BK190.out 1).trans rfl
   have hcz47_2 : w46.cell? ⟨gb190, 2, none⟩ = some (.slice Ao29 l1_2.length co29) := (blk_cell BK190.out 2).trans rfl
   have hfz47_0 := blk_frozen BK190.out 0
   have hfz47_1 := blk_frozen BK190.out 1
   have hfz47_2 := blk_frozen BK190.out 2
   have hnb48 := NB191_0.out
   have hnc48 := NB0_191.out
   have hcz49_0 : w46.cell? ⟨gb191, 0, none⟩ = some (.slice none 0 0) := (blk_cell BK191.out 0).trans rfl
   have hcz49_1 : w46.cell? ⟨gb191, 1, none⟩ = some (.slice none 0 0) := (blk_cell BK191.out 1).trans rfl
   have hcz49_2 : w46.cell? ⟨gb191, 2, none⟩ = some (.slice none 0 0) := (blk_cell BK191.out 2).trans rfl
   have hfz49_0 := blk_frozen BK191.out 0
   have hfz49_1 := blk_frozen BK191.out 1
   have hfz49_2 := blk_frozen BK191.out 2
   try go_wp2
   refine bodyPost_ret (results_cell_row rfl _ _ gb191 33 #[.slice Ao27 l1_0.length co27, .slice (some ⟨go26, 0, none⟩) t201.length co37, .slice Ao29 l1_2.length co29] (0, 0) _ rfl (by refine blk_put (cs := #[.slice Ao27 l1_0.length co27, .slice (some ⟨go26, 0, none⟩) t201.length co37, .slice none 0 0]) ?_ 2 _ rfl; refine blk_put (cs := #[.slice Ao27 l1_0.length co27, .slice none 0 0, .slice none 0 0]) ?_ 1 _ rfl; refine blk_put (cs := #[.slice none 0 0, .slice none 0 0, .slice none 0 0]) ?_ 0 _ rfl; exact BK191.out) Try.underlying33 rfl (by kernel_rfl)) rfl ?_
   exact ⟨_, _, _, by rfl, by exact Kd.R_mono (Kd.R_far (p := ⟨gb191, 2, none⟩) (Kd.R_far (p := ⟨gb191, 1, none⟩) (Kd.R_far (p := ⟨gb191, 0, none⟩) (Kd.R_types HO1_0.out BK191.out (by decide)) (fun _ hk => hk.2) (.slice Ao27 l1_0.length co27)) (fun _ hk => hk.2) (.slice (some ⟨go26, 0, none⟩) t201.length co37)) (fun _ hk => hk.2) (.slice Ao29 l1_2.length co29)) (fun _ hk => ⟨hk.1.1, ⟨hk.1.2.2.2.1, hk.1.2.2.1⟩⟩), by exact Kd.R_mono (Kd.R_far (p := ⟨gb191, 2, none⟩) (Kd.R_far (p := ⟨gb191, 1, none⟩) (Kd.R_far (p := ⟨gb191, 0, none⟩) (Kd.R_types HO203.out BK191.out (by decide)) (fun _ hk => hk.2) (.slice Ao27 l1_0.length co27)) (fun _ hk => hk.2) (.slice (some ⟨go26, 0, none⟩) t201.length co37)) (fun _ hk => hk.2) (.slice Ao29 l1_2.length co29)) (fun _ hk => ⟨hk.1.1, ⟨hk.1.2.1, hk.1.2.2.2.1⟩⟩), by exact Kd.R_mono (Kd.R_far (p := ⟨gb191, 2, none⟩) (Kd.R_far (p := ⟨gb191, 1, none⟩) (Kd.R_far (p := ⟨gb191, 0, none⟩) (Kd.R_types HO1_2.out BK191.out (by decide)) (fun _ hk => hk.2) (.slice Ao27 l1_0.length co27)) (fun _ hk => hk.2) (.slice (some ⟨go26, 0, none⟩) t201.length co37)) (fun _ hk => hk.2) (.slice Ao29 l1_2.length co29)) (fun _ hk => ⟨hk.1.1, ⟨hk.1.2.1, hk.1.2.2.2.1⟩⟩), by repeat (with_reducible first | exact HI0.out | refine IsS112.far ?_ NB0_191.out _), by repeat (with_reducible first | exact HB.out | refine below_set ?_ GE191.out), by repeat ((with_reducible first | exact HK.out | refine Kept.setCell ?_ (.inr GW191.out) _))⟩
 rw [if_neg c22] at H
 have c22b0 : (t192 == 1) = false := beq_eq_false_iff_ne.mpr c22
 have c22b1 : (t192 != 1) = true := bne_iff_ne.mpr c22
 by_cases c50 : t192 = 2
 rotate_left
 · rw [if_neg c50] at H
   have c50b0 : (t192 == 2) = false := beq_eq_false_iff_ne.mpr c50
   have c50b1 : (t192 != 2) = true := bne_iff_ne.mpr c50
   simp only [Option.some.injEq, Prod.mk.injEq] at H
   obtain ⟨rfl, rfl, rfl, rfl, rfl⟩ := H
   obtain ⟨Ao78, co78, eo78⟩ := Kd.R_slice HO1_0.out
   subst eo78
   obtain ⟨Ao79, co79, eo79⟩ := Kd.R_slice HO1_1.out
   subst eo79
   obtain ⟨Ao80, co80, eo80⟩ := Kd.R_slice HO1_2.out
   subst eo80
   go_enter Try.func104, Try.ntmps104
   go_wp2_with (first | ((with_reducible refine gate_dst (N := 3) rfl ?_); refine box_event ?hg (N := 3) ?hd (cs := #[.slice Ao78 l1_0.length co78, .slice Ao79 l1_1.length co79, .slice Ao80 l1_2.length co80]) (t := 33) ?hr ?_; (case hd => rfl); (case hg => rfl); (case hr => (go_simp; done)); intro gb190 hg w81 hbox hb; have n0_ := Aside0.mk (Kd.R_below HO1_0.out hb); have n1_ := Aside0.mk (Kd.R_below HO1_1.out hb); have n2_ := Aside0.mk (Kd.R_below HO1_2.out hb); have n3_ := Aside0.mk (IsS112.below HI0.out hb); have n4_ := Aside0.mk (Kept.below (S := (fun k_ => (P1_0_ k_ ∨ P1_1_ k_ ∨ P1_2_ k_) ∨ k_ = g)) HK.out hb); have n5_ := Aside0.mk (below_step HB.out hb); have n6_ := Aside0.mk (hbox); have n7_ := Aside0.mk ((by rw [hg]; exact HK.out.1 : w.heap.size ≤ gb190)); have n8_ := Aside0.mk ((by rw [hg]; exact (below_size HB.out) : w0.heap.size ≤ gb190)); have n9_ := Aside0.mk ((by rw [hg]; exact Nat.ne_of_lt (IsS112.lt (show IsS112 w0 _ g s0_0 s0_1 s0_2 from by exact HI0.out)) : g ≠ gb190)); have n10_ := Aside0.mk ((by rw [hg]; exact Nat.ne_of_gt (IsS112.lt (show IsS112 w0 _ g s0_0 s0_1 s0_2 from by exact HI0.out)) : gb190 ≠ g)); clear HO1_0; clear HO1_1; clear HO1_2; clear HI0; clear HK; clear HB; have HO1_0 := n0_; have HO1_1 := n1_; have HO1_2 := n2_; have HI0 := n3_; have HK := n4_; have HB := n5_; have BK190 := n6_; have GW190 := n7_; have GE190 := n8_; have NB0_190 := n9_; have NB190_0 := n10_; clear n0_ n1_ n2_ n3_ n4_ n5_ n6_ n7_ n8_ n9_ n10_; clear hb hbox hg) | ((with_reducible refine gate_dst (N := 4) rfl ?_); refine box_event ?hg (N := 4) ?hd (cs := #[.slice none 0 0, .slice none 0 0, .slice none 0 0]) (t := 33) ?hr ?_; (case hd => rfl); (case hg => rfl); (case hr => (go_simp; done)); intro gb191 hg w82 hbox hb; have n0_ := Aside0.mk (Kd.R_below HO1_0.out hb); have n1_ := Aside0.mk (Kd.R_below HO1_1.out hb); have n2_ := Aside0.mk (Kd.R_below HO1_2.out hb); have n3_ := Aside0.mk (IsS112.below HI0.out hb); have n4_ := Aside0.mk (blk_below (g := gb190) (o := .cells #[.slice Ao78 l1_0.length co78, .slice Ao79 l1_1.length co79, .slice Ao80 l1_2.length co80] 33 (0, 0)) BK190.out hb); have n5_ := Aside0.mk (Kept.below (S := (fun k_ => (P1_0_ k_ ∨ P1_1_ k_ ∨ P1_2_ k_) ∨ k_ = g)) HK.out hb); have n6_ := Aside0.mk (below_step HB.out hb); have n7_ := Aside0.mk (hbox); have n8_ := Aside0.mk ((by rw [hg]; exact HK.out.1 : w.heap.size ≤ gb191)); have n9_ := Aside0.mk ((by rw [hg]; exact (below_size HB.out) : w0.heap.size ≤ gb191)); have n10_ := Aside0.mk ((by rw [hg]; exact Nat.ne_of_lt (blk_lt (g := gb190) (o := .cells #[.slice Ao78 l1_0.length co78, .slice Ao79 l1_1.length co79, .slice Ao80 l1_2.length co80] 33 (0, 0)) BK190.out) : gb190 ≠ gb191)); have n11_ := Aside0.mk ((by rw [hg]; exact Nat.ne_of_gt (blk_lt (g := gb190) (o := .cells #[.slice Ao78 l1_0.length co78, .slice Ao79 l1_1.length co79, .slice Ao80 l1_2.length co80] 33 (0, 0)) BK190.out) : gb191 ≠ gb190)); have n12_ := Aside0.mk ((by rw [hg]; exact Nat.ne_of_lt (IsS112.lt (show IsS112 w0 _ g s0_0 s0_1 s0_2 from by exact HI0.out)) : g ≠ gb191)); have n13_ := Aside0.mk ((by rw [hg]; exact Nat.ne_of_gt (IsS112.lt (show IsS112 w0 _ g s0_0 s0_1 s0_2 from by exact HI0.out)) : gb191 ≠ g)); clear HO1_0; clear HO1_1; clear HO1_2; clear HI0; clear BK190; clear HK; clear HB; have HO1_0 := n0_; have HO1_1 := n1_; have HO1_2 := n2_; have HI0 := n3_; have BK190 := n4_; have HK := n5_; have HB := n6_; have BK191 := n7_; have GW191 := n8_; have GE191 := n9_; have NB190_191 := n10_; have NB191_190 := n11_; have NB0_191 := n12_; have NB191_0 := n13_; clear n0_ n1_ n2_ n3_ n4_ n5_ n6_ n7_ n8_ n9_ n10_ n11_ n12_ n13_; clear hb hbox hg) | ((with_reducible refine gate_callee (f := 110) rfl ?_); refine goesL_ (some 6) rfl rfl Try.func110 (by kernel_rfl) rfl #[.pointer (some ⟨g, 0, none⟩), .int .i64 40] rfl (by (try simp only [List.map_toArray, List.map_cons, List.map_nil]); rfl) ?_; (with_reducible refine (spec_l01Next.calls g s0_0 s0_1 s0_2 40 t192 t193 t194 w0 _ ?side1 ?side2 A3.out).mono ?_); (case side1 => exact HI0.out); (case side2 => exact HB.out); rintro e w83 ⟨rfl, hi, hb, hk⟩; refine ⟨_, rfl, ?_⟩; have n0_ := Aside0.mk (Kd.R_mono (Kd.R_keep (IsS112.apart (show IsS112 w0 _ g s0_0 s0_1 s0_2 from by exact HI0.out) HO1_0.out (by decide)) hk (fun _ h => h.2)) (fun _ h => h.1)); have n1_ := Aside0.mk (Kd.R_mono (Kd.R_keep (IsS112.apart (show IsS112 w0 _ g s0_0 s0_1 s0_2 from by exact HI0.out) HO1_1.out (by decide)) hk (fun _ h => h.2)) (fun _ h => h.1)); have n2_ := Aside0.mk (Kd.R_mono (Kd.R_keep (IsS112.apart (show IsS112 w0 _ g s0_0 s0_1 s0_2 from by exact HI0.out) HO1_2.out (by decide)) hk (fun _ h => h.2)) (fun _ h => h.1)); have n3_ := Aside0.mk (KeepBut.blk hk (g' := gb190) (o := .cells #[.slice Ao78 l1_0.length co78, .slice Ao79 l1_1.length co79, .slice Ao80 l1_2.length co80] 33 (0, 0)) BK190.out NB190_0.out (by simp)); have n4_ := Aside0.mk (KeepBut.blk hk (g' := gb191) (o := .cells #[.slice none 0 0, .slice none 0 0, .slice none 0 0] 33 (0, 0)) BK191.out NB191_0.out (by simp)); have n5_ := Aside0.mk (Kept.of_keep (S := (fun k_ => (P1_0_ k_ ∨ P1_1_ k_ ∨ P1_2_ k_) ∨ k_ = g)) HK.out hk (.inl (.inr rfl))); have n6_ := Aside0.mk (hb); have n7_ := Aside0.mk (hi); clear HO1_0; clear HO1_1; clear HO1_2; clear BK190; clear BK191; clear HK; clear HB; clear HI0; have HO1_0 := n0_; have HO1_1 := n1_; have HO1_2 := n2_; have BK190 := n3_; have BK191 := n4_; have HK := n5_; have HB := n6_; have HI0 := n7_; clear n0_ n1_ n2_ n3_ n4_ n5_ n6_ n7_; (try clear hb); (try clear hb2); (try clear hk); (try clear hi); have hnb84 := NB190_191.out; have hnc84 := NB191_190.out; have hnb85 := NB190_0.out; have hnc85 := NB0_190.out; have hcz86_0 : w83.cell? ⟨gb190, 0, none⟩ = some (.slice Ao78 l1_0.length co78) := (blk_cell BK190.out 0).trans rfl; have hcz86_1 : w83.cell? ⟨gb190, 1, none⟩ = some (.slice Ao79 l1_1.length co79) := (blk_cell BK190.out 1).trans rfl; have hcz86_2 : w83.cell? ⟨gb190, 2, none⟩ = some (.slice Ao80 l1_2.length co80) := (blk_cell BK190.out 2).trans rfl; have hfz86_0 := blk_frozen BK190.out 0; have hfz86_1 := blk_frozen BK190.out 1; have hfz86_2 := blk_frozen BK190.out 2; have hnb87 := NB191_0.out; have hnc87 := NB0_191.out; have hcz88_0 : w83.cell? ⟨gb191, 0, none⟩ = some (.slice none 0 0) := (blk_cell BK191.out 0).trans rfl; have hcz88_1 : w83.cell? ⟨gb191, 1, none⟩ = some (.slice none 0 0) := (blk_cell BK191.out 1).trans rfl; have hcz88_2 : w83.cell? ⟨gb191, 2, none⟩ = some (.slice none 0 0) := (blk_cell BK191.out 2).trans rfl; have hfz88_0 := blk_frozen BK191.out 0; have hfz88_1 := blk_frozen BK191.out 1; have hfz88_2 := blk_frozen BK191.out 2))
   refine bodyPost_ret (results_cell_row rfl _ _ gb191 33 #[.slice Ao78 l1_0.length co78, .slice Ao79 l1_1.length co79, .slice Ao80 l1_2.length co80] (0, 0) _ rfl (by refine blk_put (cs := #[.slice Ao78 l1_0.length co78, .slice Ao79 l1_1.length co79, .slice none 0 0]) ?_ 2 _ rfl; refine blk_put (cs := #[.slice Ao78 l1_0.length co78, .slice none 0 0, .slice none 0 0]) ?_ 1 _ rfl; refine blk_put (cs := #[.slice none 0 0, .slice none 0 0, .slice none 0 0]) ?_ 0 _ rfl; exact BK191.out) Try.underlying33 rfl (by kernel_rfl)) rfl ?_
   exact ⟨_, _, _, by rfl, by exact Kd.R_mono (Kd.R_far (p := ⟨gb191, 2, none⟩) (Kd.R_far (p := ⟨gb191, 1, none⟩) (Kd.R_far (p := ⟨gb191, 0, none⟩) (Kd.R_types HO1_0.out BK191.out (by decide)) (fun _ hk => hk.2) (.slice Ao78 l1_0.length co78)) (fun _ hk => hk.2) (.slice Ao79 l1_1.length co79)) (fun _ hk => hk.2) (.slice Ao80 l1_2.length co80)) (fun _ hk => ⟨hk.1.1, ⟨hk.1.2.1, hk.1.2.2⟩⟩), by exact Kd.R_mono (Kd.R_far (p := ⟨gb191, 2, none⟩) (Kd.R_far (p := ⟨gb191, 1, none⟩) (Kd.R_far (p := ⟨gb191, 0, none⟩) (Kd.R_types HO1_1.out BK191.out (by decide)) (fun _ hk => hk.2) (.slice Ao78 l1_0.length co78)) (fun _ hk => hk.2) (.slice Ao79 l1_1.length co79)) (fun _ hk => hk.2) (.slice Ao80 l1_2.length co80)) (fun _ hk => ⟨hk.1.1, ⟨hk.1.2.1, hk.1.2.2⟩⟩), by exact Kd.R_mono (Kd.R_far (p := ⟨gb191, 2, none⟩) (Kd.R_far (p := ⟨gb191, 1, none⟩) (Kd.R_far (p := ⟨gb191, 0, none⟩) (Kd.R_types HO1_2.out BK191.out (by decide)) (fun _ hk => hk.2) (.slice Ao78 l1_0.length co78)) (fun _ hk => hk.2) (.slice Ao79 l1_1.length co79)) (fun _ hk => hk.2) (.slice Ao80 l1_2.length co80)) (fun _ hk => ⟨hk.1.1, ⟨hk.1.2.1, hk.1.2.2⟩⟩), by repeat (with_reducible first | exact HI0.out | refine IsS112.far ?_ NB0_191.out _), by repeat (with_reducible first | exact HB.out | refine below_set ?_ GE191.out), by repeat ((with_reducible first | exact HK.out | refine Kept.setCell ?_ (.inr GW191.out) _))⟩
 rw [if_pos c50] at H
 have c50b0 : (t192 == 2) = true := beq_iff_eq.mpr c50
 have c50b1 : (t192 != 2) = false := bne_eq_false_iff_eq.mpr c50
 clear c50
 replace H := Option.bind_eq_some_iff.mp H
 obtain ⟨t211, A510, H⟩ := H
 replace H : ((spec_l01Pick.f s0_0 t193 t194 (([0, 61] : List Int))).bind fun bt217 => (if 0 < (t211.length : Int) then (some (l1_0, l1_1, (t211.set (0 : Int).toNat bt217.1), bt217.2.1, bt217.2.2)) else (none))) = some (r1, r2, r3, r4, r5) := H
 have A51 := Aside0.mk A510
 clear A510
 obtain ⟨y214, hy214⟩ : ∃ y_ : List Int, y_ = (([0, 61] : List Int)) := ⟨_, rfl⟩
 replace H : ((spec_l01Pick.f s0_0 t193 t194 y214).bind fun bt217 => (if 0 < (t211.length : Int) then (some (l1_0, l1_1, (t211.set (0 : Int).toNat bt217.1), bt217.2.1, bt217.2.2)) else (none))) = some (r1, r2, r3, r4, r5) := by (rw [hy214]; with_reducible exact H)
 have Ny214 := Aside0.mk hy214
 clear hy214
 replace H := Option.bind_eq_some_iff.mp H
 obtain ⟨⟨t217, t218, t219⟩, A520, H⟩ := H
 replace H : (if 0 < (t211.length : Int) then (some (l1_0, l1_1, (t211.set (0 : Int).toNat t217), t218, t219)) else (none)) = some (r1, r2, r3, r4, r5) := H
 have A52 := Aside0.mk A520
 clear A520
 by_cases c53 : 0 < (t211.length : Int)
 rotate_left
 · rw [if_neg c53] at H
   exact absurd H (by simp)
 rw [if_pos c53] at H
 have c53b0 : decide (0 < (t211.length : Int)) = true := decide_eq_true c53
 have c53b1 : decide (0 < t211.length) = true := decide_eq_true (by omega)
 clear c53
 obtain ⟨y220, hy220⟩ : ∃ y_ : List Int, y_ = (t211.set (0 : Int).toNat t217) := ⟨_, rfl⟩
 replace H : (some (l1_0, l1_1, y220, t218, t219)) = some (r1, r2, r3, r4, r5) := by (rw [hy220]; with_reducible exact H)
 have Ny220 := Aside0.mk hy220
 clear hy220
 simp only [Option.some.injEq, Prod.mk.injEq] at H
 obtain ⟨rfl, rfl, rfl, rfl, rfl⟩ := H
 obtain ⟨Ao55, co55, eo55⟩ := Kd.R_slice HO1_0.out
 subst eo55
 obtain ⟨Ao56, co56, eo56⟩ := Kd.R_slice HO1_1.out
 subst eo56
 obtain ⟨Ao57, co57, eo57⟩ := Kd.R_slice HO1_2.out
 subst eo57
 go_enter Try.func104, Try.ntmps104
 try go_wp2_with (first | ((with_reducible refine gate_dst (N := 3) rfl ?_); refine box_event ?hg (N := 3) ?hd (cs := #[.slice Ao55 l1_0.length co55, .slice Ao56 l1_1.length co56, .slice Ao57 l1_2.length co57]) (t := 33) ?hr ?_; (case hd => rfl); (case hg => rfl); (case hr => (go_simp; done)); intro gb190 hg w58 hbox hb; have n0_ := Aside0.mk (Kd.R_below HO1_0.out hb); have n1_ := Aside0.mk (Kd.R_below HO1_1.out hb); have n2_ := Aside0.mk (Kd.R_below HO1_2.out hb); have n3_ := Aside0.mk (IsS112.below HI0.out hb); have n4_ := Aside0.mk (Kept.below (S := (fun k_ => (P1_0_ k_ ∨ P1_1_ k_ ∨ P1_2_ k_) ∨ k_ = g)) HK.out hb); have n5_ := Aside0.mk (below_step HB.out hb); have n6_ := Aside0.mk (hbox); have n7_ := Aside0.mk ((by rw [hg]; exact HK.out.1 : w.heap.size ≤ gb190)); have n8_ := Aside0.mk ((by rw [hg]; exact (below_size HB.out) : w0.heap.size ≤ gb190)); have n9_ := Aside0.mk ((by rw [hg]; exact Nat.ne_of_lt (IsS112.lt (show IsS112 w0 _ g s0_0 s0_1 s0_2 from by exact HI0.out)) : g ≠ gb190)); have n10_ := Aside0.mk ((by rw [hg]; exact Nat.ne_of_gt (IsS112.lt (show IsS112 w0 _ g s0_0 s0_1 s0_2 from by exact HI0.out)) : gb190 ≠ g)); clear HO1_0; clear HO1_1; clear HO1_2; clear HI0; clear HK; clear HB; have HO1_0 := n0_; have HO1_1 := n1_; have HO1_2 := n2_; have HI0 := n3_; have HK := n4_; have HB := n5_; have BK190 := n6_; have GW190 := n7_; have GE190 := n8_; have NB0_190 := n9_; have NB190_0 := n10_; clear n0_ n1_ n2_ n3_ n4_ n5_ n6_ n7_ n8_ n9_ n10_; clear hb hbox hg) | ((with_reducible refine gate_dst (N := 4) rfl ?_); refine box_event ?hg (N := 4) ?hd (cs := #[.slice none 0 0, .slice none 0 0, .slice none 0 0]) (t := 33) ?hr ?_; (case hd => rfl); (case hg => rfl); (case hr => (go_simp; done)); intro gb191 hg w59 hbox hb; have n0_ := Aside0.mk (Kd.R_below HO1_0.out hb); have n1_ := Aside0.mk (Kd.R_below HO1_1.out hb); have n2_ := Aside0.mk (Kd.R_below HO1_2.out hb); have n3_ := Aside0.mk (IsS112.below HI0.out hb); have n4_ := Aside0.mk (blk_below (g := gb190) (o := .cells #[.slice Ao55 l1_0.length co55, .slice Ao56 l1_1.length co56, .slice Ao57 l1_2.length co57] 33 (0, 0)) BK190.out hb); have n5_ := Aside0.mk (Kept.below (S := (fun k_ => (P1_0_ k_ ∨ P1_1_ k_ ∨ P1_2_ k_) ∨ k_ = g)) HK.out hb); have n6_ := Aside0.mk (below_step HB.out hb); have n7_ := Aside0.mk (hbox); have n8_ := Aside0.mk ((by rw [hg]; exact HK.out.1 : w.heap.size ≤ gb191)); have n9_ := Aside0.mk ((by rw [hg]; exact (below_size HB.out) : w0.heap.size ≤ gb191)); have n10_ := Aside0.mk ((by rw [hg]; exact Nat.ne_of_lt (blk_lt (g := gb190) (o := .cells #[.slice Ao55 l1_0.length co55, .slice Ao56 l1_1.length co56, .slice Ao57 l1_2.length co57] 33 (0, 0)) BK190.out) : gb190 ≠ gb191)); have n11_ := Aside0.mk ((by rw [hg]; exact Nat.ne_of_gt (blk_lt (g := gb190) (o := .cells #[.slice Ao55 l1_0.length co55, .slice Ao56 l1_1.length co56, .slice Ao57 l1_2.length co57] 33 (0, 0)) BK190.out) : gb191 ≠ gb190)); have n12_ := Aside0.mk ((by rw [hg]; exact Nat.ne_of_lt (IsS112.lt (show IsS112 w0 _ g s0_0 s0_1 s0_2 from by exact HI0.out)) : g ≠ gb191)); have n13_ := Aside0.mk ((by rw [hg]; exact Nat.ne_of_gt (IsS112.lt (show IsS112 w0 _ g s0_0 s0_1 s0_2 from by exact HI0.out)) : gb191 ≠ g)); clear HO1_0; clear HO1_1; clear HO1_2; clear HI0; clear BK190; clear HK; clear HB; have HO1_0 := n0_; have HO1_1 := n1_; have HO1_2 := n2_; have HI0 := n3_; have BK190 := n4_; have HK := n5_; have HB := n6_; have BK191 := n7_; have GW191 := n8_; have GE191 := n9_; have NB190_191 := n10_; have NB191_190 := n11_; have NB0_191 := n12_; have NB191_0 := n13_; clear n0_ n1_ n2_ n3_ n4_ n5_ n6_ n7_ n8_ n9_ n10_ n11_ n12_ n13_; clear hb hbox hg) | ((with_reducible refine gate_callee (f := 110) rfl ?_); refine goesL_ (some 6) rfl rfl Try.func110 (by kernel_rfl) rfl #[.pointer (some ⟨g, 0, none⟩), .int .i64 40] rfl (by (try simp only [List.map_toArray, List.map_cons, List.map_nil]); rfl) ?_; (with_reducible refine (spec_l01Next.calls g s0_0 s0_1 s0_2 40 t192 t193 t194 w0 _ ?side1 ?side2 A3.out).mono ?_); (case side1 => exact HI0.out); (case side2 => exact HB.out); rintro e w60 ⟨rfl, hi, hb, hk⟩; refine ⟨_, rfl, ?_⟩; have n0_ := Aside0.mk (Kd.R_mono (Kd.R_keep (IsS112.apart (show IsS112 w0 _ g s0_0 s0_1 s0_2 from by exact HI0.out) HO1_0.out (by decide)) hk (fun _ h => h.2)) (fun _ h => h.1)); have n1_ := Aside0.mk (Kd.R_mono (Kd.R_keep (IsS112.apart (show IsS112 w0 _ g s0_0 s0_1 s0_2 from by exact HI0.out) HO1_1.out (by decide)) hk (fun _ h => h.2)) (fun _ h => h.1)); have n2_ := Aside0.mk (Kd.R_mono (Kd.R_keep (IsS112.apart (show IsS112 w0 _ g s0_0 s0_1 s0_2 from by exact HI0.out) HO1_2.out (by decide)) hk (fun _ h => h.2)) (fun _ h => h.1)); have n3_ := Aside0.mk (KeepBut.blk hk (g' := gb190) (o := .cells #[.slice Ao55 l1_0.length co55, .slice Ao56 l1_1.length co56, .slice Ao57 l1_2.length co57] 33 (0, 0)) BK190.out NB190_0.out (by simp)); have n4_ := Aside0.mk (KeepBut.blk hk (g' := gb191) (o := .cells #[.slice none 0 0, .slice none 0 0, .slice none 0 0] 33 (0, 0)) BK191.out NB191_0.out (by simp)); have n5_ := Aside0.mk (Kept.of_keep (S := (fun k_ => (P1_0_ k_ ∨ P1_1_ k_ ∨ P1_2_ k_) ∨ k_ = g)) HK.out hk (.inl (.inr rfl))); have n6_ := Aside0.mk (hb); have n7_ := Aside0.mk (hi); clear HO1_0; clear HO1_1; clear HO1_2; clear BK190; clear BK191; clear HK; clear HB; clear HI0; have HO1_0 := n0_; have HO1_1 := n1_; have HO1_2 := n2_; have BK190 := n3_; have BK191 := n4_; have HK := n5_; have HB := n6_; have HI0 := n7_; clear n0_ n1_ n2_ n3_ n4_ n5_ n6_ n7_; (try clear hb); (try clear hb2); (try clear hk); (try clear hi); have hnb61 := NB190_191.out; have hnc61 := NB191_190.out; have hnb62 := NB190_0.out; have hnc62 := NB0_190.out; have hcz63_0 : w60.cell? ⟨gb190, 0, none⟩ = some (.slice Ao55 l1_0.length co55) := (blk_cell BK190.out 0).trans rfl; have hcz63_1 : w60.cell? ⟨gb190, 1, none⟩ = some (.slice Ao56 l1_1.length co56) := (blk_cell BK190.out 1).trans rfl; have hcz63_2 : w60.cell? ⟨gb190, 2, none⟩ = some (.slice Ao57 l1_2.length co57) := (blk_cell BK190.out 2).trans rfl; have hfz63_0 := blk_frozen BK190.out 0; have hfz63_1 := blk_frozen BK190.out 1; have hfz63_2 := blk_frozen BK190.out 2) | ((with_reducible refine gate_callee (f := 84) rfl ?_); refine goesL_ (some 31) rfl rfl Try.func84 (by kernel_rfl) rfl #[.slice Ao57 l1_2.length co57] rfl (by (try simp only [List.map_toArray, List.map_cons, List.map_nil]); rfl) ?_; (with_reducible refine (spec_l01Own.calls _ _ l1_2 t211 _ ?side1 ?side2 A51.out).mono ?_); (case side1 => exact (Kd.R_reads' HO1_2.out).2.2); (case side2 => exact (Kd.R_reads' HO1_2.out).2.1); rintro e w64 ⟨v212, rfl, ho0, hb⟩; refine ⟨_, rfl, ?_⟩; have n0_ := Aside0.mk (Kd.R_elder' HO1_0.out (Kd.R_base ho0) hb); have n1_ := Aside0.mk (Kd.R_elder' HO1_1.out (Kd.R_base ho0) hb); have n2_ := Aside0.mk (Kd.R_elder' HO1_2.out (Kd.R_base ho0) hb); have n3_ := Aside0.mk (Kd.R_lower (Kd.R_new' (Kd.R_new' (Kd.R_new' (Kd.R_newM (M := fun k_ => ((P1_0_ k_ ∨ P1_1_ k_ ∨ P1_2_ k_) ∨ w.heap.size ≤ k_)) ho0 HK.out.1 (fun k_ h_ => .inr h_)) (Kd.R_lt HO1_0.out)) (Kd.R_lt HO1_1.out)) (Kd.R_lt HO1_2.out)) (below_size HB.out)); have n4_ := Aside0.mk (IsS112.below HI0.out hb); have n5_ := Aside0.mk (blk_below (g := gb190) (o := .cells #[.slice Ao55 l1_0.length co55, .slice Ao56 l1_1.length co56, .slice Ao57 l1_2.length co57] 33 (0, 0)) BK190.out hb); have n6_ := Aside0.mk (blk_below (g := gb191) (o := .cells #[.slice none 0 0, .slice none 0 0, .slice none 0 0] 33 (0, 0)) BK191.out hb); have n7_ := Aside0.mk (Kept.below (S := (fun k_ => (P1_0_ k_ ∨ P1_1_ k_ ∨ P1_2_ k_) ∨ k_ = g)) HK.out hb); have n8_ := Aside0.mk (below_step HB.out hb); clear HO1_0; clear HO1_1; clear HO1_2; clear HI0; clear BK190; clear BK191; clear HK; clear HB; have HO1_0 := n0_; have HO1_1 := n1_; have HO1_2 := n2_; have HO213 := n3_; have HI0 := n4_; have BK190 := n5_; have BK191 := n6_; have HK := n7_; have HB := n8_; clear n0_ n1_ n2_ n3_ n4_ n5_ n6_ n7_ n8_; (try clear hb); (try clear hb2); (try clear hk); (try clear hi); (try clear ho0); obtain ⟨Ao65, co65, eo65⟩ := Kd.R_slice HO213.out; subst eo65; have hcz66_0 : w64.cell? ⟨gb190, 0, none⟩ = some (.slice Ao55 l1_0.length co55) := (blk_cell BK190.out 0).trans rfl; have hcz66_1 : w64.cell? ⟨gb190, 1, none⟩ = some (.slice Ao56 l1_1.length co56) := (blk_cell BK190.out 1).trans rfl; have hcz66_2 : w64.cell? ⟨gb190, 2, none⟩ = some (.slice Ao57 l1_2.length co57) := (blk_cell BK190.out 2).trans rfl; have hfz66_0 := blk_frozen BK190.out 0; have hfz66_1 := blk_frozen BK190.out 1; have hfz66_2 := blk_frozen BK190.out 2))
 have n0_ : Aside0 (Kd.R (Kd.int .i64) 2 (w64.setCell ⟨gb190, 2, none⟩ (.slice Ao65 t211.length co65)) w0.heap.size (fun k_ => ((P1_0_ k_ ∨ P1_1_ k_ ∨ P1_2_ k_) ∨ w.heap.size ≤ k_) ∧ some k_ ≠ (.slice Ao56 l1_1.length co56 : Value).ownBlock ∧ some k_ ≠ (.slice Ao57 l1_2.length co57 : Value).ownBlock ∧ some k_ ≠ (.slice Ao65 t211.length co65 : Value).ownBlock) (.slice Ao55 l1_0.length co55) l1_0) := ⟨by exact Kd.R_mono (Kd.R_far (p := ⟨gb190, 2, none⟩) (Kd.R_types HO1_0.out BK190.out (by decide)) (fun _ hk => hk.2) (.slice Ao65 t211.length co65)) (fun _ hk => ⟨hk.1.1.1, ⟨hk.1.1.2.1, ⟨hk.1.1.2.2, hk.1.2⟩⟩⟩)⟩
 have n1_ : Aside0 (Kd.R (Kd.int .i64) 2 (w64.setCell ⟨gb190, 2, none⟩ (.slice Ao65 t211.length co65)) w0.heap.size (fun k_ => ((P1_0_ k_ ∨ P1_1_ k_ ∨ P1_2_ k_) ∨ w.heap.size ≤ k_) ∧ some k_ ≠ (.slice Ao55 l1_0.length co55 : Value).ownBlock ∧ some k_ ≠ (.slice Ao57 l1_2.length co57 : Value).ownBlock ∧ some k_ ≠ (.slice Ao65 t211.length co65 : Value).ownBlock) (.slice Ao56 l1_1.length co56) l1_1) := ⟨by exact Kd.R_mono (Kd.R_far (p := ⟨gb190, 2, none⟩) (Kd.R_types HO1_1.out BK190.out (by decide)) (fun _ hk => hk.2) (.slice Ao65 t211.length co65)) (fun _ hk => ⟨hk.1.1.1, ⟨hk.1.1.2.1, ⟨hk.1.1.2.2, hk.1.2⟩⟩⟩)⟩
 have n2_ : Aside0 (Kd.R (Kd.int .i64) 2 (w64.setCell ⟨gb190, 2, none⟩ (.slice Ao65 t211.length co65)) w0.heap.size (fun k_ => ((P1_0_ k_ ∨ P1_1_ k_ ∨ P1_2_ k_) ∨ w.heap.size ≤ k_) ∧ some k_ ≠ (.slice Ao55 l1_0.length co55 : Value).ownBlock ∧ some k_ ≠ (.slice Ao56 l1_1.length co56 : Value).ownBlock ∧ some k_ ≠ (.slice Ao65 t211.length co65 : Value).ownBlock) (.slice Ao57 l1_2.length co57) l1_2) := ⟨by exact Kd.R_mono (Kd.R_far (p := ⟨gb190, 2, none⟩) (Kd.R_types HO1_2.out BK190.out (by decide)) (fun _ hk => hk.2) (.slice Ao65 t211.length co65)) (fun _ hk => ⟨hk.1.1.1, ⟨hk.1.1.2.1, ⟨hk.1.1.2.2, hk.1.2⟩⟩⟩)⟩
 have n3_ : Aside0 (Kd.R (Kd.int .i64) 2 (w64.setCell ⟨gb190, 2, none⟩ (.slice Ao65 t211.length co65)) w0.heap.size (fun k_ => ((P1_0_ k_ ∨ P1_1_ k_ ∨ P1_2_ k_) ∨ w.heap.size ≤ k_) ∧ some k_ ≠ (.slice Ao55 l1_0.length co55 : Value).ownBlock ∧ some k_ ≠ (.slice Ao56 l1_1.length co56 : Value).ownBlock ∧ some k_ ≠ (.slice Ao57 l1_2.length co57 : Value).ownBlock) (.slice Ao65 t211.length co65) t211) := ⟨by exact Kd.R_mono (Kd.R_far (p := ⟨gb190, 2, none⟩) (Kd.R_types HO213.out BK190.out (by decide)) (fun _ hk => hk.2) (.slice Ao65 t211.length co65)) (fun _ hk => ⟨hk.1.1.1.1.1, ⟨hk.1.1.1.2, ⟨hk.1.1.2, hk.1.2⟩⟩⟩)⟩
 have n4_ : Aside0 ((w64.setCell ⟨gb190, 2, none⟩ (.slice Ao65 t211.length co65)).heap[gb190]? = some (.cells #[.slice Ao55 l1_0.length co55, .slice Ao56 l1_1.length co56, .slice Ao65 t211.length co65] 33 (0, 0))) := ⟨by refine blk_put (cs := #[.slice Ao55 l1_0.length co55, .slice Ao56 l1_1.length co56, .slice Ao57 l1_2.length co57]) ?_ 2 _ rfl; exact BK190.out⟩
 have n5_ : Aside0 ((w64.setCell ⟨gb190, 2, none⟩ (.slice Ao65 t211.length co65)).heap[gb191]? = some (.cells #[.slice none 0 0, .slice none 0 0, .slice none 0 0] 33 (0, 0))) := ⟨by refine blk_far ?_ NB191_190.out _; exact BK191.out⟩
 have n6_ : Aside0 (IsS112 w0 (w64.setCell ⟨gb190, 2, none⟩ (.slice Ao65 t211.length co65)) g s0_0 t193 t194) := ⟨by repeat (with_reducible first | exact HI0.out | refine IsS112.far ?_ NB0_190.out _)⟩
 have n7_ : Aside0 (Kept w (w64.setCell ⟨gb190, 2, none⟩ (.slice Ao65 t211.length co65)) (fun k_ => (P1_0_ k_ ∨ P1_1_ k_ ∨ P1_2_ k_) ∨ k_ = g)) := ⟨by repeat ((with_reducible first | exact HK.out | refine Kept.setCell ?_ (.inr GW190.out) _))⟩
 have n8_ : Aside0 (Below w0.heap.size w0 (w64.setCell ⟨gb190, 2, none⟩ (.slice Ao65 t211.length co65))) := ⟨by repeat (with_reducible first | exact HB.out | refine below_set ?_ GE190.out)⟩
 (try clear HO1_0)
 (try clear HO1_1)
 (try clear HO1_2)
 (try clear HO213)
 (try clear BK190)
 (try clear BK191)
 (try clear HI0)
 (try clear HK)
 (try clear HB)
 generalize (w64.setCell ⟨gb190, 2, none⟩ (.slice Ao65 t211.length co65)) = w67 at n0_ n1_ n2_ n3_ n4_ n5_ n6_ n7_ n8_ ⊢
 have HO1_0 := n0_
 have HO1_1 := n1_
 have HO1_2 := n2_
 have HO213 := n3_
 have BK190 := n4_
 have BK191 := n5_
 have HI0 := n6_
 have HK := n7_
 have HB := n8_
 clear n0_ n1_ n2_ n3_ n4_ n5_ n6_ n7_ n8_
 have n0_ := Aside0.mk (Kd.R_drew HO1_0.out)
 have n1_ := Aside0.mk (Kd.R_drew HO1_1.out)
 have n2_ := Aside0.mk (Kd.R_drew HO1_2.out)
 have n3_ := Aside0.mk (Kd.R_drew HO213.out)
 have n4_ := Aside0.mk (blk_drew BK190.out)
 have n5_ := Aside0.mk (blk_drew BK191.out)
 have n6_ := Aside0.mk (IsS112.drew HI0.out)
 have n7_ := Aside0.mk (Kept.drew HK.out)
 have n8_ := Aside0.mk (below_drew1 HB.out)
 clear HO1_0
 clear HO1_1
 clear HO1_2
 clear HO213
 clear BK190
 clear BK191
 clear HI0
 clear HK
 clear HB
 have HO1_0 := n0_
 have HO1_1 := n1_
 have HO1_2 := n2_
 have HO213 := n3_
 have BK190 := n4_
 have BK191 := n5_
 have HI0 := n6_
 have HK := n7_
 have HB := n8_
 clear n0_ n1_ n2_ n3_ n4_ n5_ n6_ n7_ n8_
 refine start_ (n := 7) (S := fun w' => w'.cell? ⟨gb190, 0, none⟩ = some (.slice Ao55 l1_0.length co55) ∧ w'.cell? ⟨gb190, 1, none⟩ = some (.slice Ao56 l1_1.length co56) ∧ w'.cell? ⟨gb190, 2, none⟩ = some (.slice Ao65 t211.length co65)) (ds := [6]) #[false, false, false, false, false, false, false] (by kernel_rfl) rfl rfl ⟨(blk_cell BK190.out 0).trans rfl, (blk_cell BK190.out 1).trans rfl, (blk_cell BK190.out 2).trans rfl⟩ (fun hHeld => ?_)
 generalize w67.drew = w68 at HO1_0 HO1_1 HO1_2 HO213 BK190 BK191 HI0 HK HB hHeld ⊢
 refine pure_ (i := 0) (N := some 33) (v := ?_) (a' := ?_) #[true, false, false, false, false, false, false] rfl rfl (by kernel_rfl) (fun _ _ _ h => h) (Or.inl ⟨by rfl, ?_⟩) ?_ ?_
 rotate_left
 · intro w'
   go_simp
   with_reducible rfl
 rotate_left
 · simp only [Act.put, List.setIfInBounds_toArray, List.set_cons_zero, List.set_cons_succ, i64_w, i32_w]
   rfl
 refine pure_ (i := 2) (N := some 35) (v := ?_) (a' := ?_) #[true, false, true, false, false, false, false] rfl rfl (by kernel_rfl) (fun _ _ _ h => h) (Or.inl ⟨by rfl, ?_⟩) ?_ ?_
 rotate_left
 · intro w'
   go_simp
   with_reducible rfl
 rotate_left
 · simp only [Act.put, List.setIfInBounds_toArray, List.set_cons_zero, List.set_cons_succ, i64_w, i32_w]
   rfl
 refine take_ (i := 1) (N := some 34) (v := ?_) (a' := ?_) #[true, true, true, false, false, false, false] rfl rfl (by kernel_rfl) (fun _ _ _ h => h) (Or.inl ⟨by rfl, ?_⟩) hHeld ?_ ?_
 rotate_left
 · rintro w' ⟨s0, s1, s2⟩
   go_simp
   with_reducible rfl
 rotate_left
 · simp only [Act.put, List.setIfInBounds_toArray, List.set_cons_zero, List.set_cons_succ, i64_w, i32_w]
   rfl
 refine one_ (i := 3) (N := some 36) #[true, true, true, true, false, false, false] rfl rfl (by kernel_rfl) (by decide) (fun K hK => ?_)
 refine Kd.R_lit_step (Kd.int .i64) _ 2 ?hg (N := 36) ?hd (xs := ([0, 61] : List Int)) (inner := [.int .i64 0, .int .i64 61]) (ok := fun _ => True) (okp := fun _ => True) ?hr ?hp (fun _ hk => hk) trivial (Below.refl _ _) (Nat.le_refl _) (by simp) ?_; (case hd => rfl); (case hg => rfl); (case hr => (go_simp; done)); (case hp => exact (Reps.one (show Kd.M (Kd.int .i64) _ _ _ 0 [.int .i64 0] from rfl) (Reps.one (show Kd.M (Kd.int .i64) _ _ _ 61 [.int .i64 61] from rfl) (Reps.none _ _))))
 intro v215 w69 ho70 hb hg_ hnew_
 clear hg_ hnew_
 (rw [← Ny214.out] at ho70)
 have n0_ := Aside0.mk (Kd.R_elder' HO1_0.out (Kd.R_base ho70) hb)
 have n1_ := Aside0.mk (Kd.R_elder' HO1_1.out (Kd.R_base ho70) hb)
 have n2_ := Aside0.mk (Kd.R_elder' HO1_2.out (Kd.R_base ho70) hb)
 have n3_ := Aside0.mk (Kd.R_elder' HO213.out (Kd.R_base ho70) hb)
 have n4_ := Aside0.mk (Kd.R_lower (Kd.R_new' (Kd.R_new' (Kd.R_new' (Kd.R_new' (Kd.R_newM (M := fun k_ => ((P1_0_ k_ ∨ P1_1_ k_ ∨ P1_2_ k_) ∨ w.heap.size ≤ k_)) ho70 HK.out.1 (fun k_ h_ => .inr h_)) (Kd.R_lt HO1_0.out)) (Kd.R_lt HO1_1.out)) (Kd.R_lt HO1_2.out)) (Kd.R_lt HO213.out)) (below_size HB.out))
 have n5_ := Aside0.mk (IsS112.below HI0.out hb)
 have n6_ := Aside0.mk (blk_below (g := gb190) (o := .cells #[.slice Ao55 l1_0.length co55, .slice Ao56 l1_1.length co56, .slice Ao65 t211.length co65] 33 (0, 0)) BK190.out hb)
 have n7_ := Aside0.mk (blk_below (g := gb191) (o := .cells #[.slice none 0 0, .slice none 0 0, .slice none 0 0] 33 (0, 0)) BK191.out hb)
 have n8_ := Aside0.mk (Kept.below (S := (fun k_ => (P1_0_ k_ ∨ P1_1_ k_ ∨ P1_2_ k_) ∨ k_ = g)) HK.out hb)
 have n9_ := Aside0.mk (below_step HB.out hb)
 clear HO1_0
 clear HO1_1
 clear HO1_2
 clear HO213
 clear HI0
 clear BK190
 clear BK191
 clear HK
 clear HB
 have HO1_0 := n0_
 have HO1_1 := n1_
 have HO1_2 := n2_
 have HO213 := n3_
 have HO216 := n4_
 have HI0 := n5_
 have BK190 := n6_
 have BK191 := n7_
 have HK := n8_
 have HB := n9_
 clear n0_ n1_ n2_ n3_ n4_ n5_ n6_ n7_ n8_ n9_
 clear hb ho70
 obtain ⟨Ao71, co71, eo71⟩ := Kd.R_slice HO216.out
 (subst eo71)
 refine hK.out _ _ ⟨(blk_cell BK190.out 0).trans rfl, (blk_cell BK190.out 1).trans rfl, (blk_cell BK190.out 2).trans rfl⟩ (fun hHeld => ?_)
 clear hK K
 refine norm_ (a' := ?_) ?_ ?_
 rotate_left
 · show Act.put _ (some 36) _ = _
   simp only [Act.put, List.setIfInBounds_toArray, List.set_cons_zero, List.set_cons_succ, i64_w, i32_w]
   rfl
 refine one_ (i := 4) (N := some 37) #[true, true, true, true, true, false, false] rfl rfl (by kernel_rfl) (by decide) (fun K hK => ?_)
 refine goes_ Try.func79 (by kernel_rfl) rfl #[.pointer (some ⟨g, 0, none⟩), .slice Ao71 y214.length co71] (by rfl) rfl rfl (by (try simp only [List.map_toArray, List.map_cons, List.map_nil]); rfl) ?_
 with_reducible refine (spec_l01Pick.calls g s0_0 t193 t194 _ _ y214 t217 t218 t219 w0 _ ?side1 ?side2 ?side3 ?side4 ?side5 A52.out).mono ?_
 (case side1 => exact HI0.out)
 (case side2 => exact HB.out)
 (case side3 => exact (Kd.R_reads' HO216.out).2.2)
 (case side4 => exact (Kd.R_reads' HO216.out).2.1)
 (case side5 => exact far_slice (IsS112.own_ne HI0.out HO216.out (by decide)))
 rintro e w72 ⟨rfl, hi, hb, hk⟩
 refine ⟨_, rfl, ?_⟩
 have n0_ := Aside0.mk (Kd.R_mono (Kd.R_keep (IsS112.apart (show IsS112 w0 _ g s0_0 t193 t194 from by exact HI0.out) HO1_0.out (by decide)) hk (fun _ h => h.2)) (fun _ h => h.1))
 have n1_ := Aside0.mk (Kd.R_mono (Kd.R_keep (IsS112.apart (show IsS112 w0 _ g s0_0 t193 t194 from by exact HI0.out) HO1_1.out (by decide)) hk (fun _ h => h.2)) (fun _ h => h.1))
 have n2_ := Aside0.mk (Kd.R_mono (Kd.R_keep (IsS112.apart (show IsS112 w0 _ g s0_0 t193 t194 from by exact HI0.out) HO1_2.out (by decide)) hk (fun _ h => h.2)) (fun _ h => h.1))
 have n3_ := Aside0.mk (KeepBut.blk hk (g' := gb190) (o := .cells #[.slice Ao55 l1_0.length co55, .slice Ao56 l1_1.length co56, .slice Ao65 t211.length co65] 33 (0, 0)) BK190.out NB190_0.out (by simp))
 have n4_ := Aside0.mk (KeepBut.blk hk (g' := gb191) (o := .cells #[.slice none 0 0, .slice none 0 0, .slice none 0 0] 33 (0, 0)) BK191.out NB191_0.out (by simp))
 have n5_ := Aside0.mk (Kd.R_mono (Kd.R_keep (IsS112.apart (show IsS112 w0 _ g s0_0 t193 t194 from by exact HI0.out) HO213.out (by decide)) hk (fun _ h => h.2)) (fun _ h => h.1))
 have n6_ := Aside0.mk (Kd.R_mono (Kd.R_keep (IsS112.apart (show IsS112 w0 _ g s0_0 t193 t194 from by exact HI0.out) HO216.out (by decide)) hk (fun _ h => h.2)) (fun _ h => h.1))
 have n7_ := Aside0.mk (Kept.of_keep (S := (fun k_ => (P1_0_ k_ ∨ P1_1_ k_ ∨ P1_2_ k_) ∨ k_ = g)) HK.out hk (.inl (.inr rfl)))
 have n8_ := Aside0.mk (hb)
 have n9_ := Aside0.mk (hi)
 clear HO1_0
 clear HO1_1
 clear HO1_2
 clear BK190
 clear BK191
 clear HO213
 clear HO216
 clear HK
 clear HB
 clear HI0
 have HO1_0 := n0_
 have HO1_1 := n1_
 have HO1_2 := n2_
 have BK190 := n3_
 have BK191 := n4_
 have HO213 := n5_
 have HO216 := n6_
 have HK := n7_
 have HB := n8_
 have HI0 := n9_
 clear n0_ n1_ n2_ n3_ n4_ n5_ n6_ n7_ n8_ n9_
 (try clear hb)
 (try clear hb2)
 (try clear hk)
 (try clear hi)
 have p54 : 0 ≤ (0 : Int) := (by omega)
 have q54 : (0 : Int) < ((t211.length : Int) : Int) := of_decide_eq_true (by (with_reducible assumption))
 have qi54 : (0 < t211.length) = True := eq_true (by omega)
 obtain ⟨go54, co54, eo54, gb54, gl54, cl54, HG54⟩ := Kd.R_form HO213.out (by omega)
 (cases eo54)
 have GB54 := Aside0.mk gb54
 have GG54 := Aside0.mk HG54
 clear gb54 gl54 HG54
 have HMgo54 := Aside0.mk (show ((P1_0_ go54 ∨ P1_1_ go54 ∨ P1_2_ go54) ∨ w.heap.size ≤ go54) from (HO213.out.1 _ rfl).1.1)
 obtain ⟨hx54_0, hf54_0⟩ := Kd.R_celln 0 HO213.out (0 : Int) p54 q54
 (try rw [show ((0 : Int)).toNat = 0 from rfl] at hx54_0)
 (try simp only [Nat.reduceMul, Nat.zero_mul, Nat.zero_add, Nat.reduceAdd] at hx54_0)
 (try rw [show ((0 : Int)).toNat = 0 from rfl] at hf54_0)
 (try simp only [Nat.reduceMul, Nat.zero_mul, Nat.zero_add, Nat.reduceAdd] at hf54_0)
 replace p54 := eq_true p54
 replace q54 := eq_true q54
 have HN0_go54 := Aside0.mk (show g ≠ go54 from by have h_ := IsS112.own_ne HI0.out HO213.out (by decide); intro e_; exact h_ (by rw [e_]; rfl))
 have HP73 := Kd.R_putn HO213.out (0 : Int) t217
 rw [← Ny220.out] at HP73
 have HQ73 := Aside0.mk HP73
 clear HP73
 refine hK.out _ _ ⟨(blk_cell BK190.out 0).trans rfl, (blk_cell BK190.out 1).trans rfl, (blk_cell BK190.out 2).trans rfl⟩ (fun hHeld => ?_)
 clear hK K
 refine norm_ (a' := ?_) ?_ ?_
 rotate_left
 · show Act.put _ (some 37) _ = _
   simp only [Act.put, List.setIfInBounds_toArray, List.set_cons_zero, List.set_cons_succ, i64_w, i32_w]
   rfl
 refine pure_ (i := 5) (N := some 38) (v := ?_) (a' := ?_) #[true, true, true, true, true, true, false] rfl rfl (by kernel_rfl) (fun _ _ _ h => h) (Or.inl ⟨by rfl, ?_⟩) ?_ ?_
 rotate_left
 · intro w'
   go_simp
   with_reducible rfl
 rotate_left
 · simp only [Act.put, List.setIfInBounds_toArray, List.set_cons_zero, List.set_cons_succ, i64_w, i32_w]
   rfl
 refine last_ (i := 6) (N := none) #[true, true, true, true, true, true, true] rfl rfl (by kernel_rfl) (by decide) (fun K hK => ?_)
 refine skip_ (w1 := ?_) (by rfl) rfl ?_ ?_
 rotate_left
 · go_simp
   rfl
 refine hK.out _ _ ?_
 clear hK K
 refine done_ (by kernel_rfl) ?_
 have n0_ : Aside0 (Kd.R (Kd.int .i64) 2 (w72.setCell ⟨go54, 0, none⟩ (.int .i64 t217)) w0.heap.size (fun k_ => ((P1_0_ k_ ∨ P1_1_ k_ ∨ P1_2_ k_) ∨ w.heap.size ≤ k_) ∧ some k_ ≠ (.slice Ao56 l1_1.length co56 : Value).ownBlock ∧ some k_ ≠ (.slice Ao57 l1_2.length co57 : Value).ownBlock ∧ some k_ ≠ (.slice (some ⟨go54, 0, none⟩) t211.length co65 : Value).ownBlock ∧ some k_ ≠ (.slice Ao71 y214.length co71 : Value).ownBlock) (.slice Ao55 l1_0.length co55) l1_0) := ⟨by exact Kd.R_mono (Kd.R_far (p := ⟨go54, 0, none⟩) (Kd.R_mono HO1_0.out (fun k_ hk => (⟨hk, fun e_ => hk.1.2.2.2 (by rw [e_]; rfl)⟩ : _ ∧ k_ ≠ go54))) (fun _ hk => hk.2) (.int .i64 t217)) (fun _ hk => ⟨hk.1.1.1, ⟨hk.1.1.2.1, ⟨hk.1.1.2.2.1, ⟨hk.1.1.2.2.2, hk.1.2⟩⟩⟩⟩)⟩
 have n1_ : Aside0 (Kd.R (Kd.int .i64) 2 (w72.setCell ⟨go54, 0, none⟩ (.int .i64 t217)) w0.heap.size (fun k_ => ((P1_0_ k_ ∨ P1_1_ k_ ∨ P1_2_ k_) ∨ w.heap.size ≤ k_) ∧ some k_ ≠ (.slice Ao55 l1_0.length co55 : Value).ownBlock ∧ some k_ ≠ (.slice Ao57 l1_2.length co57 : Value).ownBlock ∧ some k_ ≠ (.slice (some ⟨go54, 0, none⟩) t211.length co65 : Value).ownBlock ∧ some k_ ≠ (.slice Ao71 y214.length co71 : Value).ownBlock) (.slice Ao56 l1_1.length co56) l1_1) := ⟨by exact Kd.R_mono (Kd.R_far (p := ⟨go54, 0, none⟩) (Kd.R_mono HO1_1.out (fun k_ hk => (⟨hk, fun e_ => hk.1.2.2.2 (by rw [e_]; rfl)⟩ : _ ∧ k_ ≠ go54))) (fun _ hk => hk.2) (.int .i64 t217)) (fun _ hk => ⟨hk.1.1.1, ⟨hk.1.1.2.1, ⟨hk.1.1.2.2.1, ⟨hk.1.1.2.2.2, hk.1.2⟩⟩⟩⟩)⟩
 have n2_ : Aside0 (Kd.R (Kd.int .i64) 2 (w72.setCell ⟨go54, 0, none⟩ (.int .i64 t217)) w0.heap.size (fun k_ => ((P1_0_ k_ ∨ P1_1_ k_ ∨ P1_2_ k_) ∨ w.heap.size ≤ k_) ∧ some k_ ≠ (.slice Ao55 l1_0.length co55 : Value).ownBlock ∧ some k_ ≠ (.slice Ao56 l1_1.length co56 : Value).ownBlock ∧ some k_ ≠ (.slice (some ⟨go54, 0, none⟩) t211.length co65 : Value).ownBlock ∧ some k_ ≠ (.slice Ao71 y214.length co71 : Value).ownBlock) (.slice Ao57 l1_2.length co57) l1_2) := ⟨by exact Kd.R_mono (Kd.R_far (p := ⟨go54, 0, none⟩) (Kd.R_mono HO1_2.out (fun k_ hk => (⟨hk, fun e_ => hk.1.2.2.2 (by rw [e_]; rfl)⟩ : _ ∧ k_ ≠ go54))) (fun _ hk => hk.2) (.int .i64 t217)) (fun _ hk => ⟨hk.1.1.1, ⟨hk.1.1.2.1, ⟨hk.1.1.2.2.1, ⟨hk.1.1.2.2.2, hk.1.2⟩⟩⟩⟩)⟩
 have n3_ : Aside0 (Kd.R (Kd.int .i64) 2 (w72.setCell ⟨go54, 0, none⟩ (.int .i64 t217)) w0.heap.size (fun k_ => ((P1_0_ k_ ∨ P1_1_ k_ ∨ P1_2_ k_) ∨ w.heap.size ≤ k_) ∧ some k_ ≠ (.slice Ao55 l1_0.length co55 : Value).ownBlock ∧ some k_ ≠ (.slice Ao56 l1_1.length co56 : Value).ownBlock ∧ some k_ ≠ (.slice Ao57 l1_2.length co57 : Value).ownBlock ∧ some k_ ≠ (.slice Ao71 y214.length co71 : Value).ownBlock) (.slice (some ⟨go54, 0, none⟩) t211.length co65) y220) := ⟨by exact Kd.R_mono HQ73.out (fun _ hk => ⟨hk.1.1, ⟨hk.1.2.1, ⟨hk.1.2.2.1, ⟨hk.1.2.2.2, hk.2⟩⟩⟩⟩)⟩
 have n4_ : Aside0 (Kd.R (Kd.int .i64) 2 (w72.setCell ⟨go54, 0, none⟩ (.int .i64 t217)) w0.heap.size (fun k_ => ((P1_0_ k_ ∨ P1_1_ k_ ∨ P1_2_ k_) ∨ w.heap.size ≤ k_) ∧ some k_ ≠ (.slice Ao55 l1_0.length co55 : Value).ownBlock ∧ some k_ ≠ (.slice Ao56 l1_1.length co56 : Value).ownBlock ∧ some k_ ≠ (.slice Ao57 l1_2.length co57 : Value).ownBlock ∧ some k_ ≠ (.slice (some ⟨go54, 0, none⟩) t211.length co65 : Value).ownBlock) (.slice Ao71 y214.length co71) y214) := ⟨by exact Kd.R_mono (Kd.R_far (p := ⟨go54, 0, none⟩) (Kd.R_mono HO216.out (fun k_ hk => (⟨hk, fun e_ => hk.2 (by rw [e_]; rfl)⟩ : _ ∧ k_ ≠ go54))) (fun _ hk => hk.2) (.int .i64 t217)) (fun _ hk => ⟨hk.1.1.1.1.1.1, ⟨hk.1.1.1.1.2, ⟨hk.1.1.1.2, ⟨hk.1.1.2, hk.1.2⟩⟩⟩⟩)⟩
 have n5_ : Aside0 ((w72.setCell ⟨go54, 0, none⟩ (.int .i64 t217)).heap[gb190]? = some (.cells #[.slice Ao55 l1_0.length co55, .slice Ao56 l1_1.length co56, .slice (some ⟨go54, 0, none⟩) t211.length co65] 33 (0, 0))) := ⟨by refine blk_far ?_ (by have h_ := Kd.R_ne HO213.out BK190.out (by decide); intro e_; exact h_ (by rw [e_]; rfl)) _; exact BK190.out⟩
 have n6_ : Aside0 ((w72.setCell ⟨go54, 0, none⟩ (.int .i64 t217)).heap[gb191]? = some (.cells #[.slice none 0 0, .slice none 0 0, .slice none 0 0] 33 (0, 0))) := ⟨by refine blk_far ?_ (by have h_ := Kd.R_ne HO213.out BK191.out (by decide); intro e_; exact h_ (by rw [e_]; rfl)) _; exact BK191.out⟩
 have n7_ : Aside0 (IsS112 w0 (w72.setCell ⟨go54, 0, none⟩ (.int .i64 t217)) g s0_0 t218 t219) := ⟨by repeat (with_reducible first | exact HI0.out | refine IsS112.far ?_ HN0_go54.out _)⟩
 have n8_ : Aside0 (Kept w (w72.setCell ⟨go54, 0, none⟩ (.int .i64 t217)) (fun k_ => (P1_0_ k_ ∨ P1_1_ k_ ∨ P1_2_ k_) ∨ k_ = g)) := ⟨by repeat ((with_reducible first | exact HK.out | refine Kept.setCell ?_ (Or.imp_left Or.inl HMgo54.out) _))⟩
 have n9_ : Aside0 (Below w0.heap.size w0 (w72.setCell ⟨go54, 0, none⟩ (.int .i64 t217))) := ⟨by repeat (with_reducible first | exact HB.out | refine below_set ?_ GB54.out)⟩
 (try clear HO1_0)
 (try clear HO1_1)
 (try clear HO1_2)
 (try clear HO213)
 (try clear HO216)
 (try clear BK190)
 (try clear BK191)
 (try clear HI0)
 (try clear HK)
 (try clear HB)
 generalize (w72.setCell ⟨go54, 0, none⟩ (.int .i64 t217)) = w74 at n0_ n1_ n2_ n3_ n4_ n5_ n6_ n7_ n8_ n9_ ⊢
 have HO1_0 := n0_
 have HO1_1 := n1_
 have HO1_2 := n2_
 have HO213 := n3_
 have HO216 := n4_
 have BK190 := n5_
 have BK191 := n6_
 have HI0 := n7_
 have HK := n8_
 have HB := n9_
 clear n0_ n1_ n2_ n3_ n4_ n5_ n6_ n7_ n8_ n9_
 have hcz75_0 : w74.cell? ⟨gb190, 0, none⟩ = some (.slice Ao55 l1_0.length co55) := (blk_cell BK190.out 0).trans rfl
 have hcz75_1 : w74.cell? ⟨gb190, 1, none⟩ = some (.slice Ao56 l1_1.length co56) := (blk_cell BK190.out 1).trans rfl
 have hcz75_2 : w74.cell? ⟨gb190, 2, none⟩ = some (.slice (some ⟨go54, 0, none⟩) t211.length co65) := (blk_cell BK190.out 2).trans rfl
 have hfz75_0 := blk_frozen BK190.out 0
 have hfz75_1 := blk_frozen BK190.out 1
 have hfz75_2 := blk_frozen BK190.out 2
 have hnb76 := NB191_0.out
 have hnc76 := NB0_191.out
 have hcz77_0 : w74.cell? ⟨gb191, 0, none⟩ = some (.slice none 0 0) := (blk_cell BK191.out 0).trans rfl
 have hcz77_1 : w74.cell? ⟨gb191, 1, none⟩ = some (.slice none 0 0) := (blk_cell BK191.out 1).trans rfl
 have hcz77_2 : w74.cell? ⟨gb191, 2, none⟩ = some (.slice none 0 0) := (blk_cell BK191.out 2).trans rfl
 have hfz77_0 := blk_frozen BK191.out 0
 have hfz77_1 := blk_frozen BK191.out 1
 have hfz77_2 := blk_frozen BK191.out 2
 try go_wp2
 refine bodyPost_ret (results_cell_row rfl _ _ gb191 33 #[.slice Ao55 l1_0.length co55, .slice Ao56 l1_1.length co56, .slice (some ⟨go54, 0, none⟩) t211.length co65] (0, 0) _ rfl (by refine blk_put (cs := #[.slice Ao55 l1_0.length co55, .slice Ao56 l1_1.length co56, .slice none 0 0]) ?_ 2 _ rfl; refine blk_put (cs := #[.slice Ao55 l1_0.length co55, .slice none 0 0, .slice none 0 0]) ?_ 1 _ rfl; refine blk_put (cs := #[.slice none 0 0, .slice none 0 0, .slice none 0 0]) ?_ 0 _ rfl; exact BK191.out) Try.underlying33 rfl (by kernel_rfl)) rfl ?_
 exact ⟨_, _, _, by rfl, by exact Kd.R_mono (Kd.R_far (p := ⟨gb191, 2, none⟩) (Kd.R_far (p := ⟨gb191, 1, none⟩) (Kd.R_far (p := ⟨gb191, 0, none⟩) (Kd.R_types HO1_0.out BK191.out (by decide)) (fun _ hk => hk.2) (.slice Ao55 l1_0.length co55)) (fun _ hk => hk.2) (.slice Ao56 l1_1.length co56)) (fun _ hk => hk.2) (.slice (some ⟨go54, 0, none⟩) t211.length co65)) (fun _ hk => ⟨hk.1.1, ⟨hk.1.2.1, hk.1.2.2.2.1⟩⟩), by exact Kd.R_mono (Kd.R_far (p := ⟨gb191, 2, none⟩) (Kd.R_far (p := ⟨gb191, 1, none⟩) (Kd.R_far (p := ⟨gb191, 0, none⟩) (Kd.R_types HO1_1.out BK191.out (by decide)) (fun _ hk => hk.2) (.slice Ao55 l1_0.length co55)) (fun _ hk => hk.2) (.slice Ao56 l1_1.length co56)) (fun _ hk => hk.2) (.slice (some ⟨go54, 0, none⟩) t211.length co65)) (fun _ hk => ⟨hk.1.1, ⟨hk.1.2.1, hk.1.2.2.2.1⟩⟩), by exact Kd.R_mono (Kd.R_far (p := ⟨gb191, 2, none⟩) (Kd.R_far (p := ⟨gb191, 1, none⟩) (Kd.R_far (p := ⟨gb191, 0, none⟩) (Kd.R_types HO213.out BK191.out (by decide)) (fun _ hk => hk.2) (.slice Ao55 l1_0.length co55)) (fun _ hk => hk.2) (.slice Ao56 l1_1.length co56)) (fun _ hk => hk.2) (.slice (some ⟨go54, 0, none⟩) t211.length co65)) (fun _ hk => ⟨hk.1.1, ⟨hk.1.2.1, hk.1.2.2.1⟩⟩), by repeat (with_reducible first | exact HI0.out | refine IsS112.far ?_ NB0_191.out _), by repeat (with_reducible first | exact HB.out | refine below_set ?_ GE191.out), by repeat ((with_reducible first | exact HK.out | refine Kept.setCell ?_ (.inr GW191.out) _))⟩
end Go.Proofs.Ytoakdilhljnjfaa.Q
namespace Go.Proofs.Ytoakdilhljnjfaa.Q
open Go.RowKit Go.Proofs.YtoakdilhljnjfaaW.PrintWords Go.Proofs.YtoakdilhljnjfaaW.PrintLast Go.Proofs.YtoakdilhljnjfaaW.PrintMore
attribute [local go_sem] max2_int min2_int max_two min_two max_three min_three max_four min_four   -- for this text's walks alone
set_option linter.unusedVariables false
set_option linter.unusedSimpArgs false
abbrev bQ105_0 : Array Bool := #[false, false, false, false, false, false, false, false, false, false]
abbrev bQ105_1 : Array Bool := #[true, false, false, false, false, false, false, false, false, false]
abbrev bQ105_2 : Array Bool := #[true, true, false, false, false, false, false, false, false, false]
abbrev bQ105_3 : Array Bool := #[true, true, true, false, false, false, false, false, false, false]
abbrev bQ105_4 : Array Bool := #[true, true, true, false, true, false, false, false, false, false]
abbrev bQ105_5 : Array Bool := #[true, true, true, false, true, true, false, false, false, false]
abbrev bQ105_6 : Array Bool := #[true, true, true, true, true, true, false, false, false, false]
abbrev bQ105_7 : Array Bool := #[true, true, true, true, true, true, true, false, false, false]
abbrev bQ105_8 : Array Bool := #[true, true, true, true, true, true, true, true, false, false]
abbrev bQ105_9 : Array Bool := #[true, true, true, true, true, true, true, true, true, false]
abbrev bQ105_10 : Array Bool := #[true, true, true, true, true, true, true, true, true, true]
def spec_l04DrawOf.l0 : Nat → Int → Int → List Int → Int → Int → List Int → List Int → List Int → Option (List Int × List Int × List Int × Int × Int)
 | 0, _, _, _, _, _, _, _, _ => none
 | k + 1, x4, x5, x1000, x1001, x1002, x232000, x232001, x232002 => if x5 > 0 then ((some (([2, 3, 4, 6, 8, 12, 5, 10, 15] : List Int) : List Int)).bind fun y241 => ((spec_l01Next.f x1000 x1001 x1002 x4).bind fun bt244 => (if 0 ≤ bt244.1 then (if bt244.1 < (y241.length : Int) then ((spec_l01Next.f x1000 bt244.2.1 bt244.2.2 (mx (wrap64 (Int.tdiv (rd y241 bt244.1) 3)) 1)).bind fun bt248 => ((spec_l01Next.f x1000 bt248.2.1 bt248.2.2 3).bind fun bt251 => (if bt251.1 = 0 then ((spec_l01Next.f x1000 bt251.2.1 bt251.2.2 (rd y241 bt244.1)).bind fun bt254 => (if x232000.length < 17592186044416 then (if x232001.length < 17592186044416 then (if x232002.length < 17592186044416 then (spec_l04DrawOf.l0 k x4 (wrap64 (x5 - 1)) x1000 bt254.2.1 bt254.2.2 (x232000 ++ [wrap64 (1 + bt248.1)]) (x232001 ++ [rd y241 bt244.1]) (x232002 ++ [mn (wrap64 ((wrap64 (1 + bt248.1)) + bt254.1)) (rd y241 bt244.1)])) else (none)) else (none)) else (none))) else (if x232000.length < 17592186044416 then (if x232001.length < 17592186044416 then (if x232002.length < 17592186044416 then (spec_l04DrawOf.l0 k x4 (wrap64 (x5 - 1)) x1000 bt251.2.1 bt251.2.2 (x232000 ++ [wrap64 (1 + bt248.1)]) (x232001 ++ [rd y241 bt244.1]) (x232002 ++ [rd y241 bt244.1])) else (none)) else (none)) else (none))))) else (none)) else (none)))) else ((spec_l01Next.f x1000 x1001 x1002 20).bind fun bt275 => (if bt275.1 = 0 then ((spec_l01Pick.f x1000 bt275.2.1 bt275.2.2 (([59, 60, 37] : List Int))).bind fun bt281 => (if 0 < (x232001.length : Int) then ((some (x232001.set (0 : Int).toNat bt281.1 : List Int)).bind fun y284 => (if 0 < (x232002.length : Int) then (some (x232000, y284, (x232002.set (0 : Int).toNat (mn (rd x232002 0) (rd y284 0))), bt281.2.1, bt281.2.2)) else (none))) else (none))) else (some (x232000, x232001, x232002, bt275.2.1, bt275.2.2))))
def spec_l04DrawOf.f (k : Nat) (s0_0 : List Int) (s0_1 : Int) (s0_2 : Int) : Option (List Int × List Int × List Int × Int × Int) := (spec_l01Pick.f s0_0 s0_1 s0_2 (([3, 6, 6, 9] : List Int))).bind fun bt235 => ((spec_l01Next.f s0_0 bt235.2.1 bt235.2.2 4).bind fun bt238 => (spec_l04DrawOf.l0 k bt235.1 (wrap64 (1 + bt238.1)) s0_0 bt238.2.1 bt238.2.2 (([] : List Int)) (([] : List Int)) (([] : List Int))))
def spec_l04DrawOf.T17 : Bool × List (List Nat × List Nat) := (true, [([], []), ([], []), ([1], [1]), ([2], [2]), ([], []), ([4], [4]), ([5], [5]), ([3, 6], [3, 6]), ([0, 0, 1, 2, 3, 4, 5, 6, 7], [0]), ([8, 7, 0, 1, 2, 3, 4, 5, 6, 7], [7, 8])])
def spec_l04DrawOf.B17 : List Nat := [0, 0, 2, 6, 0, 16, 48, 126, 255, 511]
theorem spec_l04DrawOf.tab17 : rtab .any (opsOf Try.f105 17) = spec_l04DrawOf.T17 := by kernel_rfl
theorem spec_l04DrawOf.bits17 : waitsOk spec_l04DrawOf.T17.2 spec_l04DrawOf.B17 = true := by kernel_rfl
set_option maxHeartbeats 8000000 in
set_option maxRecDepth 100000 in
theorem spec_l04DrawOf.calls (k : Nat) (g : Nat) (s0_0 : List Int) (s0_1 : Int) (s0_2 : Int) (r1 : List Int) (r2 : List Int) (r3 : List Int) (r4 : Int) (r5 : Int) (w0 w : World) (hI : IsS112 w0 w g s0_0 s0_1 s0_2) (hB : Below w0.heap.size w0 w) (h : spec_l04DrawOf.f k s0_0 s0_1 s0_2 = some (r1, r2, r3, r4, r5)) :
 Calls Try.prog 105 #[.pointer (some ⟨g, 0, none⟩)] w fun e w' => ∃ v0_ v1_ v2_ : Value, e = .returned (.agg #[v0_, v1_, v2_]) ∧ Kd.R (Kd.int .i64) 2 w' w.heap.size (fun k_ => some k_ ≠ (v1_ : Value).ownBlock ∧ some k_ ≠ (v2_ : Value).ownBlock) v0_ r1 ∧ Kd.R (Kd.int .i64) 2 w' w.heap.size (fun k_ => some k_ ≠ (v0_ : Value).ownBlock ∧ some k_ ≠ (v2_ : Value).ownBlock) v1_ r2 ∧ Kd.R (Kd.int .i64) 2 w' w.heap.size (fun k_ => some k_ ≠ (v0_ : Value).ownBlock ∧ some k_ ≠ (v1_ : Value).ownBlock) v2_ r3 ∧ IsS112 w0 w' g s0_0 r4 r5 ∧ Below w0.heap.size w0 w' ∧ KeepBut w w' g none := by
 have hu33 := Try.underlying33
 have HI0 := Aside0.mk hI
 have HK := Aside0.mk (KeepBut.refl w g none)
 have HL := Aside0.mk hB.size
 clear hI
 have HW0 := Aside0.mk hB.size
 have HB := Aside0.mk hB
 clear hB
 have H : ((spec_l01Pick.f s0_0 s0_1 s0_2 (([3, 6, 6, 9] : List Int))).bind fun bt235 => ((spec_l01Next.f s0_0 bt235.2.1 bt235.2.2 4).bind fun bt238 => (spec_l04DrawOf.l0 k bt235.1 (wrap64 (1 + bt238.1)) s0_0 bt238.2.1 bt238.2.2 (([] : List Int)) (([] : List Int)) (([] : List Int))))) = some (r1, r2, r3, r4, r5) := h
 clear h
 obtain ⟨y222, hy222⟩ : ∃ y_ : List Int, y_ = (([] : List Int)) := ⟨_, rfl⟩
 replace H : ((spec_l01Pick.f s0_0 s0_1 s0_2 (([3, 6, 6, 9] : List Int))).bind fun bt235 => ((spec_l01Next.f s0_0 bt235.2.1 bt235.2.2 4).bind fun bt238 => (spec_l04DrawOf.l0 k bt235.1 (wrap64 (1 + bt238.1)) s0_0 bt238.2.1 bt238.2.2 y222 (([] : List Int)) (([] : List Int))))) = some (r1, r2, r3, r4, r5) := by (rw [hy222]; with_reducible exact H)
 have Ny222 := Aside0.mk hy222
 clear hy222
 obtain ⟨y225, hy225⟩ : ∃ y_ : List Int, y_ = (([] : List Int)) := ⟨_, rfl⟩
 replace H : ((spec_l01Pick.f s0_0 s0_1 s0_2 (([3, 6, 6, 9] : List Int))).bind fun bt235 => ((spec_l01Next.f s0_0 bt235.2.1 bt235.2.2 4).bind fun bt238 => (spec_l04DrawOf.l0 k bt235.1 (wrap64 (1 + bt238.1)) s0_0 bt238.2.1 bt238.2.2 y222 y225 (([] : List Int))))) = some (r1, r2, r3, r4, r5) := by (rw [hy225]; with_reducible exact H)
 have Ny225 := Aside0.mk hy225
 clear hy225
 obtain ⟨y228, hy228⟩ : ∃ y_ : List Int, y_ = (([] : List Int)) := ⟨_, rfl⟩
 replace H : ((spec_l01Pick.f s0_0 s0_1 s0_2 (([3, 6, 6, 9] : List Int))).bind fun bt235 => ((spec_l01Next.f s0_0 bt235.2.1 bt235.2.2 4).bind fun bt238 => (spec_l04DrawOf.l0 k bt235.1 (wrap64 (1 + bt238.1)) s0_0 bt238.2.1 bt238.2.2 y222 y225 y228))) = some (r1, r2, r3, r4, r5) := by (rw [hy228]; with_reducible exact H)
 have Ny228 := Aside0.mk hy228
 clear hy228
 obtain ⟨y232, hy232⟩ : ∃ y_ : List Int, y_ = (([3, 6, 6, 9] : List Int)) := ⟨_, rfl⟩
 replace H : ((spec_l01Pick.f s0_0 s0_1 s0_2 y232).bind fun bt235 => ((spec_l01Next.f s0_0 bt235.2.1 bt235.2.2 4).bind fun bt238 => (spec_l04DrawOf.l0 k bt235.1 (wrap64 (1 + bt238.1)) s0_0 bt238.2.1 bt238.2.2 y222 y225 y228))) = some (r1, r2, r3, r4, r5) := by (rw [hy232]; with_reducible exact H)
 have Ny232 := Aside0.mk hy232
 clear hy232
 replace H := Option.bind_eq_some_iff.mp H
 obtain ⟨⟨t235, t236, t237⟩, A20, H⟩ := H
 replace H : ((spec_l01Next.f s0_0 t236 t237 4).bind fun bt238 => (spec_l04DrawOf.l0 k t235 (wrap64 (1 + bt238.1)) s0_0 bt238.2.1 bt238.2.2 y222 y225 y228)) = some (r1, r2, r3, r4, r5) := H
 have A2 := Aside0.mk A20
 clear A20
 replace H := Option.bind_eq_some_iff.mp H
 obtain ⟨⟨t238, t239, t240⟩, A30, H⟩ := H
 replace H : (spec_l04DrawOf.l0 k t235 (wrap64 (1 + t238)) s0_0 t239 t240 y222 y225 y228) = some (r1, r2, r3, r4, r5) := H
 have A3 := Aside0.mk A30
 clear A30
 have H' := Aside0.mk H
 clear H
 go_enter Try.func105, Try.ntmps105
 go_wp2_with (first | ((with_reducible refine gate_dst (N := 2) rfl ?_); refine box_event ?hg (N := 2) ?hd (cs := #[.slice none 0 0, .slice none 0 0, .slice none 0 0]) (t := 33) ?hr ?_; (case hd => rfl); (case hg => rfl); (case hr => (go_simp; done)); intro gb221 hg w4 hbox hb; have n0_ := Aside0.mk (IsS112.below HI0.out hb); have n1_ := Aside0.mk (KeepBut.trans HK.out (KeepBut.of_below hb g none) (.inl rfl)); have n2_ := Aside0.mk (below_step HB.out hb); have n3_ := Aside0.mk (hbox); have n4_ := Aside0.mk ((by rw [hg]; exact (keep_size (w := w) (g := g) (row := none) HK.out) : w.heap.size ≤ gb221)); have n5_ := Aside0.mk ((Nat.le_trans HW0.out (by rw [hg]; exact (keep_size (w := w) (g := g) (row := none) HK.out) : w.heap.size ≤ gb221) : w0.heap.size ≤ gb221)); have n6_ := Aside0.mk ((by rw [hg]; exact Nat.ne_of_lt (IsS112.lt (show IsS112 w0 _ g s0_0 s0_1 s0_2 from by exact HI0.out)) : g ≠ gb221)); have n7_ := Aside0.mk ((by rw [hg]; exact Nat.ne_of_gt (IsS112.lt (show IsS112 w0 _ g s0_0 s0_1 s0_2 from by exact HI0.out)) : gb221 ≠ g)); clear HI0; clear HK; clear HB; have HI0 := n0_; have HK := n1_; have HB := n2_; have BK221 := n3_; have GW221 := n4_; have GE221 := n5_; have NB0_221 := n6_; have NB221_0 := n7_; clear n0_ n1_ n2_ n3_ n4_ n5_ n6_ n7_; clear hb hbox hg) | ((with_reducible refine gate_dst (N := 11) rfl ?_); refine Kd.R_lit (Kd.int .i64) _ 2 ?hg (N := 11) ?hd (xs := ([] : List Int)) (inner := []) (ok := fun _ => True) (okp := fun _ => True) ?hr ?hp (fun _ hk => hk) trivial (Below.refl _ _) (Nat.le_refl _) (by simp) ?_; (case hd => rfl); (case hg => rfl); (case hr => (go_simp; done)); (case hp => exact (Reps.none _ _)); intro v223 w5 ho6 hb hg_ hnew_; clear hg_ hnew_; (rw [← Ny222.out] at ho6); have n0_ := Aside0.mk (Kd.R_lower ho6 (keep_size (w := w) (g := g) (row := none) HK.out)); have n1_ := Aside0.mk (IsS112.below HI0.out hb); have n2_ := Aside0.mk (blk_below (g := gb221) (o := .cells #[.slice none 0 0, .slice none 0 0, .slice none 0 0] 33 (0, 0)) BK221.out hb); have n3_ := Aside0.mk (KeepBut.trans HK.out (KeepBut.of_below hb g none) (.inl rfl)); have n4_ := Aside0.mk (below_step HB.out hb); clear HI0; clear BK221; clear HK; clear HB; have HO224 := n0_; have HI0 := n1_; have BK221 := n2_; have HK := n3_; have HB := n4_; clear n0_ n1_ n2_ n3_ n4_; clear hb ho6) | ((with_reducible refine gate_dst (N := 12) rfl ?_); refine Kd.R_lit (Kd.int .i64) _ 2 ?hg (N := 12) ?hd (xs := ([] : List Int)) (inner := []) (ok := fun _ => True) (okp := fun _ => True) ?hr ?hp (fun _ hk => hk) trivial (Below.refl _ _) (Nat.le_refl _) (by simp) ?_; (case hd => rfl); (case hg => rfl); (case hr => (go_simp; done)); (case hp => exact (Reps.none _ _)); intro v226 w7 ho8 hb hg_ hnew_; clear hg_ hnew_; (rw [← Ny225.out] at ho8); have n0_ := Aside0.mk (Kd.R_elder' HO224.out (Kd.R_base ho8) hb); have n1_ := Aside0.mk (Kd.R_lower (Kd.R_new' ho8 (Kd.R_lt HO224.out)) (keep_size (w := w) (g := g) (row := none) HK.out)); have n2_ := Aside0.mk (IsS112.below HI0.out hb); have n3_ := Aside0.mk (blk_below (g := gb221) (o := .cells #[.slice none 0 0, .slice none 0 0, .slice none 0 0] 33 (0, 0)) BK221.out hb); have n4_ := Aside0.mk (KeepBut.trans HK.out (KeepBut.of_below hb g none) (.inl rfl)); have n5_ := Aside0.mk (below_step HB.out hb); clear HO224; clear HI0; clear BK221; clear HK; clear HB; have HO224 := n0_; have HO227 := n1_; have HI0 := n2_; have BK221 := n3_; have HK := n4_; have HB := n5_; clear n0_ n1_ n2_ n3_ n4_ n5_; clear hb ho8) | ((with_reducible refine gate_dst (N := 13) rfl ?_); refine Kd.R_lit (Kd.int .i64) _ 2 ?hg (N := 13) ?hd (xs := ([] : List Int)) (inner := []) (ok := fun _ => True) (okp := fun _ => True) ?hr ?hp (fun _ hk => hk) trivial (Below.refl _ _) (Nat.le_refl _) (by simp) ?_; (case hd => rfl); (case hg => rfl); (case hr => (go_simp; done)); (case hp => exact (Reps.none _ _)); intro v229 w9 ho10 hb hg_ hnew_; clear hg_ hnew_; (rw [← Ny228.out] at ho10); have n0_ := Aside0.mk (Kd.R_elder' HO224.out (Kd.R_base ho10) hb); have n1_ := Aside0.mk (Kd.R_elder' HO227.out (Kd.R_base ho10) hb); have n2_ := Aside0.mk (Kd.R_lower (Kd.R_new' (Kd.R_new' ho10 (Kd.R_lt HO224.out)) (Kd.R_lt HO227.out)) (keep_size (w := w) (g := g) (row := none) HK.out)); have n3_ := Aside0.mk (IsS112.below HI0.out hb); have n4_ := Aside0.mk (blk_below (g := gb221) (o := .cells #[.slice none 0 0, .slice none 0 0, .slice none 0 0] 33 (0, 0)) BK221.out hb); have n5_ := Aside0.mk (KeepBut.trans HK.out (KeepBut.of_below hb g none) (.inl rfl)); have n6_ := Aside0.mk (below_step HB.out hb); clear HO224; clear HO227; clear HI0; clear BK221; clear HK; clear HB; have HO224 := n0_; have HO227 := n1_; have HO230 := n2_; have HI0 := n3_; have BK221 := n4_; have HK := n5_; have HB := n6_; clear n0_ n1_ n2_ n3_ n4_ n5_ n6_; clear hb ho10; obtain ⟨Ao11, co11, eo11⟩ := Kd.R_slice HO230.out; subst eo11; obtain ⟨Ao12, co12, eo12⟩ := Kd.R_slice HO227.out; subst eo12; obtain ⟨Ao13, co13, eo13⟩ := Kd.R_slice HO224.out; subst eo13) | ((with_reducible refine gate_dst (N := 3) rfl ?_); refine box_event ?hg (N := 3) ?hd (cs := #[.slice none 0 0, .slice none 0 0, .slice none 0 0]) (t := 33) ?hr ?_; (case hd => rfl); (case hg => rfl); (case hr => (go_simp; done)); intro gb231 hg w14 hbox hb; have n0_ := Aside0.mk (Kd.R_below HO224.out hb); have n1_ := Aside0.mk (Kd.R_below HO227.out hb); have n2_ := Aside0.mk (Kd.R_below HO230.out hb); have n3_ := Aside0.mk (IsS112.below HI0.out hb); have n4_ := Aside0.mk (blk_below (g := gb221) (o := .cells #[.slice none 0 0, .slice none 0 0, .slice none 0 0] 33 (0, 0)) BK221.out hb); have n5_ := Aside0.mk (KeepBut.trans HK.out (KeepBut.of_below hb g none) (.inl rfl)); have n6_ := Aside0.mk (below_step HB.out hb); have n7_ := Aside0.mk (hbox); have n8_ := Aside0.mk ((by rw [hg]; exact (keep_size (w := w) (g := g) (row := none) HK.out) : w.heap.size ≤ gb231)); have n9_ := Aside0.mk ((Nat.le_trans HW0.out (by rw [hg]; exact (keep_size (w := w) (g := g) (row := none) HK.out) : w.heap.size ≤ gb231) : w0.heap.size ≤ gb231)); have n10_ := Aside0.mk ((by rw [hg]; exact Nat.ne_of_lt (blk_lt (g := gb221) (o := .cells #[.slice none 0 0, .slice none 0 0, .slice none 0 0] 33 (0, 0)) BK221.out) : gb221 ≠ gb231)); have n11_ := Aside0.mk ((by rw [hg]; exact Nat.ne_of_gt (blk_lt (g := gb221) (o := .cells #[.slice none 0 0, .slice none 0 0, .slice none 0 0] 33 (0, 0)) BK221.out) : gb231 ≠ gb221)); have n12_ := Aside0.mk ((by rw [hg]; exact Nat.ne_of_lt (IsS112.lt (show IsS112 w0 _ g s0_0 s0_1 s0_2 from by exact HI0.out)) : g ≠ gb231)); have n13_ := Aside0.mk ((by rw [hg]; exact Nat.ne_of_gt (IsS112.lt (show IsS112 w0 _ g s0_0 s0_1 s0_2 from by exact HI0.out)) : gb231 ≠ g)); clear HO224; clear HO227; clear HO230; clear HI0; clear BK221; clear HK; clear HB; have HO224 := n0_; have HO227 := n1_; have HO230 := n2_; have HI0 := n3_; have BK221 := n4_; have HK := n5_; have HB := n6_; have BK231 := n7_; have GW231 := n8_; have GE231 := n9_; have NB221_231 := n10_; have NB231_221 := n11_; have NB0_231 := n12_; have NB231_0 := n13_; clear n0_ n1_ n2_ n3_ n4_ n5_ n6_ n7_ n8_ n9_ n10_ n11_ n12_ n13_; clear hb hbox hg; have hnb15 := NB231_221.out; have hnc15 := NB221_231.out; have hnb16 := NB231_0.out; have hnc16 := NB0_231.out; have hcz17_0 : w14.cell? ⟨gb231, 0, none⟩ = some (.slice none 0 0) := (blk_cell BK231.out 0).trans rfl; have hcz17_1 : w14.cell? ⟨gb231, 1, none⟩ = some (.slice none 0 0) := (blk_cell BK231.out 1).trans rfl; have hcz17_2 : w14.cell? ⟨gb231, 2, none⟩ = some (.slice none 0 0) := (blk_cell BK231.out 2).trans rfl; have hfz17_0 := blk_frozen BK231.out 0; have hfz17_1 := blk_frozen BK231.out 1; have hfz17_2 := blk_frozen BK231.out 2) | ((with_reducible refine gate_dst (N := 16) rfl ?_); refine Kd.R_lit (Kd.int .i64) _ 2 ?hg (N := 16) ?hd (xs := ([3, 6, 6, 9] : List Int)) (inner := [.int .i64 3, .int .i64 6, .int .i64 6, .int .i64 9]) (ok := fun _ => True) (okp := fun _ => True) ?hr ?hp (fun _ hk => hk) trivial (Below.refl _ _) (Nat.le_refl _) (by simp) ?_; (case hd => rfl); (case hg => rfl); (case hr => (go_simp; done)); (case hp => exact (Reps.one (show Kd.M (Kd.int .i64) _ _ _ 3 [.int .i64 3] from rfl) (Reps.one (show Kd.M (Kd.int .i64) _ _ _ 6 [.int .i64 6] from rfl) (Reps.one (show Kd.M (Kd.int .i64) _ _ _ 6 [.int .i64 6] from rfl) (Reps.one (show Kd.M (Kd.int .i64) _ _ _ 9 [.int .i64 9] from rfl) (Reps.none _ _)))))); intro v233 w18 ho19 hb hg_ hnew_; clear hg_ hnew_; (rw [← Ny232.out] at ho19); have n0_ := Aside0.mk (Kd.R_elder' (by exact (Kd.R_mono (Kd.R_far (p := ⟨gb231, 2, none⟩) (Kd.R_far (p := ⟨gb231, 1, none⟩) (Kd.R_far (p := ⟨gb231, 0, none⟩) (Kd.R_types HO224.out BK231.out (by decide)) (fun _ hk => hk.2) (.slice Ao13 y222.length co13)) (fun _ hk => hk.2) (.slice Ao12 y225.length co12)) (fun _ hk => hk.2) (.slice Ao11 y228.length co11)) (fun _ h_ => h_.1))) (Kd.R_base ho19) hb); have n1_ := Aside0.mk (Kd.R_elder' (by exact (Kd.R_mono (Kd.R_far (p := ⟨gb231, 2, none⟩) (Kd.R_far (p := ⟨gb231, 1, none⟩) (Kd.R_far (p := ⟨gb231, 0, none⟩) (Kd.R_types HO227.out BK231.out (by decide)) (fun _ hk => hk.2) (.slice Ao13 y222.length co13)) (fun _ hk => hk.2) (.slice Ao12 y225.length co12)) (fun _ hk => hk.2) (.slice Ao11 y228.length co11)) (fun _ h_ => h_.1))) (Kd.R_base ho19) hb); have n2_ := Aside0.mk (Kd.R_elder' (by exact (Kd.R_mono (Kd.R_far (p := ⟨gb231, 2, none⟩) (Kd.R_far (p := ⟨gb231, 1, none⟩) (Kd.R_far (p := ⟨gb231, 0, none⟩) (Kd.R_types HO230.out BK231.out (by decide)) (fun _ hk => hk.2) (.slice Ao13 y222.length co13)) (fun _ hk => hk.2) (.slice Ao12 y225.length co12)) (fun _ hk => hk.2) (.slice Ao11 y228.length co11)) (fun _ h_ => h_.1))) (Kd.R_base ho19) hb); have n3_ := Aside0.mk (Kd.R_lower (Kd.R_new' (Kd.R_new' (Kd.R_new' ho19 (Kd.R_lt (by exact (Kd.R_mono (Kd.R_far (p := ⟨gb231, 2, none⟩) (Kd.R_far (p := ⟨gb231, 1, none⟩) (Kd.R_far (p := ⟨gb231, 0, none⟩) (Kd.R_types HO224.out BK231.out (by decide)) (fun _ hk => hk.2) (.slice Ao13 y222.length co13)) (fun _ hk => hk.2) (.slice Ao12 y225.length co12)) (fun _ hk => hk.2) (.slice Ao11 y228.length co11)) (fun _ h_ => h_.1))))) (Kd.R_lt (by exact (Kd.R_mono (Kd.R_far (p := ⟨gb231, 2, none⟩) (Kd.R_far (p := ⟨gb231, 1, none⟩) (Kd.R_far (p := ⟨gb231, 0, none⟩) (Kd.R_types HO227.out BK231.out (by decide)) (fun _ hk => hk.2) (.slice Ao13 y222.length co13)) (fun _ hk => hk.2) (.slice Ao12 y225.length co12)) (fun _ hk => hk.2) (.slice Ao11 y228.length co11)) (fun _ h_ => h_.1))))) (Kd.R_lt (by exact (Kd.R_mono (Kd.R_far (p := ⟨gb231, 2, none⟩) (Kd.R_far (p := ⟨gb231, 1, none⟩) (Kd.R_far (p := ⟨gb231, 0, none⟩) (Kd.R_types HO230.out BK231.out (by decide)) (fun _ hk => hk.2) (.slice Ao13 y222.length co13)) (fun _ hk => hk.2) (.slice Ao12 y225.length co12)) (fun _ hk => hk.2) (.slice Ao11 y228.length co11)) (fun _ h_ => h_.1))))) (keep_size (w := w) (g := g) (row := none) (by repeat (with_reducible first | exact HK.out | refine keep_far ?_ GW231.out _)))); have n4_ := Aside0.mk (IsS112.below (show IsS112 w0 (((w14.setCell ⟨gb231, 0, none⟩ (.slice Ao13 y222.length co13)).setCell ⟨gb231, 1, none⟩ (.slice Ao12 y225.length co12)).setCell ⟨gb231, 2, none⟩ (.slice Ao11 y228.length co11)) g s0_0 s0_1 s0_2 from by repeat (with_reducible first | exact HI0.out | refine IsS112.far ?_ NB0_231.out _)) hb); have n5_ := Aside0.mk (blk_below (g := gb221) (o := .cells #[.slice none 0 0, .slice none 0 0, .slice none 0 0] 33 (0, 0)) (by refine blk_far ?_ NB221_231.out _; refine blk_far ?_ NB221_231.out _; refine blk_far ?_ NB221_231.out _; exact BK221.out) hb); have n6_ := Aside0.mk (blk_below (g := gb231) (o := .cells #[.slice Ao13 y222.length co13, .slice Ao12 y225.length co12, .slice Ao11 y228.length co11] 33 (0, 0)) (by refine blk_put (cs := #[.slice Ao13 y222.length co13, .slice Ao12 y225.length co12, .slice none 0 0]) ?_ 2 _ rfl; refine blk_put (cs := #[.slice Ao13 y222.length co13, .slice none 0 0, .slice none 0 0]) ?_ 1 _ rfl; refine blk_put (cs := #[.slice none 0 0, .slice none 0 0, .slice none 0 0]) ?_ 0 _ rfl; exact BK231.out) hb); have n7_ := Aside0.mk (KeepBut.trans (by repeat (with_reducible first | exact HK.out | refine keep_far ?_ GW231.out _)) (KeepBut.of_below hb g none) (.inl rfl)); have n8_ := Aside0.mk (below_step (by repeat (with_reducible first | exact HB.out | refine below_set ?_ GE231.out)) hb); clear HO224; clear HO227; clear HO230; clear HI0; clear BK221; clear BK231; clear HK; clear HB; have HO224 := n0_; have HO227 := n1_; have HO230 := n2_; have HO234 := n3_; have HI0 := n4_; have BK221 := n5_; have BK231 := n6_; have HK := n7_; have HB := n8_; clear n0_ n1_ n2_ n3_ n4_ n5_ n6_ n7_ n8_; clear hb ho19; obtain ⟨Ao20, co20, eo20⟩ := Kd.R_slice HO234.out; subst eo20) | ((with_reducible refine gate_callee (f := 79) rfl ?_); refine goesL_ (some 17) rfl rfl Try.func79 (by kernel_rfl) rfl #[.pointer (some ⟨g, 0, none⟩), .slice Ao20 y232.length co20] rfl (by (try simp only [List.map_toArray, List.map_cons, List.map_nil]); rfl) ?_; (with_reducible refine (spec_l01Pick.calls g s0_0 s0_1 s0_2 _ _ y232 t235 t236 t237 w0 _ ?side1 ?side2 ?side3 ?side4 ?side5 A2.out).mono ?_); (case side1 => exact HI0.out); (case side2 => exact HB.out); (case side3 => exact (Kd.R_reads' HO234.out).2.2); (case side4 => exact (Kd.R_reads' HO234.out).2.1); (case side5 => exact far_slice (IsS112.own_ne HI0.out HO234.out (by decide))); rintro e w21 ⟨rfl, hi, hb, hk⟩; refine ⟨_, rfl, ?_⟩; have n0_ := Aside0.mk (KeepBut.blk hk (g' := gb221) (o := .cells #[.slice none 0 0, .slice none 0 0, .slice none 0 0] 33 (0, 0)) BK221.out NB221_0.out (by simp)); have n1_ := Aside0.mk (Kd.R_mono (Kd.R_keep (IsS112.apart (show IsS112 w0 _ g s0_0 s0_1 s0_2 from by exact HI0.out) HO224.out (by decide)) hk (fun _ h => h.2)) (fun _ h => h.1)); have n2_ := Aside0.mk (Kd.R_mono (Kd.R_keep (IsS112.apart (show IsS112 w0 _ g s0_0 s0_1 s0_2 from by exact HI0.out) HO227.out (by decide)) hk (fun _ h => h.2)) (fun _ h => h.1)); have n3_ := Aside0.mk (Kd.R_mono (Kd.R_keep (IsS112.apart (show IsS112 w0 _ g s0_0 s0_1 s0_2 from by exact HI0.out) HO230.out (by decide)) hk (fun _ h => h.2)) (fun _ h => h.1)); have n4_ := Aside0.mk (KeepBut.blk hk (g' := gb231) (o := .cells #[.slice Ao13 y222.length co13, .slice Ao12 y225.length co12, .slice Ao11 y228.length co11] 33 (0, 0)) BK231.out NB231_0.out (by simp)); have n5_ := Aside0.mk (Kd.R_mono (Kd.R_keep (IsS112.apart (show IsS112 w0 _ g s0_0 s0_1 s0_2 from by exact HI0.out) HO234.out (by decide)) hk (fun _ h => h.2)) (fun _ h => h.1)); have n6_ := Aside0.mk (KeepBut.trans HK.out hk (.inl rfl)); have n7_ := Aside0.mk (hb); have n8_ := Aside0.mk (hi); clear BK221; clear HO224; clear HO227; clear HO230; clear BK231; clear HO234; clear HK; clear HB; clear HI0; have BK221 := n0_; have HO224 := n1_; have HO227 := n2_; have HO230 := n3_; have BK231 := n4_; have HO234 := n5_; have HK := n6_; have HB := n7_; have HI0 := n8_; clear n0_ n1_ n2_ n3_ n4_ n5_ n6_ n7_ n8_; (try clear hb); (try clear hb2); (try clear hk); (try clear hi)) | ((with_reducible refine gate_callee (f := 110) rfl ?_); refine goesL_ (some 19) rfl rfl Try.func110 (by kernel_rfl) rfl #[.pointer (some ⟨g, 0, none⟩), .int .i64 4] rfl (by (try simp only [List.map_toArray, List.map_cons, List.map_nil]); rfl) ?_; (with_reducible refine (spec_l01Next.calls g s0_0 t236 t237 4 t238 t239 t240 w0 _ ?side1 ?side2 A3.out).mono ?_); (case side1 => exact HI0.out); (case side2 => exact HB.out); rintro e w22 ⟨rfl, hi, hb, hk⟩; refine ⟨_, rfl, ?_⟩; have n0_ := Aside0.mk (KeepBut.blk hk (g' := gb221) (o := .cells #[.slice none 0 0, .slice none 0 0, .slice none 0 0] 33 (0, 0)) BK221.out NB221_0.out (by simp)); have n1_ := Aside0.mk (Kd.R_mono (Kd.R_keep (IsS112.apart (show IsS112 w0 _ g s0_0 t236 t237 from by exact HI0.out) HO224.out (by decide)) hk (fun _ h => h.2)) (fun _ h => h.1)); have n2_ := Aside0.mk (Kd.R_mono (Kd.R_keep (IsS112.apart (show IsS112 w0 _ g s0_0 t236 t237 from by exact HI0.out) HO227.out (by decide)) hk (fun _ h => h.2)) (fun _ h => h.1)); have n3_ := Aside0.mk (Kd.R_mono (Kd.R_keep (IsS112.apart (show IsS112 w0 _ g s0_0 t236 t237 from by exact HI0.out) HO230.out (by decide)) hk (fun _ h => h.2)) (fun _ h => h.1)); have n4_ := Aside0.mk (KeepBut.blk hk (g' := gb231) (o := .cells #[.slice Ao13 y222.length co13, .slice Ao12 y225.length co12, .slice Ao11 y228.length co11] 33 (0, 0)) BK231.out NB231_0.out (by simp)); have n5_ := Aside0.mk (Kd.R_mono (Kd.R_keep (IsS112.apart (show IsS112 w0 _ g s0_0 t236 t237 from by exact HI0.out) HO234.out (by decide)) hk (fun _ h => h.2)) (fun _ h => h.1)); have n6_ := Aside0.mk (KeepBut.trans HK.out hk (.inl rfl)); have n7_ := Aside0.mk (hb); have n8_ := Aside0.mk (hi); clear BK221; clear HO224; clear HO227; clear HO230; clear BK231; clear HO234; clear HK; clear HB; clear HI0; have BK221 := n0_; have HO224 := n1_; have HO227 := n2_; have HO230 := n3_; have BK231 := n4_; have HO234 := n5_; have HK := n6_; have HB := n7_; have HI0 := n8_; clear n0_ n1_ n2_ n3_ n4_ n5_ n6_ n7_ n8_; (try clear hb); (try clear hb2); (try clear hk); (try clear hi)))
 go_loopg [5] k (fun kq v5 w' => ∃ (x5_1 : Int) (x1001_1 : Int) (x1002_1 : Int) (x232000_1 : List Int) (x232001_1 : List Int) (x232002_1 : List Int) (u232000 : Value) (u232001 : Value) (u232002 : Value), v5 = .int .i64 x5_1 ∧ Aside0 (spec_l04DrawOf.l0 kq t235 x5_1 s0_0 x1001_1 x1002_1 x232000_1 x232001_1 x232002_1 = some (r1, r2, r3, r4, r5)) ∧ Aside0 (kq ≤ k) ∧ Aside0 (Kd.R (Kd.int .i64) 2 w' w.heap.size (fun k_ => some k_ ≠ (u232001 : Value).ownBlock ∧ some k_ ≠ (u232002 : Value).ownBlock) u232000 x232000_1) ∧ Aside0 (Kd.R (Kd.int .i64) 2 w' w.heap.size (fun k_ => some k_ ≠ (u232000 : Value).ownBlock ∧ some k_ ≠ (u232002 : Value).ownBlock) u232001 x232001_1) ∧ Aside0 (Kd.R (Kd.int .i64) 2 w' w.heap.size (fun k_ => some k_ ≠ (u232000 : Value).ownBlock ∧ some k_ ≠ (u232001 : Value).ownBlock) u232002 x232002_1) ∧ Aside0 (w'.heap[gb221]? = some (.cells #[(.slice none 0 0), (.slice none 0 0), (.slice none 0 0)] 33 (0, 0))) ∧ Aside0 (w'.heap[gb231]? = some (.cells #[u232000, u232001, u232002] 33 (0, 0))) ∧ Aside0 (IsS112 w0 w' g s0_0 x1001_1 x1002_1) ∧ Aside0 (KeepBut w w' g none) ∧ Aside0 (Below w0.heap.size w0 w'))
 case atStart => exact ⟨(wrap64 (1 + t238)), (t239), (t240), (y222), (y225), (y228), (.slice Ao13 y222.length co13), (.slice Ao12 y225.length co12), (.slice Ao11 y228.length co11), (by rfl), H', ⟨Nat.le_refl _⟩, ⟨by exact Kd.R_mono HO224.out (fun _ hk => ⟨hk.1.1.2, hk.1.2⟩)⟩, ⟨by exact Kd.R_mono HO227.out (fun _ hk => ⟨hk.1.1.2, hk.1.2⟩)⟩, ⟨by exact Kd.R_mono HO230.out (fun _ hk => ⟨hk.1.1.2, hk.1.2⟩)⟩, ⟨by exact BK221.out⟩, ⟨by exact BK231.out⟩, ⟨by exact HI0.out⟩, ⟨by exact HK.out⟩, ⟨by exact HB.out⟩⟩
 clear H'
 clear hcz17_0 hcz17_1 hcz17_2 hfz17_0 hfz17_1 hfz17_2
 obtain ⟨x5_1, x1001_1, x1002_1, x232000_1, x232001_1, x232002_1, u232000, u232001, u232002, rfl, HA, HK1, HO_232000, HO_232001, HO_232002, BK221, BK231, HI0, HK, HB⟩ := hrel
 cases gk with
 | zero => exact absurd HA.out (by simp [spec_l04DrawOf.l0])
 | succ k1 =>
  have H := HA.out
  clear HA
  simp only [spec_l04DrawOf.l0] at H
  by_cases c23 : x5_1 > 0
  rotate_left
  · rw [if_neg c23] at H
    have c23b0 : decide (0 < x5_1) = false := decide_eq_false c23
    clear c23
    replace H := Option.bind_eq_some_iff.mp H
    obtain ⟨⟨t275, t276, t277⟩, A760, H⟩ := H
    replace H : (if t275 = 0 then ((spec_l01Pick.f s0_0 t276 t277 (([59, 60, 37] : List Int))).bind fun bt281 => (if 0 < (x232001_1.length : Int) then ((some (x232001_1.set (0 : Int).toNat bt281.1 : List Int)).bind fun y284 => (if 0 < (x232002_1.length : Int) then (some (x232000_1, y284, (x232002_1.set (0 : Int).toNat (mn (rd x232002_1 0) (rd y284 0))), bt281.2.1, bt281.2.2)) else (none))) else (none))) else (some (x232000_1, x232001_1, x232002_1, t276, t277))) = some (r1, r2, r3, r4, r5) := H
    have A76 := Aside0.mk A760
    clear A760
    by_cases c77 : t275 = 0
    rotate_left
    · rw [if_neg c77] at H
      have c77b0 : (t275 == 0) = false := beq_eq_false_iff_ne.mpr c77
      have c77b1 : (t275 != 0) = true := bne_iff_ne.mpr c77
      simp only [Option.some.injEq, Prod.mk.injEq] at H
      obtain ⟨rfl, rfl, rfl, rfl, rfl⟩ := H
      go_wp2_with (((with_reducible refine gate_callee (f := 110) rfl ?_); refine goesL_ (some 67) rfl rfl Try.func110 (by kernel_rfl) rfl #[.pointer (some ⟨g, 0, none⟩), .int .i64 20] rfl (by (try simp only [List.map_toArray, List.map_cons, List.map_nil]); rfl) ?_; (with_reducible refine (spec_l01Next.calls g s0_0 x1001_1 x1002_1 20 t275 t276 t277 w0 _ ?side1 ?side2 A76.out).mono ?_); (case side1 => exact HI0.out); (case side2 => exact HB.out); rintro e w102 ⟨rfl, hi, hb, hk⟩; refine ⟨_, rfl, ?_⟩; have n0_ := Aside0.mk (Kd.R_mono (Kd.R_keep (IsS112.apart (show IsS112 w0 _ g s0_0 x1001_1 x1002_1 from by exact HI0.out) HO_232000.out (by decide)) hk (fun _ h => h.2)) (fun _ h => h.1)); have n1_ := Aside0.mk (Kd.R_mono (Kd.R_keep (IsS112.apart (show IsS112 w0 _ g s0_0 x1001_1 x1002_1 from by exact HI0.out) HO_232001.out (by decide)) hk (fun _ h => h.2)) (fun _ h => h.1)); have n2_ := Aside0.mk (Kd.R_mono (Kd.R_keep (IsS112.apart (show IsS112 w0 _ g s0_0 x1001_1 x1002_1 from by exact HI0.out) HO_232002.out (by decide)) hk (fun _ h => h.2)) (fun _ h => h.1)); have n3_ := Aside0.mk (KeepBut.blk hk (g' := gb221) (o := .cells #[.slice none 0 0, .slice none 0 0, .slice none 0 0] 33 (0, 0)) BK221.out NB221_0.out (by simp)); have n4_ := Aside0.mk (KeepBut.blk hk (g' := gb231) (o := .cells #[u232000, u232001, u232002] 33 (0, 0)) BK231.out NB231_0.out (by simp)); have n5_ := Aside0.mk (KeepBut.trans HK.out hk (.inl rfl)); have n6_ := Aside0.mk (hb); have n7_ := Aside0.mk (hi); clear HO_232000; clear HO_232001; clear HO_232002; clear BK221; clear BK231; clear HK; clear HB; clear HI0; have HO_232000 := n0_; have HO_232001 := n1_; have HO_232002 := n2_; have BK221 := n3_; have BK231 := n4_; have HK := n5_; have HB := n6_; have HI0 := n7_; clear n0_ n1_ n2_ n3_ n4_ n5_ n6_ n7_; (try clear hb); (try clear hb2); (try clear hk); (try clear hi); have hnb103 := NB231_221.out; have hnc103 := NB221_231.out; have hnb104 := NB231_0.out; have hnc104 := NB0_231.out; have hcz105_0 : w102.cell? ⟨gb231, 0, none⟩ = some (u232000) := (blk_cell BK231.out 0).trans rfl; have hcz105_1 : w102.cell? ⟨gb231, 1, none⟩ = some (u232001) := (blk_cell BK231.out 1).trans rfl; have hcz105_2 : w102.cell? ⟨gb231, 2, none⟩ = some (u232002) := (blk_cell BK231.out 2).trans rfl; have hfz105_0 := blk_frozen BK231.out 0; have hfz105_1 := blk_frozen BK231.out 1; have hfz105_2 := blk_frozen BK231.out 2; obtain ⟨Ao106, co106, eo106⟩ := Kd.R_slice HO_232000.out; subst eo106; have hnb107 := NB221_0.out; have hnc107 := NB0_221.out; have hcz108_0 : w102.cell? ⟨gb221, 0, none⟩ = some (.slice none 0 0) := (blk_cell BK221.out 0).trans rfl; have hcz108_1 : w102.cell? ⟨gb221, 1, none⟩ = some (.slice none 0 0) := (blk_cell BK221.out 1).trans rfl; have hcz108_2 : w102.cell? ⟨gb221, 2, none⟩ = some (.slice none 0 0) := (blk_cell BK221.out 2).trans rfl; have hfz108_0 := blk_frozen BK221.out 0; have hfz108_1 := blk_frozen BK221.out 1; have hfz108_2 := blk_frozen BK221.out 2; obtain ⟨Ao109, co109, eo109⟩ := Kd.R_slice HO_232001.out; subst eo109; obtain ⟨Ao110, co110, eo110⟩ := Kd.R_slice HO_232002.out; subst eo110))
      refine bodyPost_ret (results_cell_row rfl _ _ gb221 33 #[.slice Ao106 x232000_1.length co106, .slice Ao109 x232001_1.length co109, .slice Ao110 x232002_1.length co110] (0, 0) _ rfl (by refine blk_put (cs := #[.slice Ao106 x232000_1.length co106, .slice Ao109 x232001_1.length co109, .slice none 0 0]) ?_ 2 _ rfl; refine blk_put (cs := #[.slice Ao106 x232000_1.length co106, .slice none 0 0, .slice none 0 0]) ?_ 1 _ rfl; refine blk_put (cs := #[.slice none 0 0, .slice none 0 0, .slice none 0 0]) ?_ 0 _ rfl; exact BK221.out) Try.underlying33 rfl (by kernel_rfl)) rfl ?_
      exact ⟨_, _, _, by rfl, by exact Kd.R_mono (Kd.R_far (p := ⟨gb221, 2, none⟩) (Kd.R_far (p := ⟨gb221, 1, none⟩) (Kd.R_far (p := ⟨gb221, 0, none⟩) (Kd.R_types HO_232000.out BK221.out (by decide)) (fun _ hk => hk.2) (.slice Ao106 x232000_1.length co106)) (fun _ hk => hk.2) (.slice Ao109 x232001_1.length co109)) (fun _ hk => hk.2) (.slice Ao110 x232002_1.length co110)) (fun _ hk => ⟨hk.1.1, hk.1.2⟩), by exact Kd.R_mono (Kd.R_far (p := ⟨gb221, 2, none⟩) (Kd.R_far (p := ⟨gb221, 1, none⟩) (Kd.R_far (p := ⟨gb221, 0, none⟩) (Kd.R_types HO_232001.out BK221.out (by decide)) (fun _ hk => hk.2) (.slice Ao106 x232000_1.length co106)) (fun _ hk => hk.2) (.slice Ao109 x232001_1.length co109)) (fun _ hk => hk.2) (.slice Ao110 x232002_1.length co110)) (fun _ hk => ⟨hk.1.1, hk.1.2⟩), by exact Kd.R_mono (Kd.R_far (p := ⟨gb221, 2, none⟩) (Kd.R_far (p := ⟨gb221, 1, none⟩) (Kd.R_far (p := ⟨gb221, 0, none⟩) (Kd.R_types HO_232002.out BK221.out (by decide)) (fun _ hk => hk.2) (.slice Ao106 x232000_1.length co106)) (fun _ hk => hk.2) (.slice Ao109 x232001_1.length co109)) (fun _ hk => hk.2) (.slice Ao110 x232002_1.length co110)) (fun _ hk => ⟨hk.1.1, hk.1.2⟩), by repeat (with_reducible first | exact HI0.out | refine IsS112.far ?_ NB0_221.out _), by repeat (with_reducible first | exact HB.out | refine below_set ?_ GE221.out), by repeat (with_reducible first | exact HK.out | refine keep_far ?_ GW221.out _)⟩
    rw [if_pos c77] at H
    have c77b0 : (t275 == 0) = true := beq_iff_eq.mpr c77
    have c77b1 : (t275 != 0) = false := bne_eq_false_iff_eq.mpr c77
    clear c77
    obtain ⟨y278, hy278⟩ : ∃ y_ : List Int, y_ = (([59, 60, 37] : List Int)) := ⟨_, rfl⟩
    replace H : ((spec_l01Pick.f s0_0 t276 t277 y278).bind fun bt281 => (if 0 < (x232001_1.length : Int) then ((some (x232001_1.set (0 : Int).toNat bt281.1 : List Int)).bind fun y284 => (if 0 < (x232002_1.length : Int) then (some (x232000_1, y284, (x232002_1.set (0 : Int).toNat (mn (rd x232002_1 0) (rd y284 0))), bt281.2.1, bt281.2.2)) else (none))) else (none))) = some (r1, r2, r3, r4, r5) := by (rw [hy278]; with_reducible exact H)
    have Ny278 := Aside0.mk hy278
    clear hy278
    replace H := Option.bind_eq_some_iff.mp H
    obtain ⟨⟨t281, t282, t283⟩, A780, H⟩ := H
    replace H : (if 0 < (x232001_1.length : Int) then ((some (x232001_1.set (0 : Int).toNat t281 : List Int)).bind fun y284 => (if 0 < (x232002_1.length : Int) then (some (x232000_1, y284, (x232002_1.set (0 : Int).toNat (mn (rd x232002_1 0) (rd y284 0))), t282, t283)) else (none))) else (none)) = some (r1, r2, r3, r4, r5) := H
    have A78 := Aside0.mk A780
    clear A780
    by_cases c79 : 0 < (x232001_1.length : Int)
    rotate_left
    · rw [if_neg c79] at H
      exact absurd H (by simp)
    rw [if_pos c79] at H
    have c79b0 : decide (0 < (x232001_1.length : Int)) = true := decide_eq_true c79
    have c79b1 : decide (0 < x232001_1.length) = true := decide_eq_true (by omega)
    clear c79
    obtain ⟨y284, hy284⟩ : ∃ y_ : List Int, y_ = (x232001_1.set (0 : Int).toNat t281) := ⟨_, rfl⟩
    replace H : (if 0 < (x232002_1.length : Int) then (some (x232000_1, y284, (x232002_1.set (0 : Int).toNat (mn (rd x232002_1 0) (rd y284 0))), t282, t283)) else (none)) = some (r1, r2, r3, r4, r5) := by (have H2_ := (Option.bind_some _ _).symm.trans H; rw [hy284]; with_reducible exact H2_)
    have Ny284 := Aside0.mk hy284
    clear hy284
    by_cases c81 : 0 < (x232002_1.length : Int)
    rotate_left
    · rw [if_neg c81] at H
      exact absurd H (by simp)
    rw [if_pos c81] at H
    have c81b0 : decide (0 < (x232002_1.length : Int)) = true := decide_eq_true c81
    have c81b1 : decide (0 < x232002_1.length) = true := decide_eq_true (by omega)
    clear c81
    obtain ⟨ji82, hji82⟩ : ∃ j_ : Int, (mn (rd x232002_1 0) (rd y284 0)) = j_ := ⟨_, rfl⟩
    replace H : (some (x232000_1, y284, (x232002_1.set (0 : Int).toNat (ji82)), t282, t283)) = some (r1, r2, r3, r4, r5) := by (rw [hji82] at H; exact H)
    (try rw [hji82] at A76)
    (try rw [hji82] at A78)
    have hji82_ : (if (rd y284 0) < (rd x232002_1 0) then (rd y284 0) else (rd x232002_1 0)) = ji82 := hji82
    obtain ⟨y287, hy287⟩ : ∃ y_ : List Int, y_ = (x232002_1.set (0 : Int).toNat (ji82)) := ⟨_, rfl⟩
    replace H : (some (x232000_1, y284, y287, t282, t283)) = some (r1, r2, r3, r4, r5) := by (rw [hy287]; with_reducible exact H)
    have Ny287 := Aside0.mk hy287
    clear hy287
    simp only [Option.some.injEq, Prod.mk.injEq] at H
    obtain ⟨rfl, rfl, rfl, rfl, rfl⟩ := H
    try go_wp2_with (((with_reducible refine gate_callee (f := 110) rfl ?_); refine goesL_ (some 67) rfl rfl Try.func110 (by kernel_rfl) rfl #[.pointer (some ⟨g, 0, none⟩), .int .i64 20] rfl (by (try simp only [List.map_toArray, List.map_cons, List.map_nil]); rfl) ?_; (with_reducible refine (spec_l01Next.calls g s0_0 x1001_1 x1002_1 20 t275 t276 t277 w0 _ ?side1 ?side2 A76.out).mono ?_); (case side1 => exact HI0.out); (case side2 => exact HB.out); rintro e w84 ⟨rfl, hi, hb, hk⟩; refine ⟨_, rfl, ?_⟩; have n0_ := Aside0.mk (Kd.R_mono (Kd.R_keep (IsS112.apart (show IsS112 w0 _ g s0_0 x1001_1 x1002_1 from by exact HI0.out) HO_232000.out (by decide)) hk (fun _ h => h.2)) (fun _ h => h.1)); have n1_ := Aside0.mk (Kd.R_mono (Kd.R_keep (IsS112.apart (show IsS112 w0 _ g s0_0 x1001_1 x1002_1 from by exact HI0.out) HO_232001.out (by decide)) hk (fun _ h => h.2)) (fun _ h => h.1)); have n2_ := Aside0.mk (Kd.R_mono (Kd.R_keep (IsS112.apart (show IsS112 w0 _ g s0_0 x1001_1 x1002_1 from by exact HI0.out) HO_232002.out (by decide)) hk (fun _ h => h.2)) (fun _ h => h.1)); have n3_ := Aside0.mk (KeepBut.blk hk (g' := gb221) (o := .cells #[.slice none 0 0, .slice none 0 0, .slice none 0 0] 33 (0, 0)) BK221.out NB221_0.out (by simp)); have n4_ := Aside0.mk (KeepBut.blk hk (g' := gb231) (o := .cells #[u232000, u232001, u232002] 33 (0, 0)) BK231.out NB231_0.out (by simp)); have n5_ := Aside0.mk (KeepBut.trans HK.out hk (.inl rfl)); have n6_ := Aside0.mk (hb); have n7_ := Aside0.mk (hi); clear HO_232000; clear HO_232001; clear HO_232002; clear BK221; clear BK231; clear HK; clear HB; clear HI0; have HO_232000 := n0_; have HO_232001 := n1_; have HO_232002 := n2_; have BK221 := n3_; have BK231 := n4_; have HK := n5_; have HB := n6_; have HI0 := n7_; clear n0_ n1_ n2_ n3_ n4_ n5_ n6_ n7_; (try clear hb); (try clear hb2); (try clear hk); (try clear hi)))
    have n0_ := Aside0.mk (Kd.R_drew HO_232000.out)
    have n1_ := Aside0.mk (Kd.R_drew HO_232001.out)
    have n2_ := Aside0.mk (Kd.R_drew HO_232002.out)
    have n3_ := Aside0.mk (blk_drew BK221.out)
    have n4_ := Aside0.mk (blk_drew BK231.out)
    have n5_ := Aside0.mk (IsS112.drew HI0.out)
    have n6_ := Aside0.mk (keep_drew HK.out)
    have n7_ := Aside0.mk (below_drew1 HB.out)
    clear HO_232000
    clear HO_232001
    clear HO_232002
    clear BK221
    clear BK231
    clear HI0
    clear HK
    clear HB
    have HO_232000 := n0_
    have HO_232001 := n1_
    have HO_232002 := n2_
    have BK221 := n3_
    have BK231 := n4_
    have HI0 := n5_
    have HK := n6_
    have HB := n7_
    clear n0_ n1_ n2_ n3_ n4_ n5_ n6_ n7_
    refine start_ (n := 6) (S := fun w' => w'.cell? ⟨gb231, 0, none⟩ = some (u232000) ∧ w'.cell? ⟨gb231, 1, none⟩ = some (u232001) ∧ w'.cell? ⟨gb231, 2, none⟩ = some (u232002)) (ds := []) #[false, false, false, false, false, false] (by kernel_rfl) rfl rfl ⟨(blk_cell BK231.out 0).trans rfl, (blk_cell BK231.out 1).trans rfl, (blk_cell BK231.out 2).trans rfl⟩ (fun hHeld => ?_)
    generalize w84.drew = w85 at HO_232000 HO_232001 HO_232002 BK221 BK231 HI0 HK HB hHeld ⊢
    refine pure_ (i := 0) (N := some 69) (v := ?_) (a' := ?_) #[true, false, false, false, false, false] rfl rfl (by kernel_rfl) (fun _ _ _ h => h) (Or.inl ⟨by rfl, ?_⟩) ?_ ?_
    rotate_left
    · intro w'
      go_simp
      with_reducible rfl
    rotate_left
    · simp only [Act.put, List.setIfInBounds_toArray, List.set_cons_zero, List.set_cons_succ, i64_w, i32_w]
      rfl
    refine pure_ (i := 2) (N := some 71) (v := ?_) (a' := ?_) #[true, false, true, false, false, false] rfl rfl (by kernel_rfl) (fun _ _ _ h => h) (Or.inl ⟨by rfl, ?_⟩) ?_ ?_
    rotate_left
    · intro w'
      go_simp
      with_reducible rfl
    rotate_left
    · simp only [Act.put, List.setIfInBounds_toArray, List.set_cons_zero, List.set_cons_succ, i64_w, i32_w]
      rfl
    refine take_ (i := 1) (N := some 70) (v := ?_) (a' := ?_) #[true, true, true, false, false, false] rfl rfl (by kernel_rfl) (fun _ _ _ h => h) (Or.inl ⟨by rfl, ?_⟩) hHeld ?_ ?_
    rotate_left
    · rintro w' ⟨s0, s1, s2⟩
      go_simp
      with_reducible rfl
    rotate_left
    · simp only [Act.put, List.setIfInBounds_toArray, List.set_cons_zero, List.set_cons_succ, i64_w, i32_w]
      rfl
    refine pure_ (i := 4) (N := some 9) (v := ?_) (a' := ?_) #[true, true, true, false, true, false] rfl rfl (by kernel_rfl) (fun _ _ _ h => h) (Or.inl ⟨by rfl, ?_⟩) ?_ ?_
    rotate_left
    · intro w'
      go_simp
      with_reducible rfl
    rotate_left
    · simp only [Act.put, List.setIfInBounds_toArray, List.set_cons_zero, List.set_cons_succ, i64_w, i32_w]
      rfl
    refine take_ (i := 3) (N := some 72) (v := ?_) (a' := ?_) #[true, true, true, true, true, false] rfl rfl (by kernel_rfl) (fun _ _ _ h => h) (Or.inl ⟨by rfl, ?_⟩) hHeld ?_ ?_
    rotate_left
    · rintro w' ⟨s0, s1, s2⟩
      go_simp
      with_reducible rfl
    rotate_left
    · simp only [Act.put, List.setIfInBounds_toArray, List.set_cons_zero, List.set_cons_succ, i64_w, i32_w]
      rfl
    refine pure_ (i := 5) (N := some 10) (v := ?_) (a' := ?_) #[true, true, true, true, true, true] rfl rfl (by kernel_rfl) (fun _ _ _ h => h) (Or.inl ⟨by rfl, ?_⟩) ?_ ?_
    rotate_left
    · intro w'
      go_simp
      with_reducible rfl
    rotate_left
    · simp only [Act.put, List.setIfInBounds_toArray, List.set_cons_zero, List.set_cons_succ, i64_w, i32_w]
      rfl
    refine done_ (by kernel_rfl) ?_
    try go_wp2_with (first | ((with_reducible refine gate_dst (N := 75) rfl ?_); refine Kd.R_lit (Kd.int .i64) _ 2 ?hg (N := 75) ?hd (xs := ([59, 60, 37] : List Int)) (inner := [.int .i64 59, .int .i64 60, .int .i64 37]) (ok := fun _ => True) (okp := fun _ => True) ?hr ?hp (fun _ hk => hk) trivial (Below.refl _ _) (Nat.le_refl _) (by simp) ?_; (case hd => rfl); (case hg => rfl); (case hr => (go_simp; done)); (case hp => exact (Reps.one (show Kd.M (Kd.int .i64) _ _ _ 59 [.int .i64 59] from rfl) (Reps.one (show Kd.M (Kd.int .i64) _ _ _ 60 [.int .i64 60] from rfl) (Reps.one (show Kd.M (Kd.int .i64) _ _ _ 37 [.int .i64 37] from rfl) (Reps.none _ _))))); intro v279 w86 ho87 hb hg_ hnew_; clear hg_ hnew_; (rw [← Ny278.out] at ho87); have n0_ := Aside0.mk (Kd.R_elder' HO_232000.out (Kd.R_base ho87) hb); have n1_ := Aside0.mk (Kd.R_elder' HO_232001.out (Kd.R_base ho87) hb); have n2_ := Aside0.mk (Kd.R_elder' HO_232002.out (Kd.R_base ho87) hb); have n3_ := Aside0.mk (Kd.R_lower (Kd.R_new' (Kd.R_new' (Kd.R_new' ho87 (Kd.R_lt HO_232000.out)) (Kd.R_lt HO_232001.out)) (Kd.R_lt HO_232002.out)) (keep_size (w := w) (g := g) (row := none) HK.out)); have n4_ := Aside0.mk (blk_below (g := gb221) (o := .cells #[.slice none 0 0, .slice none 0 0, .slice none 0 0] 33 (0, 0)) BK221.out hb); have n5_ := Aside0.mk (blk_below (g := gb231) (o := .cells #[u232000, u232001, u232002] 33 (0, 0)) BK231.out hb); have n6_ := Aside0.mk (IsS112.below HI0.out hb); have n7_ := Aside0.mk (KeepBut.trans HK.out (KeepBut.of_below hb g none) (.inl rfl)); have n8_ := Aside0.mk (below_step HB.out hb); clear HO_232000; clear HO_232001; clear HO_232002; clear BK221; clear BK231; clear HI0; clear HK; clear HB; have HO_232000 := n0_; have HO_232001 := n1_; have HO_232002 := n2_; have HO280 := n3_; have BK221 := n4_; have BK231 := n5_; have HI0 := n6_; have HK := n7_; have HB := n8_; clear n0_ n1_ n2_ n3_ n4_ n5_ n6_ n7_ n8_; clear hb ho87; obtain ⟨Ao88, co88, eo88⟩ := Kd.R_slice HO280.out; subst eo88) | ((with_reducible refine gate_callee (f := 79) rfl ?_); refine goesL_ (some 76) rfl rfl Try.func79 (by kernel_rfl) rfl #[.pointer (some ⟨g, 0, none⟩), .slice Ao88 y278.length co88] rfl (by (try simp only [List.map_toArray, List.map_cons, List.map_nil]); rfl) ?_; (with_reducible refine (spec_l01Pick.calls g s0_0 t276 t277 _ _ y278 t281 t282 t283 w0 _ ?side1 ?side2 ?side3 ?side4 ?side5 A78.out).mono ?_); (case side1 => exact HI0.out); (case side2 => exact HB.out); (case side3 => exact (Kd.R_reads' HO280.out).2.2); (case side4 => exact (Kd.R_reads' HO280.out).2.1); (case side5 => exact far_slice (IsS112.own_ne HI0.out HO280.out (by decide))); rintro e w89 ⟨rfl, hi, hb, hk⟩; refine ⟨_, rfl, ?_⟩; have n0_ := Aside0.mk (Kd.R_mono (Kd.R_keep (IsS112.apart (show IsS112 w0 _ g s0_0 t276 t277 from by exact HI0.out) HO_232000.out (by decide)) hk (fun _ h => h.2)) (fun _ h => h.1)); have n1_ := Aside0.mk (Kd.R_mono (Kd.R_keep (IsS112.apart (show IsS112 w0 _ g s0_0 t276 t277 from by exact HI0.out) HO_232001.out (by decide)) hk (fun _ h => h.2)) (fun _ h => h.1)); have n2_ := Aside0.mk (Kd.R_mono (Kd.R_keep (IsS112.apart (show IsS112 w0 _ g s0_0 t276 t277 from by exact HI0.out) HO_232002.out (by decide)) hk (fun _ h => h.2)) (fun _ h => h.1)); have n3_ := Aside0.mk (KeepBut.blk hk (g' := gb221) (o := .cells #[.slice none 0 0, .slice none 0 0, .slice none 0 0] 33 (0, 0)) BK221.out NB221_0.out (by simp)); have n4_ := Aside0.mk (KeepBut.blk hk (g' := gb231) (o := .cells #[u232000, u232001, u232002] 33 (0, 0)) BK231.out NB231_0.out (by simp)); have n5_ := Aside0.mk (Kd.R_mono (Kd.R_keep (IsS112.apart (show IsS112 w0 _ g s0_0 t276 t277 from by exact HI0.out) HO280.out (by decide)) hk (fun _ h => h.2)) (fun _ h => h.1)); have n6_ := Aside0.mk (KeepBut.trans HK.out hk (.inl rfl)); have n7_ := Aside0.mk (hb); have n8_ := Aside0.mk (hi); clear HO_232000; clear HO_232001; clear HO_232002; clear BK221; clear BK231; clear HO280; clear HK; clear HB; clear HI0; have HO_232000 := n0_; have HO_232001 := n1_; have HO_232002 := n2_; have BK221 := n3_; have BK231 := n4_; have HO280 := n5_; have HK := n6_; have HB := n7_; have HI0 := n8_; clear n0_ n1_ n2_ n3_ n4_ n5_ n6_ n7_ n8_; (try clear hb); (try clear hb2); (try clear hk); (try clear hi); have p80 : 0 ≤ (0 : Int) := (by omega); have q80 : (0 : Int) < ((x232001_1.length : Int) : Int) := of_decide_eq_true (by (with_reducible assumption)); have qi80 : (0 < x232001_1.length) = True := eq_true (by omega); obtain ⟨go80, co80, eo80, gb80, gl80, cl80, HG80⟩ := Kd.R_form HO_232001.out (by omega); (cases eo80); have GB80 := Aside0.mk gb80; have GG80 := Aside0.mk HG80; clear gb80 gl80 HG80; obtain ⟨hx80_0, hf80_0⟩ := Kd.R_celln 0 HO_232001.out (0 : Int) p80 q80; (try rw [show (0 : Int).toNat = 0 from rfl] at hx80_0); (try simp only [Nat.reduceMul, Nat.zero_mul, Nat.zero_add, Nat.reduceAdd] at hx80_0); (try rw [show (0 : Int).toNat = 0 from rfl] at hf80_0); (try simp only [Nat.reduceMul, Nat.zero_mul, Nat.zero_add, Nat.reduceAdd] at hf80_0); replace p80 := eq_true p80; replace q80 := eq_true q80; have n_ := Aside0.mk (Kd.R_mono (ok' := (fun k_ => some k_ ≠ (u232000 : Value).ownBlock ∧ some k_ ≠ (u232002 : Value).ownBlock ∧ some k_ ≠ (.slice Ao88 y278.length co88 : Value).ownBlock)) HO_232001.out (fun k_ hk => ⟨hk.1.1, ⟨hk.1.2, hk.2⟩⟩)); clear HO_232001; have HO_232001 := n_; clear n_; obtain ⟨hy90_, hz90_⟩ := Kd.R_celln 0 HO_232001.out (0 : Int) (by omega) (of_decide_eq_true (by (with_reducible assumption))); (try simp only [Int.reduceToNat, Int.toNat_zero, Int.toNat_ofNat, Nat.reduceMul, Nat.zero_mul, Nat.zero_add] at hy90_ hz90_); (try rw [show (0 : Int).toNat = 0 from rfl] at hy90_); (try rw [show (0 : Int).toNat = 0 from rfl] at hz90_); have HP90 := Kd.R_putg HO_232001.out (0 : Int) t281) | ((with_reducible refine gate_store (t := 2) (p := 77) rfl ?_); refine store_event (t := 2) (p := 77) (v := ?vo_w91) (w1 := (w89.setCell ⟨go80, (0 : Int).toNat, none⟩ (.int .i64 t281))) ?hg ?ho ?hn ?hr ?_; (case ho => rfl); (case hg => rfl); (case hn => rfl); (case hr => (go_simp; done)); intro w91 hw; have hg : w89.grownBy w91 (some go80) := (by rw [hw]; exact HP90.2); have hp_ : Kd.R (Kd.int .i64) 2 w91 w.heap.size (fun k_ => some k_ ≠ (u232000 : Value).ownBlock ∧ some k_ ≠ (u232002 : Value).ownBlock ∧ some k_ ≠ (.slice Ao88 y278.length co88 : Value).ownBlock) (.slice (some ⟨go80, 0, none⟩) x232001_1.length co80) y284 := (by rw [hw, Ny284.out]; exact HP90.1); clear HP90; have n0_ := Aside0.mk (Kd.R_after (v := (.slice (some ⟨go80, 0, none⟩) x232001_1.length co80)) (v1 := (.slice (some ⟨go80, 0, none⟩) x232001_1.length co80)) (ok := (fun k_ => some k_ ≠ (u232002 : Value).ownBlock ∧ some k_ ≠ (.slice Ao88 y278.length co88 : Value).ownBlock)) (by exact Kd.R_mono HO_232000.out (fun _ hk => ⟨⟨hk.1.2, hk.2⟩, hk.1.1⟩)) hg (.inl rfl)); have n1_ := Aside0.mk (hp_); have n2_ := Aside0.mk (Kd.R_after (v := (.slice (some ⟨go80, 0, none⟩) x232001_1.length co80)) (v1 := (.slice (some ⟨go80, 0, none⟩) x232001_1.length co80)) (ok := (fun k_ => some k_ ≠ (u232000 : Value).ownBlock ∧ some k_ ≠ (.slice Ao88 y278.length co88 : Value).ownBlock)) (by exact Kd.R_mono HO_232002.out (fun _ hk => ⟨⟨hk.1.1, hk.2⟩, hk.1.2⟩)) hg (.inl rfl)); have n3_ := Aside0.mk (blk_grown (g := gb221) (o := .cells #[.slice none 0 0, .slice none 0 0, .slice none 0 0] 33 (0, 0)) BK221.out hg (Kd.R_ne HO_232001.out BK221.out (by decide))); have n4_ := Aside0.mk (blk_grown (g := gb231) (o := .cells #[u232000, .slice (some ⟨go80, 0, none⟩) x232001_1.length co80, u232002] 33 (0, 0)) BK231.out hg (Kd.R_ne HO_232001.out BK231.out (by decide))); have n5_ := Aside0.mk (IsS112.grown HI0.out hg (IsS112.own_ne HI0.out HO_232001.out (by decide))); have n6_ := Aside0.mk (Kd.R_after (v := (.slice (some ⟨go80, 0, none⟩) x232001_1.length co80)) (v1 := (.slice (some ⟨go80, 0, none⟩) x232001_1.length co80)) (ok := (fun k_ => some k_ ≠ (u232000 : Value).ownBlock ∧ some k_ ≠ (u232002 : Value).ownBlock)) (by exact Kd.R_mono HO280.out (fun _ hk => ⟨⟨hk.1.1.2, hk.2⟩, hk.1.2⟩)) hg (.inl rfl)); have n7_ := Aside0.mk ((by rw [hw]; exact below_set (HB.out) (Nat.le_trans HL.out GB80.out) : Below w0.heap.size w0 w91)); have n8_ := Aside0.mk (KeepBut.trans HK.out (KeepBut.of_grown hg g) (Kd.R_base2 HO_232001.out)); clear HO_232000; clear HO_232001; clear HO_232002; clear BK221; clear BK231; clear HI0; clear HO280; clear HB; clear HK; have HO_232000 := n0_; have HO_232001 := n1_; have HO_232002 := n2_; have BK221 := n3_; have BK231 := n4_; have HI0 := n5_; have HO280 := n6_; have HB := n7_; have HK := n8_; clear n0_ n1_ n2_ n3_ n4_ n5_ n6_ n7_ n8_; clear hg hw hp_))
    have n0_ := Aside0.mk (Kd.R_drew HO_232000.out)
    have n1_ := Aside0.mk (Kd.R_drew HO_232001.out)
    have n2_ := Aside0.mk (Kd.R_drew HO_232002.out)
    have n3_ := Aside0.mk (Kd.R_drew HO280.out)
    have n4_ := Aside0.mk (blk_drew BK221.out)
    have n5_ := Aside0.mk (blk_drew BK231.out)
    have n6_ := Aside0.mk (IsS112.drew HI0.out)
    have n7_ := Aside0.mk (keep_drew HK.out)
    have n8_ := Aside0.mk (below_drew1 HB.out)
    clear HO_232000
    clear HO_232001
    clear HO_232002
    clear HO280
    clear BK221
    clear BK231
    clear HI0
    clear HK
    clear HB
    have HO_232000 := n0_
    have HO_232001 := n1_
    have HO_232002 := n2_
    have HO280 := n3_
    have BK221 := n4_
    have BK231 := n5_
    have HI0 := n6_
    have HK := n7_
    have HB := n8_
    clear n0_ n1_ n2_ n3_ n4_ n5_ n6_ n7_ n8_
    obtain ⟨Ao93, co93, eo93⟩ := Kd.R_slice HO_232002.out
    (subst eo93)
    have p285 : 0 ≤ (0 : Int) := (by omega)
    have q285 : 0 < (x232002_1.length : Int) := of_decide_eq_true (by (with_reducible assumption))
    obtain ⟨ad285, e285, hx285_0⟩ := Kd.at_int (Kd.R_reads' HO_232002.out).2.2 0 p285 q285
    cases e285
    have qi285 : (0 < x232002_1.length) = True := eq_true (by omega)
    (try rw [show ((0 : Int)).toNat = 0 from rfl] at hx285_0)
    (try rw [Addr.add_zero'] at hx285_0)
    replace p285 := eq_true p285
    replace q285 := eq_true q285
    have p286 : 0 ≤ (0 : Int) := (by omega)
    have q286 : 0 < (y284.length : Int) := (by have h_ : (0 : Int) < ((x232001_1.length : Int) : Int) := of_decide_eq_true (by (with_reducible assumption)); (have e_ := (Kd.R_reads' HO_232001.out).1; omega))
    have ql286 : ((0 : Int) < ((x232001_1.length : Int) : Int)) = True := eq_true (of_decide_eq_true (by (with_reducible assumption)))
    (try have qn286 : (0 < x232001_1.length) = True := eq_true (by have h_ : (0 : Int) < ((x232001_1.length : Int) : Int) := of_decide_eq_true (by (with_reducible assumption)); omega))
    obtain ⟨ad286, e286, hx286_0⟩ := Kd.at_int (Kd.R_reads' HO_232001.out).2.2 0 p286 q286
    obtain rfl : (⟨go80, 0, none⟩ : Addr) = ad286 := (by injection e286)
    (simp only [add_plain] at hx286_0)
    have qi286 : (0 < y284.length) = True := eq_true (by omega)
    (try rw [show ((0 : Int)).toNat = 0 from rfl] at hx286_0)
    (try rw [Addr.add_zero'] at hx286_0)
    replace p286 := eq_true p286
    replace q286 := eq_true q286
    have p83 : 0 ≤ (0 : Int) := (by omega)
    have q83 : (0 : Int) < ((x232002_1.length : Int) : Int) := of_decide_eq_true (by (with_reducible assumption))
    have qi83 : (0 < x232002_1.length) = True := eq_true (by omega)
    obtain ⟨go83, co83, eo83, gb83, gl83, cl83, HG83⟩ := Kd.R_form HO_232002.out (by omega)
    (cases eo83)
    have GB83 := Aside0.mk gb83
    have GG83 := Aside0.mk HG83
    clear gb83 gl83 HG83
    (skip)
    obtain ⟨hx83_0, hf83_0⟩ := Kd.R_celln 0 HO_232002.out (0 : Int) p83 q83
    (try rw [show ((0 : Int)).toNat = 0 from rfl] at hx83_0)
    (try simp only [Nat.reduceMul, Nat.zero_mul, Nat.zero_add, Nat.reduceAdd] at hx83_0)
    (try rw [show ((0 : Int)).toNat = 0 from rfl] at hf83_0)
    (try simp only [Nat.reduceMul, Nat.zero_mul, Nat.zero_add, Nat.reduceAdd] at hf83_0)
    replace p83 := eq_true p83
    replace q83 := eq_true q83
    have HN0_go83 := Aside0.mk (show g ≠ go83 from by have h_ := IsS112.own_ne HI0.out HO_232002.out (by decide); intro e_; exact h_ (by rw [e_]; rfl))
    have HP94 := Kd.R_putn HO_232002.out (0 : Int) ji82
    rw [← Ny287.out] at HP94
    have HQ94 := Aside0.mk HP94
    clear HP94
    refine start_ (n := 10) (S := fun w' => w'.cell? ⟨go83, 0, none⟩ = some (.int .i64 (rd x232002_1 0)) ∧ w'.cell? ⟨go80, 0, none⟩ = some (.int .i64 (rd y284 0))) (ds := [9]) bQ105_0 (by kernel_rfl) rfl rfl ⟨hx285_0, hx286_0⟩ (fun hHeld => ?_); refine with_tabW spec_l04DrawOf.tab17 spec_l04DrawOf.bits17 (fun HT_ HW_ => ?_)
    generalize w91.drew = w92 at HO_232000 HO_232001 HO_232002 HO280 BK221 BK231 HI0 HK HB GG83 HQ94 hf83_0 hx285_0 hx286_0 hx83_0 hHeld ⊢
    refine pure_ (i := 0) (N := some 78) (v := ?_) (a' := ?_) bQ105_1 rfl rfl (any_of HT_.out (by kernel_rfl)) (fun _ _ _ h => h) (Or.inl ⟨by rfl, ?_⟩) ?_ ?_
    rotate_left
    · intro w'
      go_simp
      with_reducible rfl
    rotate_left
    · simp only [Act.put, List.setIfInBounds_toArray, List.set_cons_zero, List.set_cons_succ, i64_w, i32_w]
      rfl
    refine pure_ (i := 1) (N := some 79) (v := ?_) (a' := ?_) bQ105_2 rfl rfl (any_of HT_.out (by kernel_rfl)) (fun _ _ _ h => h) (Or.inl ⟨by rfl, ?_⟩) ?_ ?_
    rotate_left
    · intro w'
      go_simp
      with_reducible rfl
    rotate_left
    · simp only [Act.put, List.setIfInBounds_toArray, List.set_cons_zero, List.set_cons_succ, i64_w, i32_w]
      rfl
    refine pure_ (i := 2) (N := some 80) (v := ?_) (a' := ?_) bQ105_3 rfl rfl (any_of HT_.out (by kernel_rfl)) (fun _ _ _ h => h) (Or.inl ⟨by rfl, ?_⟩) ?_ ?_
    rotate_left
    · intro w'
      go_simp
      with_reducible rfl
    rotate_left
    · simp only [Act.put, List.setIfInBounds_toArray, List.set_cons_zero, List.set_cons_succ, i64_w, i32_w]
      rfl
    refine pure_ (i := 4) (N := some 82) (v := ?_) (a' := ?_) bQ105_4 rfl rfl (any_of HT_.out (by kernel_rfl)) (fun _ _ _ h => h) (Or.inl ⟨by rfl, ?_⟩) ?_ ?_
    rotate_left
    · intro w'
      go_simp
      with_reducible rfl
    rotate_left
    · simp only [Act.put, List.setIfInBounds_toArray, List.set_cons_zero, List.set_cons_succ, i64_w, i32_w]
      rfl
    refine pure_ (i := 5) (N := some 83) (v := ?_) (a' := ?_) bQ105_5 rfl rfl (any_of HT_.out (by kernel_rfl)) (fun _ _ _ h => h) (Or.inl ⟨by rfl, ?_⟩) ?_ ?_
    rotate_left
    · intro w'
      go_simp
      with_reducible rfl
    rotate_left
    · simp only [Act.put, List.setIfInBounds_toArray, List.set_cons_zero, List.set_cons_succ, i64_w, i32_w]
      rfl
    refine take_ (i := 3) (N := some 81) (v := ?_) (a' := ?_) bQ105_6 rfl rfl (take_ofW HT_.out HW_.out (by kernel_rfl)) (fun _ _ _ h => h) (Or.inl ⟨by rfl, ?_⟩) hHeld ?_ ?_
    rotate_left
    · rintro w' ⟨s0, s1⟩
      go_simp
      with_reducible rfl
    rotate_left
    · simp only [Act.put, List.setIfInBounds_toArray, List.set_cons_zero, List.set_cons_succ, i64_w, i32_w]
      rfl
    refine take_ (i := 6) (N := some 84) (v := ?_) (a' := ?_) bQ105_7 rfl rfl (take_ofW HT_.out HW_.out (by kernel_rfl)) (fun _ _ _ h => h) (Or.inl ⟨by rfl, ?_⟩) hHeld ?_ ?_
    rotate_left
    · rintro w' ⟨s0, s1⟩
      go_simp
      with_reducible rfl
    rotate_left
    · simp only [Act.put, List.setIfInBounds_toArray, List.set_cons_zero, List.set_cons_succ, i64_w, i32_w]
      rfl
    refine pure_ (i := 7) (N := some 85) (v := ?_) (a' := ?_) bQ105_8 rfl rfl (any_of HT_.out (by kernel_rfl)) (fun _ _ _ h => h) (Or.inl ⟨by rfl, ?_⟩) ?_ ?_
    rotate_left
    · intro w'
      go_simp
      with_reducible rfl
    rotate_left
    · simp only [Act.put, List.setIfInBounds_toArray, List.set_cons_zero, List.set_cons_succ, i64_w, i32_w]
      rfl
    refine pure_ (i := 8) (N := some 86) (v := ?_) (a' := ?_) bQ105_9 rfl rfl (any_of HT_.out (by kernel_rfl)) (fun _ _ _ h => h) (Or.inl ⟨by rfl, ?_⟩) ?_ ?_
    rotate_left
    · intro w'
      go_simp
      with_reducible rfl
    rotate_left
    · simp only [Act.put, List.setIfInBounds_toArray, List.set_cons_zero, List.set_cons_succ, i64_w, i32_w]
      rfl
    refine last_ (i := 9) (N := none) bQ105_10 rfl rfl (one_of HT_.out (by kernel_rfl)) (by decide) (fun K hK => ?_)
    refine skip_ (w1 := ?_) (by rfl) rfl ?_ ?_
    rotate_left
    · go_simp
      rfl
    refine hK.out _ _ ?_
    clear hK K
    refine done_ (done_of HT_.out (by kernel_rfl)) ?_
    have n0_ : Aside0 (Kd.R (Kd.int .i64) 2 (w92.setCell ⟨go83, 0, none⟩ (.int .i64 ji82)) w.heap.size (fun k_ => some k_ ≠ (.slice (some ⟨go80, 0, none⟩) x232001_1.length co80 : Value).ownBlock ∧ some k_ ≠ (.slice (some ⟨go83, 0, none⟩) x232002_1.length co93 : Value).ownBlock ∧ some k_ ≠ (.slice Ao88 y278.length co88 : Value).ownBlock) u232000 x232000_1) := ⟨by exact Kd.R_mono (Kd.R_far (p := ⟨go83, 0, none⟩) (Kd.R_mono HO_232000.out (fun k_ hk => (⟨hk, fun e_ => hk.1.1 (by rw [e_]; rfl)⟩ : _ ∧ k_ ≠ go83))) (fun _ hk => hk.2) (.int .i64 ji82)) (fun _ hk => ⟨hk.1.2, ⟨hk.1.1.1, hk.1.1.2⟩⟩)⟩
    have n1_ : Aside0 (Kd.R (Kd.int .i64) 2 (w92.setCell ⟨go83, 0, none⟩ (.int .i64 ji82)) w.heap.size (fun k_ => some k_ ≠ (u232000 : Value).ownBlock ∧ some k_ ≠ (.slice (some ⟨go83, 0, none⟩) x232002_1.length co93 : Value).ownBlock ∧ some k_ ≠ (.slice Ao88 y278.length co88 : Value).ownBlock) (.slice (some ⟨go80, 0, none⟩) x232001_1.length co80) y284) := ⟨by exact Kd.R_mono (Kd.R_far (p := ⟨go83, 0, none⟩) (Kd.R_mono HO_232001.out (fun k_ hk => (⟨hk, fun e_ => hk.2.1 (by rw [e_]; rfl)⟩ : _ ∧ k_ ≠ go83))) (fun _ hk => hk.2) (.int .i64 ji82)) (fun _ hk => ⟨hk.1.1, ⟨hk.1.2.1, hk.1.2.2⟩⟩)⟩
    have n2_ : Aside0 (Kd.R (Kd.int .i64) 2 (w92.setCell ⟨go83, 0, none⟩ (.int .i64 ji82)) w.heap.size (fun k_ => some k_ ≠ (u232000 : Value).ownBlock ∧ some k_ ≠ (.slice (some ⟨go80, 0, none⟩) x232001_1.length co80 : Value).ownBlock ∧ some k_ ≠ (.slice Ao88 y278.length co88 : Value).ownBlock) (.slice (some ⟨go83, 0, none⟩) x232002_1.length co93) y287) := ⟨by exact Kd.R_mono HQ94.out (fun _ hk => ⟨hk.1.1, ⟨hk.2, hk.1.2⟩⟩)⟩
    have n3_ : Aside0 (Kd.R (Kd.int .i64) 2 (w92.setCell ⟨go83, 0, none⟩ (.int .i64 ji82)) w.heap.size (fun k_ => some k_ ≠ (u232000 : Value).ownBlock ∧ some k_ ≠ (.slice (some ⟨go80, 0, none⟩) x232001_1.length co80 : Value).ownBlock ∧ some k_ ≠ (.slice (some ⟨go83, 0, none⟩) x232002_1.length co93 : Value).ownBlock) (.slice Ao88 y278.length co88) y278) := ⟨by exact Kd.R_mono (Kd.R_far (p := ⟨go83, 0, none⟩) (Kd.R_mono HO280.out (fun k_ hk => (⟨hk, fun e_ => hk.1.2 (by rw [e_]; rfl)⟩ : _ ∧ k_ ≠ go83))) (fun _ hk => hk.2) (.int .i64 ji82)) (fun _ hk => ⟨hk.1.1.1, ⟨hk.1.2, hk.1.1.2⟩⟩)⟩
    have n4_ : Aside0 ((w92.setCell ⟨go83, 0, none⟩ (.int .i64 ji82)).heap[gb221]? = some (.cells #[.slice none 0 0, .slice none 0 0, .slice none 0 0] 33 (0, 0))) := ⟨by refine blk_far ?_ (by have h_ := Kd.R_ne HO_232002.out BK221.out (by decide); intro e_; exact h_ (by rw [e_]; rfl)) _; exact BK221.out⟩
    have n5_ : Aside0 ((w92.setCell ⟨go83, 0, none⟩ (.int .i64 ji82)).heap[gb231]? = some (.cells #[u232000, .slice (some ⟨go80, 0, none⟩) x232001_1.length co80, .slice (some ⟨go83, 0, none⟩) x232002_1.length co93] 33 (0, 0))) := ⟨by refine blk_far ?_ (by have h_ := Kd.R_ne HO_232002.out BK231.out (by decide); intro e_; exact h_ (by rw [e_]; rfl)) _; exact BK231.out⟩
    have n6_ : Aside0 (IsS112 w0 (w92.setCell ⟨go83, 0, none⟩ (.int .i64 ji82)) g s0_0 t282 t283) := ⟨by repeat (with_reducible first | exact HI0.out | refine IsS112.far ?_ HN0_go83.out _)⟩
    have n7_ : Aside0 (KeepBut w (w92.setCell ⟨go83, 0, none⟩ (.int .i64 ji82)) g none) := ⟨by repeat (with_reducible first | exact HK.out | refine keep_far ?_ GB83.out _)⟩
    have n8_ : Aside0 (Below w0.heap.size w0 (w92.setCell ⟨go83, 0, none⟩ (.int .i64 ji82))) := ⟨by repeat ((with_reducible first | exact HB.out | refine below_set ?_ (Nat.le_trans HL.out GB83.out)))⟩
    (try clear HO_232000)
    (try clear HO_232001)
    (try clear HO_232002)
    (try clear HO280)
    (try clear BK221)
    (try clear BK231)
    (try clear HI0)
    (try clear HK)
    (try clear HB)
    generalize (w92.setCell ⟨go83, 0, none⟩ (.int .i64 ji82)) = w95 at n0_ n1_ n2_ n3_ n4_ n5_ n6_ n7_ n8_ ⊢
    have HO_232000 := n0_
    have HO_232001 := n1_
    have HO_232002 := n2_
    have HO280 := n3_
    have BK221 := n4_
    have BK231 := n5_
    have HI0 := n6_
    have HK := n7_
    have HB := n8_
    clear n0_ n1_ n2_ n3_ n4_ n5_ n6_ n7_ n8_
    have hnb96 := NB231_221.out
    have hnc96 := NB221_231.out
    have hnb97 := NB231_0.out
    have hnc97 := NB0_231.out
    have hcz98_0 : w95.cell? ⟨gb231, 0, none⟩ = some (u232000) := (blk_cell BK231.out 0).trans rfl
    have hcz98_1 : w95.cell? ⟨gb231, 1, none⟩ = some (.slice (some ⟨go80, 0, none⟩) x232001_1.length co80) := (blk_cell BK231.out 1).trans rfl
    have hcz98_2 : w95.cell? ⟨gb231, 2, none⟩ = some (.slice (some ⟨go83, 0, none⟩) x232002_1.length co93) := (blk_cell BK231.out 2).trans rfl
    have hfz98_0 := blk_frozen BK231.out 0
    have hfz98_1 := blk_frozen BK231.out 1
    have hfz98_2 := blk_frozen BK231.out 2
    obtain ⟨Ao99, co99, eo99⟩ := Kd.R_slice HO_232000.out
    subst eo99
    have hnb100 := NB221_0.out
    have hnc100 := NB0_221.out
    have hcz101_0 : w95.cell? ⟨gb221, 0, none⟩ = some (.slice none 0 0) := (blk_cell BK221.out 0).trans rfl
    have hcz101_1 : w95.cell? ⟨gb221, 1, none⟩ = some (.slice none 0 0) := (blk_cell BK221.out 1).trans rfl
    have hcz101_2 : w95.cell? ⟨gb221, 2, none⟩ = some (.slice none 0 0) := (blk_cell BK221.out 2).trans rfl
    have hfz101_0 := blk_frozen BK221.out 0
    have hfz101_1 := blk_frozen BK221.out 1
    have hfz101_2 := blk_frozen BK221.out 2
    try go_wp2
    refine bodyPost_ret (results_cell_row rfl _ _ gb221 33 #[.slice Ao99 x232000_1.length co99, .slice (some ⟨go80, 0, none⟩) x232001_1.length co80, .slice (some ⟨go83, 0, none⟩) x232002_1.length co93] (0, 0) _ rfl (by refine blk_put (cs := #[.slice Ao99 x232000_1.length co99, .slice (some ⟨go80, 0, none⟩) x232001_1.length co80, .slice none 0 0]) ?_ 2 _ rfl; refine blk_put (cs := #[.slice Ao99 x232000_1.length co99, .slice none 0 0, .slice none 0 0]) ?_ 1 _ rfl; refine blk_put (cs := #[.slice none 0 0, .slice none 0 0, .slice none 0 0]) ?_ 0 _ rfl; exact BK221.out) Try.underlying33 rfl (by kernel_rfl)) rfl ?_
    exact ⟨_, _, _, by rfl, by exact Kd.R_mono (Kd.R_far (p := ⟨gb221, 2, none⟩) (Kd.R_far (p := ⟨gb221, 1, none⟩) (Kd.R_far (p := ⟨gb221, 0, none⟩) (Kd.R_types HO_232000.out BK221.out (by decide)) (fun _ hk => hk.2) (.slice Ao99 x232000_1.length co99)) (fun _ hk => hk.2) (.slice (some ⟨go80, 0, none⟩) x232001_1.length co80)) (fun _ hk => hk.2) (.slice (some ⟨go83, 0, none⟩) x232002_1.length co93)) (fun _ hk => ⟨hk.1.1, hk.1.2.1⟩), by exact Kd.R_mono (Kd.R_far (p := ⟨gb221, 2, none⟩) (Kd.R_far (p := ⟨gb221, 1, none⟩) (Kd.R_far (p := ⟨gb221, 0, none⟩) (Kd.R_types HO_232001.out BK221.out (by decide)) (fun _ hk => hk.2) (.slice Ao99 x232000_1.length co99)) (fun _ hk => hk.2) (.slice (some ⟨go80, 0, none⟩) x232001_1.length co80)) (fun _ hk => hk.2) (.slice (some ⟨go83, 0, none⟩) x232002_1.length co93)) (fun _ hk => ⟨hk.1.1, hk.1.2.1⟩), by exact Kd.R_mono (Kd.R_far (p := ⟨gb221, 2, none⟩) (Kd.R_far (p := ⟨gb221, 1, none⟩) (Kd.R_far (p := ⟨gb221, 0, none⟩) (Kd.R_types HO_232002.out BK221.out (by decide)) (fun _ hk => hk.2) (.slice Ao99 x232000_1.length co99)) (fun _ hk => hk.2) (.slice (some ⟨go80, 0, none⟩) x232001_1.length co80)) (fun _ hk => hk.2) (.slice (some ⟨go83, 0, none⟩) x232002_1.length co93)) (fun _ hk => ⟨hk.1.1, hk.1.2.1⟩), by repeat (with_reducible first | exact HI0.out | refine IsS112.far ?_ NB0_221.out _), by repeat (with_reducible first | exact HB.out | refine below_set ?_ GE221.out), by repeat (with_reducible first | exact HK.out | refine keep_far ?_ GW221.out _)⟩
  rw [if_pos c23] at H
  have c23b0 : decide (0 < x5_1) = true := decide_eq_true c23
  clear c23
  obtain ⟨y241, hy241⟩ : ∃ y_ : List Int, y_ = (([2, 3, 4, 6, 8, 12, 5, 10, 15] : List Int)) := ⟨_, rfl⟩
  replace H : ((spec_l01Next.f s0_0 x1001_1 x1002_1 t235).bind fun bt244 => (if 0 ≤ bt244.1 then (if bt244.1 < (y241.length : Int) then ((spec_l01Next.f s0_0 bt244.2.1 bt244.2.2 (mx (wrap64 (Int.tdiv (rd y241 bt244.1) 3)) 1)).bind fun bt248 => ((spec_l01Next.f s0_0 bt248.2.1 bt248.2.2 3).bind fun bt251 => (if bt251.1 = 0 then ((spec_l01Next.f s0_0 bt251.2.1 bt251.2.2 (rd y241 bt244.1)).bind fun bt254 => (if x232000_1.length < 17592186044416 then (if x232001_1.length < 17592186044416 then (if x232002_1.length < 17592186044416 then (spec_l04DrawOf.l0 k1 t235 (wrap64 (x5_1 - 1)) s0_0 bt254.2.1 bt254.2.2 (x232000_1 ++ [wrap64 (1 + bt248.1)]) (x232001_1 ++ [rd y241 bt244.1]) (x232002_1 ++ [mn (wrap64 ((wrap64 (1 + bt248.1)) + bt254.1)) (rd y241 bt244.1)])) else (none)) else (none)) else (none))) else (if x232000_1.length < 17592186044416 then (if x232001_1.length < 17592186044416 then (if x232002_1.length < 17592186044416 then (spec_l04DrawOf.l0 k1 t235 (wrap64 (x5_1 - 1)) s0_0 bt251.2.1 bt251.2.2 (x232000_1 ++ [wrap64 (1 + bt248.1)]) (x232001_1 ++ [rd y241 bt244.1]) (x232002_1 ++ [rd y241 bt244.1])) else (none)) else (none)) else (none))))) else (none)) else (none))) = some (r1, r2, r3, r4, r5) := by (have H2_ := (Option.bind_some _ _).symm.trans H; rw [hy241]; with_reducible exact H2_)
  have Ny241 := Aside0.mk hy241
  clear hy241
  replace H := Option.bind_eq_some_iff.mp H
  obtain ⟨⟨t244, t245, t246⟩, A240, H⟩ := H
  replace H : (if 0 ≤ t244 then (if t244 < (y241.length : Int) then ((spec_l01Next.f s0_0 t245 t246 (mx (wrap64 (Int.tdiv (rd y241 t244) 3)) 1)).bind fun bt248 => ((spec_l01Next.f s0_0 bt248.2.1 bt248.2.2 3).bind fun bt251 => (if bt251.1 = 0 then ((spec_l01Next.f s0_0 bt251.2.1 bt251.2.2 (rd y241 t244)).bind fun bt254 => (if x232000_1.length < 17592186044416 then (if x232001_1.length < 17592186044416 then (if x232002_1.length < 17592186044416 then (spec_l04DrawOf.l0 k1 t235 (wrap64 (x5_1 - 1)) s0_0 bt254.2.1 bt254.2.2 (x232000_1 ++ [wrap64 (1 + bt248.1)]) (x232001_1 ++ [rd y241 t244]) (x232002_1 ++ [mn (wrap64 ((wrap64 (1 + bt248.1)) + bt254.1)) (rd y241 t244)])) else (none)) else (none)) else (none))) else (if x232000_1.length < 17592186044416 then (if x232001_1.length < 17592186044416 then (if x232002_1.length < 17592186044416 then (spec_l04DrawOf.l0 k1 t235 (wrap64 (x5_1 - 1)) s0_0 bt251.2.1 bt251.2.2 (x232000_1 ++ [wrap64 (1 + bt248.1)]) (x232001_1 ++ [rd y241 t244]) (x232002_1 ++ [rd y241 t244])) else (none)) else (none)) else (none))))) else (none)) else (none)) = some (r1, r2, r3, r4, r5) := H
  have A24 := Aside0.mk A240
  clear A240
  by_cases c25 : 0 ≤ t244
  rotate_left
  · rw [if_neg c25] at H
    exact absurd H (by simp)
  rw [if_pos c25] at H
  have c25b0 : decide (0 ≤ t244) = true := decide_eq_true c25
  clear c25
  by_cases c26 : t244 < (y241.length : Int)
  rotate_left
  · rw [if_neg c26] at H
    exact absurd H (by simp)
  rw [if_pos c26] at H
  have c26b0 : decide (t244 < (y241.length : Int)) = true := decide_eq_true c26
  clear c26
  obtain ⟨ji27, hji27⟩ : ∃ j_ : Int, (mx (wrap64 (Int.tdiv (rd y241 t244) 3)) 1) = j_ := ⟨_, rfl⟩
  replace H : ((spec_l01Next.f s0_0 t245 t246 (ji27)).bind fun bt248 => ((spec_l01Next.f s0_0 bt248.2.1 bt248.2.2 3).bind fun bt251 => (if bt251.1 = 0 then ((spec_l01Next.f s0_0 bt251.2.1 bt251.2.2 (rd y241 t244)).bind fun bt254 => (if x232000_1.length < 17592186044416 then (if x232001_1.length < 17592186044416 then (if x232002_1.length < 17592186044416 then (spec_l04DrawOf.l0 k1 t235 (wrap64 (x5_1 - 1)) s0_0 bt254.2.1 bt254.2.2 (x232000_1 ++ [wrap64 (1 + bt248.1)]) (x232001_1 ++ [rd y241 t244]) (x232002_1 ++ [mn (wrap64 ((wrap64 (1 + bt248.1)) + bt254.1)) (rd y241 t244)])) else (none)) else (none)) else (none))) else (if x232000_1.length < 17592186044416 then (if x232001_1.length < 17592186044416 then (if x232002_1.length < 17592186044416 then (spec_l04DrawOf.l0 k1 t235 (wrap64 (x5_1 - 1)) s0_0 bt251.2.1 bt251.2.2 (x232000_1 ++ [wrap64 (1 + bt248.1)]) (x232001_1 ++ [rd y241 t244]) (x232002_1 ++ [rd y241 t244])) else (none)) else (none)) else (none))))) = some (r1, r2, r3, r4, r5) := by (rw [hji27] at H; exact H)
  (try rw [hji27] at A24)
  (try (have hji27l : 1 ≤ ji27 := by (rw [← hji27]; unfold mx; (repeat' split) <;> omega)))
  (try (have hji27m : 0 ≤ ji27 := by omega))
  have hji27_ : (if (wrap64 (Int.tdiv (rd y241 t244) 3)) < 1 then 1 else (wrap64 (Int.tdiv (rd y241 t244) 3))) = ji27 := hji27
  replace H := Option.bind_eq_some_iff.mp H
  obtain ⟨⟨t248, t249, t250⟩, A280, H⟩ := H
  replace H : ((spec_l01Next.f s0_0 t249 t250 3).bind fun bt251 => (if bt251.1 = 0 then ((spec_l01Next.f s0_0 bt251.2.1 bt251.2.2 (rd y241 t244)).bind fun bt254 => (if x232000_1.length < 17592186044416 then (if x232001_1.length < 17592186044416 then (if x232002_1.length < 17592186044416 then (spec_l04DrawOf.l0 k1 t235 (wrap64 (x5_1 - 1)) s0_0 bt254.2.1 bt254.2.2 (x232000_1 ++ [wrap64 (1 + t248)]) (x232001_1 ++ [rd y241 t244]) (x232002_1 ++ [mn (wrap64 ((wrap64 (1 + t248)) + bt254.1)) (rd y241 t244)])) else (none)) else (none)) else (none))) else (if x232000_1.length < 17592186044416 then (if x232001_1.length < 17592186044416 then (if x232002_1.length < 17592186044416 then (spec_l04DrawOf.l0 k1 t235 (wrap64 (x5_1 - 1)) s0_0 bt251.2.1 bt251.2.2 (x232000_1 ++ [wrap64 (1 + t248)]) (x232001_1 ++ [rd y241 t244]) (x232002_1 ++ [rd y241 t244])) else (none)) else (none)) else (none)))) = some (r1, r2, r3, r4, r5) := H
  have A28 := Aside0.mk A280
  clear A280
  replace H := Option.bind_eq_some_iff.mp H
  obtain ⟨⟨t251, t252, t253⟩, A290, H⟩ := H
  replace H : (if t251 = 0 then ((spec_l01Next.f s0_0 t252 t253 (rd y241 t244)).bind fun bt254 => (if x232000_1.length < 17592186044416 then (if x232001_1.length < 17592186044416 then (if x232002_1.length < 17592186044416 then (spec_l04DrawOf.l0 k1 t235 (wrap64 (x5_1 - 1)) s0_0 bt254.2.1 bt254.2.2 (x232000_1 ++ [wrap64 (1 + t248)]) (x232001_1 ++ [rd y241 t244]) (x232002_1 ++ [mn (wrap64 ((wrap64 (1 + t248)) + bt254.1)) (rd y241 t244)])) else (none)) else (none)) else (none))) else (if x232000_1.length < 17592186044416 then (if x232001_1.length < 17592186044416 then (if x232002_1.length < 17592186044416 then (spec_l04DrawOf.l0 k1 t235 (wrap64 (x5_1 - 1)) s0_0 t252 t253 (x232000_1 ++ [wrap64 (1 + t248)]) (x232001_1 ++ [rd y241 t244]) (x232002_1 ++ [rd y241 t244])) else (none)) else (none)) else (none))) = some (r1, r2, r3, r4, r5) := H
  have A29 := Aside0.mk A290
  clear A290
  by_cases c30 : t251 = 0
  rotate_left
  · rw [if_neg c30] at H
    have c30b0 : (t251 == 0) = false := beq_eq_false_iff_ne.mpr c30
    have c30b1 : (t251 != 0) = true := bne_iff_ne.mpr c30
    by_cases c55 : x232000_1.length < 17592186044416
    rotate_left
    · rw [if_neg c55] at H
      exact absurd H (by simp)
    rw [if_pos c55] at H
    have LMc55 := Aside0.mk c55
    clear c55
    obtain ⟨y266, hy266⟩ : ∃ y_ : List Int, y_ = (x232000_1 ++ [wrap64 (1 + t248)]) := ⟨_, rfl⟩
    replace H : (if x232001_1.length < 17592186044416 then (if x232002_1.length < 17592186044416 then (spec_l04DrawOf.l0 k1 t235 (wrap64 (x5_1 - 1)) s0_0 t252 t253 y266 (x232001_1 ++ [rd y241 t244]) (x232002_1 ++ [rd y241 t244])) else (none)) else (none)) = some (r1, r2, r3, r4, r5) := by (rw [hy266]; with_reducible exact H)
    have Ny266 := Aside0.mk hy266
    clear hy266
    by_cases c56 : x232001_1.length < 17592186044416
    rotate_left
    · rw [if_neg c56] at H
      exact absurd H (by simp)
    rw [if_pos c56] at H
    have LMc56 := Aside0.mk c56
    clear c56
    obtain ⟨y269, hy269⟩ : ∃ y_ : List Int, y_ = (x232001_1 ++ [rd y241 t244]) := ⟨_, rfl⟩
    replace H : (if x232002_1.length < 17592186044416 then (spec_l04DrawOf.l0 k1 t235 (wrap64 (x5_1 - 1)) s0_0 t252 t253 y266 y269 (x232002_1 ++ [rd y241 t244])) else (none)) = some (r1, r2, r3, r4, r5) := by (rw [hy269]; with_reducible exact H)
    have Ny269 := Aside0.mk hy269
    clear hy269
    by_cases c57 : x232002_1.length < 17592186044416
    rotate_left
    · rw [if_neg c57] at H
      exact absurd H (by simp)
    rw [if_pos c57] at H
    have LMc57 := Aside0.mk c57
    clear c57
    obtain ⟨y272, hy272⟩ : ∃ y_ : List Int, y_ = (x232002_1 ++ [rd y241 t244]) := ⟨_, rfl⟩
    replace H : (spec_l04DrawOf.l0 k1 t235 (wrap64 (x5_1 - 1)) s0_0 t252 t253 y266 y269 y272) = some (r1, r2, r3, r4, r5) := by (rw [hy272]; with_reducible exact H)
    have Ny272 := Aside0.mk hy272
    clear hy272
    have H' := Aside0.mk H
    clear H
    go_upto_region 12 with (first | ((with_reducible refine gate_dst (N := 25) rfl ?_); refine Kd.R_lit (Kd.int .i64) _ 2 ?hg (N := 25) ?hd (xs := ([2, 3, 4, 6, 8, 12, 5, 10, 15] : List Int)) (inner := [.int .i64 2, .int .i64 3, .int .i64 4, .int .i64 6, .int .i64 8, .int .i64 12, .int .i64 5, .int .i64 10, .int .i64 15]) (ok := fun _ => True) (okp := fun _ => True) ?hr ?hp (fun _ hk => hk) trivial (Below.refl _ _) (Nat.le_refl _) (by simp) ?_; (case hd => rfl); (case hg => rfl); (case hr => (go_simp; done)); (case hp => exact (Reps.one (show Kd.M (Kd.int .i64) _ _ _ 2 [.int .i64 2] from rfl) (Reps.one (show Kd.M (Kd.int .i64) _ _ _ 3 [.int .i64 3] from rfl) (Reps.one (show Kd.M (Kd.int .i64) _ _ _ 4 [.int .i64 4] from rfl) (Reps.one (show Kd.M (Kd.int .i64) _ _ _ 6 [.int .i64 6] from rfl) (Reps.one (show Kd.M (Kd.int .i64) _ _ _ 8 [.int .i64 8] from rfl) (Reps.one (show Kd.M (Kd.int .i64) _ _ _ 12 [.int .i64 12] from rfl) (Reps.one (show Kd.M (Kd.int .i64) _ _ _ 5 [.int .i64 5] from rfl) (Reps.one (show Kd.M (Kd.int .i64) _ _ _ 10 [.int .i64 10] from rfl) (Reps.one (show Kd.M (Kd.int .i64) _ _ _ 15 [.int .i64 15] from rfl) (Reps.none _ _))))))))))); intro v242 w58 ho59 hb hg_ hnew_; clear hg_ hnew_; (rw [← Ny241.out] at ho59); have n0_ := Aside0.mk (Kd.R_elder' HO_232000.out (Kd.R_base ho59) hb); have n1_ := Aside0.mk (Kd.R_elder' HO_232001.out (Kd.R_base ho59) hb); have n2_ := Aside0.mk (Kd.R_elder' HO_232002.out (Kd.R_base ho59) hb); have n3_ := Aside0.mk (Kd.R_lower (Kd.R_new' (Kd.R_new' (Kd.R_new' ho59 (Kd.R_lt HO_232000.out)) (Kd.R_lt HO_232001.out)) (Kd.R_lt HO_232002.out)) (keep_size (w := w) (g := g) (row := none) HK.out)); have n4_ := Aside0.mk (blk_below (g := gb221) (o := .cells #[.slice none 0 0, .slice none 0 0, .slice none 0 0] 33 (0, 0)) BK221.out hb); have n5_ := Aside0.mk (blk_below (g := gb231) (o := .cells #[u232000, u232001, u232002] 33 (0, 0)) BK231.out hb); have n6_ := Aside0.mk (IsS112.below HI0.out hb); have n7_ := Aside0.mk (KeepBut.trans HK.out (KeepBut.of_below hb g none) (.inl rfl)); have n8_ := Aside0.mk (below_step HB.out hb); clear HO_232000; clear HO_232001; clear HO_232002; clear BK221; clear BK231; clear HI0; clear HK; clear HB; have HO_232000 := n0_; have HO_232001 := n1_; have HO_232002 := n2_; have HO243 := n3_; have BK221 := n4_; have BK231 := n5_; have HI0 := n6_; have HK := n7_; have HB := n8_; clear n0_ n1_ n2_ n3_ n4_ n5_ n6_ n7_ n8_; clear hb ho59) | ((with_reducible refine gate_callee (f := 110) rfl ?_); refine goesL_ (some 28) rfl rfl Try.func110 (by kernel_rfl) rfl #[.pointer (some ⟨g, 0, none⟩), .int .i64 t235] rfl (by (try simp only [List.map_toArray, List.map_cons, List.map_nil]); rfl) ?_; (with_reducible refine (spec_l01Next.calls g s0_0 x1001_1 x1002_1 t235 t244 t245 t246 w0 _ ?side1 ?side2 A24.out).mono ?_); (case side1 => exact HI0.out); (case side2 => exact HB.out); rintro e w60 ⟨rfl, hi, hb, hk⟩; refine ⟨_, rfl, ?_⟩; have n0_ := Aside0.mk (Kd.R_mono (Kd.R_keep (IsS112.apart (show IsS112 w0 _ g s0_0 x1001_1 x1002_1 from by exact HI0.out) HO_232000.out (by decide)) hk (fun _ h => h.2)) (fun _ h => h.1)); have n1_ := Aside0.mk (Kd.R_mono (Kd.R_keep (IsS112.apart (show IsS112 w0 _ g s0_0 x1001_1 x1002_1 from by exact HI0.out) HO_232001.out (by decide)) hk (fun _ h => h.2)) (fun _ h => h.1)); have n2_ := Aside0.mk (Kd.R_mono (Kd.R_keep (IsS112.apart (show IsS112 w0 _ g s0_0 x1001_1 x1002_1 from by exact HI0.out) HO_232002.out (by decide)) hk (fun _ h => h.2)) (fun _ h => h.1)); have n3_ := Aside0.mk (KeepBut.blk hk (g' := gb221) (o := .cells #[.slice none 0 0, .slice none 0 0, .slice none 0 0] 33 (0, 0)) BK221.out NB221_0.out (by simp)); have n4_ := Aside0.mk (KeepBut.blk hk (g' := gb231) (o := .cells #[u232000, u232001, u232002] 33 (0, 0)) BK231.out NB231_0.out (by simp)); have n5_ := Aside0.mk (Kd.R_mono (Kd.R_keep (IsS112.apart (show IsS112 w0 _ g s0_0 x1001_1 x1002_1 from by exact HI0.out) HO243.out (by decide)) hk (fun _ h => h.2)) (fun _ h => h.1)); have n6_ := Aside0.mk (KeepBut.trans HK.out hk (.inl rfl)); have n7_ := Aside0.mk (hb); have n8_ := Aside0.mk (hi); clear HO_232000; clear HO_232001; clear HO_232002; clear BK221; clear BK231; clear HO243; clear HK; clear HB; clear HI0; have HO_232000 := n0_; have HO_232001 := n1_; have HO_232002 := n2_; have BK221 := n3_; have BK231 := n4_; have HO243 := n5_; have HK := n6_; have HB := n7_; have HI0 := n8_; clear n0_ n1_ n2_ n3_ n4_ n5_ n6_ n7_ n8_; (try clear hb); (try clear hb2); (try clear hk); (try clear hi); obtain ⟨Ao61, co61, eo61⟩ := Kd.R_slice HO243.out; subst eo61; have p247 : 0 ≤ (t244 : Int) := of_decide_eq_true (by (with_reducible assumption)); have q247 : t244 < (y241.length : Int) := of_decide_eq_true (by (with_reducible assumption)); obtain ⟨ad247, e247, hx247_0⟩ := Kd.at_int (Kd.R_reads' HO243.out).2.2 t244 p247 q247; cases e247; replace p247 := eq_true p247; replace q247 := eq_true q247) | ((with_reducible refine gate_callee (f := 110) rfl ?_); refine goesL_ (some 35) rfl rfl Try.func110 (by kernel_rfl) rfl #[.pointer (some ⟨g, 0, none⟩), .int .i64 ji27] rfl (by (try simp only [List.map_toArray, List.map_cons, List.map_nil]); rfl) ?_; (with_reducible refine (spec_l01Next.calls g s0_0 t245 t246 ji27 t248 t249 t250 w0 _ ?side1 ?side2 A28.out).mono ?_); (case side1 => exact HI0.out); (case side2 => exact HB.out); rintro e w62 ⟨rfl, hi, hb, hk⟩; refine ⟨_, rfl, ?_⟩; have n0_ := Aside0.mk (Kd.R_mono (Kd.R_keep (IsS112.apart (show IsS112 w0 _ g s0_0 t245 t246 from by exact HI0.out) HO_232000.out (by decide)) hk (fun _ h => h.2)) (fun _ h => h.1)); have n1_ := Aside0.mk (Kd.R_mono (Kd.R_keep (IsS112.apart (show IsS112 w0 _ g s0_0 t245 t246 from by exact HI0.out) HO_232001.out (by decide)) hk (fun _ h => h.2)) (fun _ h => h.1)); have n2_ := Aside0.mk (Kd.R_mono (Kd.R_keep (IsS112.apart (show IsS112 w0 _ g s0_0 t245 t246 from by exact HI0.out) HO_232002.out (by decide)) hk (fun _ h => h.2)) (fun _ h => h.1)); have n3_ := Aside0.mk (KeepBut.blk hk (g' := gb221) (o := .cells #[.slice none 0 0, .slice none 0 0, .slice none 0 0] 33 (0, 0)) BK221.out NB221_0.out (by simp)); have n4_ := Aside0.mk (KeepBut.blk hk (g' := gb231) (o := .cells #[u232000, u232001, u232002] 33 (0, 0)) BK231.out NB231_0.out (by simp)); have n5_ := Aside0.mk (Kd.R_mono (Kd.R_keep (IsS112.apart (show IsS112 w0 _ g s0_0 t245 t246 from by exact HI0.out) HO243.out (by decide)) hk (fun _ h => h.2)) (fun _ h => h.1)); have n6_ := Aside0.mk (KeepBut.trans HK.out hk (.inl rfl)); have n7_ := Aside0.mk (hb); have n8_ := Aside0.mk (hi); clear HO_232000; clear HO_232001; clear HO_232002; clear BK221; clear BK231; clear HO243; clear HK; clear HB; clear HI0; have HO_232000 := n0_; have HO_232001 := n1_; have HO_232002 := n2_; have BK221 := n3_; have BK231 := n4_; have HO243 := n5_; have HK := n6_; have HB := n7_; have HI0 := n8_; clear n0_ n1_ n2_ n3_ n4_ n5_ n6_ n7_ n8_; (try clear hb); (try clear hb2); (try clear hk); (try clear hi)) | ((with_reducible refine gate_callee (f := 110) rfl ?_); refine goesL_ (some 39) rfl rfl Try.func110 (by kernel_rfl) rfl #[.pointer (some ⟨g, 0, none⟩), .int .i64 3] rfl (by (try simp only [List.map_toArray, List.map_cons, List.map_nil]); rfl) ?_; (with_reducible refine (spec_l01Next.calls g s0_0 t249 t250 3 t251 t252 t253 w0 _ ?side1 ?side2 A29.out).mono ?_); (case side1 => exact HI0.out); (case side2 => exact HB.out); rintro e w63 ⟨rfl, hi, hb, hk⟩; refine ⟨_, rfl, ?_⟩; have n0_ := Aside0.mk (Kd.R_mono (Kd.R_keep (IsS112.apart (show IsS112 w0 _ g s0_0 t249 t250 from by exact HI0.out) HO_232000.out (by decide)) hk (fun _ h => h.2)) (fun _ h => h.1)); have n1_ := Aside0.mk (Kd.R_mono (Kd.R_keep (IsS112.apart (show IsS112 w0 _ g s0_0 t249 t250 from by exact HI0.out) HO_232001.out (by decide)) hk (fun _ h => h.2)) (fun _ h => h.1)); have n2_ := Aside0.mk (Kd.R_mono (Kd.R_keep (IsS112.apart (show IsS112 w0 _ g s0_0 t249 t250 from by exact HI0.out) HO_232002.out (by decide)) hk (fun _ h => h.2)) (fun _ h => h.1)); have n3_ := Aside0.mk (KeepBut.blk hk (g' := gb221) (o := .cells #[.slice none 0 0, .slice none 0 0, .slice none 0 0] 33 (0, 0)) BK221.out NB221_0.out (by simp)); have n4_ := Aside0.mk (KeepBut.blk hk (g' := gb231) (o := .cells #[u232000, u232001, u232002] 33 (0, 0)) BK231.out NB231_0.out (by simp)); have n5_ := Aside0.mk (Kd.R_mono (Kd.R_keep (IsS112.apart (show IsS112 w0 _ g s0_0 t249 t250 from by exact HI0.out) HO243.out (by decide)) hk (fun _ h => h.2)) (fun _ h => h.1)); have n6_ := Aside0.mk (KeepBut.trans HK.out hk (.inl rfl)); have n7_ := Aside0.mk (hb); have n8_ := Aside0.mk (hi); clear HO_232000; clear HO_232001; clear HO_232002; clear BK221; clear BK231; clear HO243; clear HK; clear HB; clear HI0; have HO_232000 := n0_; have HO_232001 := n1_; have HO_232002 := n2_; have BK221 := n3_; have BK231 := n4_; have HO243 := n5_; have HK := n6_; have HB := n7_; have HI0 := n8_; clear n0_ n1_ n2_ n3_ n4_ n5_ n6_ n7_ n8_; (try clear hb); (try clear hb2); (try clear hk); (try clear hi); have hnb64 := NB231_221.out; have hnc64 := NB221_231.out; have hnb65 := NB231_0.out; have hnc65 := NB0_231.out; have hcz66_0 : w63.cell? ⟨gb231, 0, none⟩ = some (u232000) := (blk_cell BK231.out 0).trans rfl; have hcz66_1 : w63.cell? ⟨gb231, 1, none⟩ = some (u232001) := (blk_cell BK231.out 1).trans rfl; have hcz66_2 : w63.cell? ⟨gb231, 2, none⟩ = some (u232002) := (blk_cell BK231.out 2).trans rfl; have hfz66_0 := blk_frozen BK231.out 0; have hfz66_1 := blk_frozen BK231.out 1; have hfz66_2 := blk_frozen BK231.out 2) | ((with_reducible refine gate_builtin (b := .append) (xs := #[.tmp 49, .tmp 51]) rfl ?_); at_builtin; refine Kd.R_append (Kd.int .i64) w.heap.size rfl (.tmp 49) (.tmp 51) 22 2 (.int .i64 0) 8 rfl Try.underlying22 info2 rfl (by decide) (by omega) u232000 x232000_1 (wrap64 (1 + t248)) [.int .i64 (wrap64 (1 + t248))] (fun k_ => some k_ ≠ (u232001 : Value).ownBlock ∧ some k_ ≠ (u232002 : Value).ownBlock ∧ some k_ ≠ (.slice (some ad247) y241.length co61 : Value).ownBlock) (fun _ => False) rfl rfl ?aP (fun _ hk => hk.elim) ?aF ?aO (Below.refl _ _) ?aS ?aL ?_; (case aP => exact rfl); (case aF => exact (fun k_ hk => ⟨Kd.fresh' (Kd.R_lt HO_232001.out) k_ hk, Kd.fresh' (Kd.R_lt HO_232002.out) k_ hk, Kd.fresh' (Kd.R_lt HO243.out) k_ hk⟩)); (case aO => exact (by exact Kd.R_mono HO_232000.out (fun _ hk => ⟨hk.1.1, ⟨hk.1.2, hk.2⟩⟩))); (case aS => exact (keep_size (w := w) (g := g) (row := none) HK.out)); (case aL => have := LMc55.out; omega); intro v267 w67 ho hb hg hat; rw [← Ny266.out] at ho; have n0_ := Aside0.mk (Kd.R_after (ok := (fun k_ => some k_ ≠ (u232002 : Value).ownBlock ∧ some k_ ≠ (.slice (some ad247) y241.length co61 : Value).ownBlock)) (by exact Kd.R_mono HO_232001.out (fun _ hk => ⟨⟨hk.1.2, hk.2⟩, hk.1.1⟩)) hg hat); have n1_ := Aside0.mk (Kd.R_after (ok := (fun k_ => some k_ ≠ (u232001 : Value).ownBlock ∧ some k_ ≠ (.slice (some ad247) y241.length co61 : Value).ownBlock)) (by exact Kd.R_mono HO_232002.out (fun _ hk => ⟨⟨hk.1.2, hk.2⟩, hk.1.1⟩)) hg hat); have n2_ := Aside0.mk (blk_grown (g := gb221) (o := .cells #[.slice none 0 0, .slice none 0 0, .slice none 0 0] 33 (0, 0)) BK221.out hg (Kd.R_ne HO_232000.out BK221.out (by decide))); have n3_ := Aside0.mk (blk_grown (g := gb231) (o := .cells #[u232000, u232001, u232002] 33 (0, 0)) BK231.out hg (Kd.R_ne HO_232000.out BK231.out (by decide))); have n4_ := Aside0.mk (IsS112.grown HI0.out hg (IsS112.own_ne HI0.out HO_232000.out (by decide))); have n5_ := Aside0.mk (Kd.R_after (ok := (fun k_ => some k_ ≠ (u232001 : Value).ownBlock ∧ some k_ ≠ (u232002 : Value).ownBlock)) (by exact Kd.R_mono HO243.out (fun _ hk => ⟨⟨hk.1.2, hk.2⟩, hk.1.1.2⟩)) hg hat); have n6_ := Aside0.mk (below_weaken HB.out HL.out hb); have n7_ := Aside0.mk (KeepBut.trans HK.out (KeepBut.of_grown hg g) (Kd.R_base2 HO_232000.out)); have n8_ := Aside0.mk (ho); clear HO_232001; clear HO_232002; clear BK221; clear BK231; clear HI0; clear HO243; clear HB; clear HK; clear HO_232000; have HO_232001 := n0_; have HO_232002 := n1_; have BK221 := n2_; have BK231 := n3_; have HI0 := n4_; have HO243 := n5_; have HB := n6_; have HK := n7_; have HO268 := n8_; clear n0_ n1_ n2_ n3_ n4_ n5_ n6_ n7_ n8_; clear ho hb hg hat; obtain ⟨Ao68, co68, eo68⟩ := Kd.R_slice HO268.out; subst eo68; have hcz69_0 : w67.cell? ⟨gb231, 0, none⟩ = some (u232000) := (blk_cell BK231.out 0).trans rfl; have hcz69_1 : w67.cell? ⟨gb231, 1, none⟩ = some (u232001) := (blk_cell BK231.out 1).trans rfl; have hcz69_2 : w67.cell? ⟨gb231, 2, none⟩ = some (u232002) := (blk_cell BK231.out 2).trans rfl; have hfz69_0 := blk_frozen BK231.out 0; have hfz69_1 := blk_frozen BK231.out 1; have hfz69_2 := blk_frozen BK231.out 2))
    have m0_ := Aside0.mk (Kd.R_mono (Kd.R_far (p := ⟨gb231, 0, none⟩) (Kd.R_types HO_232001.out BK231.out (by decide)) (fun _ hk => hk.2) (.slice Ao68 y266.length co68)) (fun _ h_ => h_.1))
    have m1_ := Aside0.mk (Kd.R_mono (Kd.R_far (p := ⟨gb231, 0, none⟩) (Kd.R_types HO_232002.out BK231.out (by decide)) (fun _ hk => hk.2) (.slice Ao68 y266.length co68)) (fun _ h_ => h_.1))
    have m2_ := Aside0.mk (blk_far (p := ⟨gb231, 0, none⟩) BK221.out NB221_231.out (.slice Ao68 y266.length co68))
    have m3_ := Aside0.mk (blk_put (cs := #[u232000, u232001, u232002]) (cs' := #[.slice Ao68 y266.length co68, u232001, u232002]) BK231.out 0 (.slice Ao68 y266.length co68) rfl)
    have m4_ := Aside0.mk (IsS112.far (p := ⟨gb231, 0, none⟩) HI0.out NB0_231.out (.slice Ao68 y266.length co68))
    have m5_ := Aside0.mk (Kd.R_mono (Kd.R_far (p := ⟨gb231, 0, none⟩) (Kd.R_types HO243.out BK231.out (by decide)) (fun _ hk => hk.2) (.slice Ao68 y266.length co68)) (fun _ h_ => h_.1))
    have m6_ := Aside0.mk (below_set (j := 0) (v := (.slice Ao68 y266.length co68)) HB.out GE231.out)
    have m7_ := Aside0.mk (keep_far (p := ⟨gb231, 0, none⟩) HK.out GW231.out (.slice Ao68 y266.length co68))
    have m8_ := Aside0.mk (Kd.R_mono (Kd.R_far (p := ⟨gb231, 0, none⟩) (Kd.R_types HO268.out BK231.out (by decide)) (fun _ hk => hk.2) (.slice Ao68 y266.length co68)) (fun _ h_ => h_.1))
    clear hcz69_0 hcz69_1 hcz69_2 hfz69_0 hfz69_1 hfz69_2
    clear HO_232001 HO_232002 BK221 BK231 HI0 HO243 HB HK HO268
    generalize w67.setCell ⟨gb231, 0, none⟩ (.slice Ao68 y266.length co68) = w67n at m0_ m1_ m2_ m3_ m4_ m5_ m6_ m7_ m8_ ⊢
    have HO_232001 := m0_
    have HO_232002 := m1_
    have BK221 := m2_
    have BK231 := m3_
    have HI0 := m4_
    have HO243 := m5_
    have HB := m6_
    have HK := m7_
    have HO268 := m8_
    clear m0_ m1_ m2_ m3_ m4_ m5_ m6_ m7_ m8_
    have h9z_0 : w67n.cell? ⟨gb231, 0, none⟩ = some (.slice Ao68 y266.length co68) := (blk_cell BK231.out 0).trans rfl
    have h9z_1 : w67n.cell? ⟨gb231, 1, none⟩ = some (u232001) := (blk_cell BK231.out 1).trans rfl
    have h9z_2 : w67n.cell? ⟨gb231, 2, none⟩ = some (u232002) := (blk_cell BK231.out 2).trans rfl
    go_upto_region 13 with (((with_reducible refine gate_builtin (b := .append) (xs := #[.tmp 55, .tmp 57]) rfl ?_); at_builtin; refine Kd.R_append (Kd.int .i64) w.heap.size rfl (.tmp 55) (.tmp 57) 22 2 (.int .i64 0) 8 rfl Try.underlying22 info2 rfl (by decide) (by omega) u232001 x232001_1 (rd y241 t244) [.int .i64 (rd y241 t244)] (fun k_ => some k_ ≠ (u232002 : Value).ownBlock ∧ some k_ ≠ (.slice (some ad247) y241.length co61 : Value).ownBlock ∧ some k_ ≠ (.slice Ao68 y266.length co68 : Value).ownBlock) (fun _ => False) rfl (by (go_simp; done)) ?aP (fun _ hk => hk.elim) ?aF ?aO (Below.refl _ _) ?aS ?aL ?_; (case aP => exact rfl); (case aF => exact (fun k_ hk => ⟨Kd.fresh' (Kd.R_lt HO_232002.out) k_ hk, Kd.fresh' (Kd.R_lt HO243.out) k_ hk, Kd.fresh' (Kd.R_lt HO268.out) k_ hk⟩)); (case aO => exact (by exact Kd.R_mono HO_232001.out (fun _ hk => ⟨hk.1.1, ⟨hk.1.2, hk.2⟩⟩))); (case aS => exact (keep_size (w := w) (g := g) (row := none) HK.out)); (case aL => have := LMc56.out; omega); intro v270 w70 ho hb hg hat; rw [← Ny269.out] at ho; have n0_ := Aside0.mk (Kd.R_after (ok := (fun k_ => some k_ ≠ (.slice (some ad247) y241.length co61 : Value).ownBlock ∧ some k_ ≠ (.slice Ao68 y266.length co68 : Value).ownBlock)) (by exact Kd.R_mono HO_232002.out (fun _ hk => ⟨⟨hk.1.2, hk.2⟩, hk.1.1⟩)) hg hat); have n1_ := Aside0.mk (blk_grown (g := gb221) (o := .cells #[.slice none 0 0, .slice none 0 0, .slice none 0 0] 33 (0, 0)) BK221.out hg (Kd.R_ne HO_232001.out BK221.out (by decide))); have n2_ := Aside0.mk (blk_grown (g := gb231) (o := .cells #[.slice Ao68 y266.length co68, u232001, u232002] 33 (0, 0)) BK231.out hg (Kd.R_ne HO_232001.out BK231.out (by decide))); have n3_ := Aside0.mk (IsS112.grown HI0.out hg (IsS112.own_ne HI0.out HO_232001.out (by decide))); have n4_ := Aside0.mk (Kd.R_after (ok := (fun k_ => some k_ ≠ (u232002 : Value).ownBlock ∧ some k_ ≠ (.slice Ao68 y266.length co68 : Value).ownBlock)) (by exact Kd.R_mono HO243.out (fun _ hk => ⟨⟨hk.1.2, hk.2⟩, hk.1.1⟩)) hg hat); have n5_ := Aside0.mk (Kd.R_after (ok := (fun k_ => some k_ ≠ (u232002 : Value).ownBlock ∧ some k_ ≠ (.slice (some ad247) y241.length co61 : Value).ownBlock)) (by exact Kd.R_mono HO268.out (fun _ hk => ⟨⟨hk.2.1, hk.2.2⟩, hk.1⟩)) hg hat); have n6_ := Aside0.mk (below_weaken HB.out HL.out hb); have n7_ := Aside0.mk (KeepBut.trans HK.out (KeepBut.of_grown hg g) (Kd.R_base2 HO_232001.out)); have n8_ := Aside0.mk (ho); clear HO_232002; clear BK221; clear BK231; clear HI0; clear HO243; clear HO268; clear HB; clear HK; clear HO_232001; have HO_232002 := n0_; have BK221 := n1_; have BK231 := n2_; have HI0 := n3_; have HO243 := n4_; have HO268 := n5_; have HB := n6_; have HK := n7_; have HO271 := n8_; clear n0_ n1_ n2_ n3_ n4_ n5_ n6_ n7_ n8_; clear ho hb hg hat; obtain ⟨Ao71, co71, eo71⟩ := Kd.R_slice HO271.out; subst eo71; clear h9z_0 h9z_1 h9z_2; have hcz72_0 : w70.cell? ⟨gb231, 0, none⟩ = some (.slice Ao68 y266.length co68) := (blk_cell BK231.out 0).trans rfl; have hcz72_1 : w70.cell? ⟨gb231, 1, none⟩ = some (u232001) := (blk_cell BK231.out 1).trans rfl; have hcz72_2 : w70.cell? ⟨gb231, 2, none⟩ = some (u232002) := (blk_cell BK231.out 2).trans rfl; have hfz72_0 := blk_frozen BK231.out 0; have hfz72_1 := blk_frozen BK231.out 1; have hfz72_2 := blk_frozen BK231.out 2))
    have m0_ := Aside0.mk (Kd.R_mono (Kd.R_far (p := ⟨gb231, 1, none⟩) (Kd.R_types HO_232002.out BK231.out (by decide)) (fun _ hk => hk.2) (.slice Ao71 y269.length co71)) (fun _ h_ => h_.1))
    have m1_ := Aside0.mk (blk_far (p := ⟨gb231, 1, none⟩) BK221.out NB221_231.out (.slice Ao71 y269.length co71))
    have m2_ := Aside0.mk (blk_put (cs := #[.slice Ao68 y266.length co68, u232001, u232002]) (cs' := #[.slice Ao68 y266.length co68, .slice Ao71 y269.length co71, u232002]) BK231.out 1 (.slice Ao71 y269.length co71) rfl)
    have m3_ := Aside0.mk (IsS112.far (p := ⟨gb231, 1, none⟩) HI0.out NB0_231.out (.slice Ao71 y269.length co71))
    have m4_ := Aside0.mk (Kd.R_mono (Kd.R_far (p := ⟨gb231, 1, none⟩) (Kd.R_types HO243.out BK231.out (by decide)) (fun _ hk => hk.2) (.slice Ao71 y269.length co71)) (fun _ h_ => h_.1))
    have m5_ := Aside0.mk (Kd.R_mono (Kd.R_far (p := ⟨gb231, 1, none⟩) (Kd.R_types HO268.out BK231.out (by decide)) (fun _ hk => hk.2) (.slice Ao71 y269.length co71)) (fun _ h_ => h_.1))
    have m6_ := Aside0.mk (below_set (j := 1) (v := (.slice Ao71 y269.length co71)) HB.out GE231.out)
    have m7_ := Aside0.mk (keep_far (p := ⟨gb231, 1, none⟩) HK.out GW231.out (.slice Ao71 y269.length co71))
    have m8_ := Aside0.mk (Kd.R_mono (Kd.R_far (p := ⟨gb231, 1, none⟩) (Kd.R_types HO271.out BK231.out (by decide)) (fun _ hk => hk.2) (.slice Ao71 y269.length co71)) (fun _ h_ => h_.1))
    clear hcz72_0 hcz72_1 hcz72_2 hfz72_0 hfz72_1 hfz72_2
    clear HO_232002 BK221 BK231 HI0 HO243 HO268 HB HK HO271
    generalize w70.setCell ⟨gb231, 1, none⟩ (.slice Ao71 y269.length co71) = w70n at m0_ m1_ m2_ m3_ m4_ m5_ m6_ m7_ m8_ ⊢
    have HO_232002 := m0_
    have BK221 := m1_
    have BK231 := m2_
    have HI0 := m3_
    have HO243 := m4_
    have HO268 := m5_
    have HB := m6_
    have HK := m7_
    have HO271 := m8_
    clear m0_ m1_ m2_ m3_ m4_ m5_ m6_ m7_ m8_
    have h9z_0 : w70n.cell? ⟨gb231, 0, none⟩ = some (.slice Ao68 y266.length co68) := (blk_cell BK231.out 0).trans rfl
    have h9z_1 : w70n.cell? ⟨gb231, 1, none⟩ = some (.slice Ao71 y269.length co71) := (blk_cell BK231.out 1).trans rfl
    have h9z_2 : w70n.cell? ⟨gb231, 2, none⟩ = some (u232002) := (blk_cell BK231.out 2).trans rfl
    go_wp2_with (((with_reducible refine gate_builtin (b := .append) (xs := #[.tmp 61, .tmp 63]) rfl ?_); at_builtin; refine Kd.R_append (Kd.int .i64) w.heap.size rfl (.tmp 61) (.tmp 63) 22 2 (.int .i64 0) 8 rfl Try.underlying22 info2 rfl (by decide) (by omega) u232002 x232002_1 (rd y241 t244) [.int .i64 (rd y241 t244)] (fun k_ => some k_ ≠ (.slice (some ad247) y241.length co61 : Value).ownBlock ∧ some k_ ≠ (.slice Ao68 y266.length co68 : Value).ownBlock ∧ some k_ ≠ (.slice Ao71 y269.length co71 : Value).ownBlock) (fun _ => False) rfl (by (go_simp; done)) ?aP (fun _ hk => hk.elim) ?aF ?aO (Below.refl _ _) ?aS ?aL ?_; (case aP => exact rfl); (case aF => exact (fun k_ hk => ⟨Kd.fresh' (Kd.R_lt HO243.out) k_ hk, Kd.fresh' (Kd.R_lt HO268.out) k_ hk, Kd.fresh' (Kd.R_lt HO271.out) k_ hk⟩)); (case aO => exact (by exact Kd.R_mono HO_232002.out (fun _ hk => ⟨hk.1.1, ⟨hk.1.2, hk.2⟩⟩))); (case aS => exact (keep_size (w := w) (g := g) (row := none) HK.out)); (case aL => have := LMc57.out; omega); intro v273 w73 ho hb hg hat; rw [← Ny272.out] at ho; have n0_ := Aside0.mk (blk_grown (g := gb221) (o := .cells #[.slice none 0 0, .slice none 0 0, .slice none 0 0] 33 (0, 0)) BK221.out hg (Kd.R_ne HO_232002.out BK221.out (by decide))); have n1_ := Aside0.mk (blk_grown (g := gb231) (o := .cells #[.slice Ao68 y266.length co68, .slice Ao71 y269.length co71, u232002] 33 (0, 0)) BK231.out hg (Kd.R_ne HO_232002.out BK231.out (by decide))); have n2_ := Aside0.mk (IsS112.grown HI0.out hg (IsS112.own_ne HI0.out HO_232002.out (by decide))); have n3_ := Aside0.mk (Kd.R_after (ok := (fun k_ => some k_ ≠ (.slice Ao68 y266.length co68 : Value).ownBlock ∧ some k_ ≠ (.slice Ao71 y269.length co71 : Value).ownBlock)) (by exact Kd.R_mono HO243.out (fun _ hk => ⟨⟨hk.1.2, hk.2⟩, hk.1.1⟩)) hg hat); have n4_ := Aside0.mk (Kd.R_after (ok := (fun k_ => some k_ ≠ (.slice (some ad247) y241.length co61 : Value).ownBlock ∧ some k_ ≠ (.slice Ao71 y269.length co71 : Value).ownBlock)) (by exact Kd.R_mono HO268.out (fun _ hk => ⟨⟨hk.1.2, hk.2⟩, hk.1.1⟩)) hg hat); have n5_ := Aside0.mk (Kd.R_after (ok := (fun k_ => some k_ ≠ (.slice (some ad247) y241.length co61 : Value).ownBlock ∧ some k_ ≠ (.slice Ao68 y266.length co68 : Value).ownBlock)) (by exact Kd.R_mono HO271.out (fun _ hk => ⟨⟨hk.2.1, hk.2.2⟩, hk.1⟩)) hg hat); have n6_ := Aside0.mk (below_weaken HB.out HL.out hb); have n7_ := Aside0.mk (KeepBut.trans HK.out (KeepBut.of_grown hg g) (Kd.R_base2 HO_232002.out)); have n8_ := Aside0.mk (ho); clear BK221; clear BK231; clear HI0; clear HO243; clear HO268; clear HO271; clear HB; clear HK; clear HO_232002; have BK221 := n0_; have BK231 := n1_; have HI0 := n2_; have HO243 := n3_; have HO268 := n4_; have HO271 := n5_; have HB := n6_; have HK := n7_; have HO274 := n8_; clear n0_ n1_ n2_ n3_ n4_ n5_ n6_ n7_ n8_; clear ho hb hg hat; obtain ⟨Ao74, co74, eo74⟩ := Kd.R_slice HO274.out; subst eo74; clear h9z_0 h9z_1 h9z_2; have hcz75_0 : w73.cell? ⟨gb231, 0, none⟩ = some (.slice Ao68 y266.length co68) := (blk_cell BK231.out 0).trans rfl; have hcz75_1 : w73.cell? ⟨gb231, 1, none⟩ = some (.slice Ao71 y269.length co71) := (blk_cell BK231.out 1).trans rfl; have hcz75_2 : w73.cell? ⟨gb231, 2, none⟩ = some (u232002) := (blk_cell BK231.out 2).trans rfl; have hfz75_0 := blk_frozen BK231.out 0; have hfz75_1 := blk_frozen BK231.out 1; have hfz75_2 := blk_frozen BK231.out 2))
    go_roundg k1
    case measure => have := HK1.out; omega
    case rel => exact ⟨(wrap64 (x5_1 - 1)), (t252), (t253), (y266), (y269), (y272), (.slice Ao68 y266.length co68), (.slice Ao71 y269.length co71), (.slice Ao74 y272.length co74), (by rfl), H', ⟨by have := HK1.out; omega⟩, ⟨by exact Kd.R_mono (Kd.R_far (p := ⟨gb231, 2, none⟩) (Kd.R_types HO268.out BK231.out (by decide)) (fun _ hk => hk.2) (.slice Ao74 y272.length co74)) (fun _ hk => ⟨hk.1.1.2, hk.1.2⟩)⟩, ⟨by exact Kd.R_mono (Kd.R_far (p := ⟨gb231, 2, none⟩) (Kd.R_types HO271.out BK231.out (by decide)) (fun _ hk => hk.2) (.slice Ao74 y272.length co74)) (fun _ hk => ⟨hk.1.1.2, hk.1.2⟩)⟩, ⟨by exact Kd.R_mono (Kd.R_far (p := ⟨gb231, 2, none⟩) (Kd.R_types HO274.out BK231.out (by decide)) (fun _ hk => hk.2) (.slice Ao74 y272.length co74)) (fun _ hk => ⟨hk.1.2.1, hk.1.2.2⟩)⟩, ⟨by refine blk_far ?_ NB221_231.out _; exact BK221.out⟩, ⟨by refine blk_put (cs := #[.slice Ao68 y266.length co68, .slice Ao71 y269.length co71, u232002]) ?_ 2 _ rfl; exact BK231.out⟩, ⟨by repeat (with_reducible first | exact HI0.out | refine IsS112.far ?_ NB0_231.out _)⟩, ⟨by repeat (with_reducible first | exact HK.out | refine keep_far ?_ GW231.out _)⟩, ⟨by repeat (with_reducible first | exact HB.out | refine below_set ?_ GE231.out)⟩⟩
  rw [if_pos c30] at H
  have c30b0 : (t251 == 0) = true := beq_iff_eq.mpr c30
  have c30b1 : (t251 != 0) = false := bne_eq_false_iff_eq.mpr c30
  clear c30
  replace H := Option.bind_eq_some_iff.mp H
  obtain ⟨⟨t254, t255, t256⟩, A310, H⟩ := H
  replace H : (if x232000_1.length < 17592186044416 then (if x232001_1.length < 17592186044416 then (if x232002_1.length < 17592186044416 then (spec_l04DrawOf.l0 k1 t235 (wrap64 (x5_1 - 1)) s0_0 t255 t256 (x232000_1 ++ [wrap64 (1 + t248)]) (x232001_1 ++ [rd y241 t244]) (x232002_1 ++ [mn (wrap64 ((wrap64 (1 + t248)) + t254)) (rd y241 t244)])) else (none)) else (none)) else (none)) = some (r1, r2, r3, r4, r5) := H
  have A31 := Aside0.mk A310
  clear A310
  obtain ⟨ji32, hji32⟩ : ∃ j_ : Int, (mn (wrap64 ((wrap64 (1 + t248)) + t254)) (rd y241 t244)) = j_ := ⟨_, rfl⟩
  replace H : (if x232000_1.length < 17592186044416 then (if x232001_1.length < 17592186044416 then (if x232002_1.length < 17592186044416 then (spec_l04DrawOf.l0 k1 t235 (wrap64 (x5_1 - 1)) s0_0 t255 t256 (x232000_1 ++ [wrap64 (1 + t248)]) (x232001_1 ++ [rd y241 t244]) (x232002_1 ++ [ji32])) else (none)) else (none)) else (none)) = some (r1, r2, r3, r4, r5) := by (rw [hji32] at H; exact H)
  (try rw [hji32] at A24)
  (try rw [hji32] at A28)
  (try rw [hji32] at A29)
  (try rw [hji32] at A31)
  have hji32_ : (if (rd y241 t244) < (wrap64 ((wrap64 (1 + t248)) + t254)) then (rd y241 t244) else (wrap64 ((wrap64 (1 + t248)) + t254))) = ji32 := hji32
  by_cases c33 : x232000_1.length < 17592186044416
  rotate_left
  · rw [if_neg c33] at H
    exact absurd H (by simp)
  rw [if_pos c33] at H
  have LMc33 := Aside0.mk c33
  clear c33
  obtain ⟨y257, hy257⟩ : ∃ y_ : List Int, y_ = (x232000_1 ++ [wrap64 (1 + t248)]) := ⟨_, rfl⟩
  replace H : (if x232001_1.length < 17592186044416 then (if x232002_1.length < 17592186044416 then (spec_l04DrawOf.l0 k1 t235 (wrap64 (x5_1 - 1)) s0_0 t255 t256 y257 (x232001_1 ++ [rd y241 t244]) (x232002_1 ++ [ji32])) else (none)) else (none)) = some (r1, r2, r3, r4, r5) := by (rw [hy257]; with_reducible exact H)
  have Ny257 := Aside0.mk hy257
  clear hy257
  by_cases c34 : x232001_1.length < 17592186044416
  rotate_left
  · rw [if_neg c34] at H
    exact absurd H (by simp)
  rw [if_pos c34] at H
  have LMc34 := Aside0.mk c34
  clear c34
  obtain ⟨y260, hy260⟩ : ∃ y_ : List Int, y_ = (x232001_1 ++ [rd y241 t244]) := ⟨_, rfl⟩
  replace H : (if x232002_1.length < 17592186044416 then (spec_l04DrawOf.l0 k1 t235 (wrap64 (x5_1 - 1)) s0_0 t255 t256 y257 y260 (x232002_1 ++ [ji32])) else (none)) = some (r1, r2, r3, r4, r5) := by (rw [hy260]; with_reducible exact H)
  have Ny260 := Aside0.mk hy260
  clear hy260
  by_cases c35 : x232002_1.length < 17592186044416
  rotate_left
  · rw [if_neg c35] at H
    exact absurd H (by simp)
  rw [if_pos c35] at H
  have LMc35 := Aside0.mk c35
  clear c35
  obtain ⟨y263, hy263⟩ : ∃ y_ : List Int, y_ = (x232002_1 ++ [ji32]) := ⟨_, rfl⟩
  replace H : (spec_l04DrawOf.l0 k1 t235 (wrap64 (x5_1 - 1)) s0_0 t255 t256 y257 y260 y263) = some (r1, r2, r3, r4, r5) := by (rw [hy263]; with_reducible exact H)
  have Ny263 := Aside0.mk hy263
  clear hy263
  have H' := Aside0.mk H
  clear H
  go_upto_region 12 with (first | ((with_reducible refine gate_dst (N := 25) rfl ?_); refine Kd.R_lit (Kd.int .i64) _ 2 ?hg (N := 25) ?hd (xs := ([2, 3, 4, 6, 8, 12, 5, 10, 15] : List Int)) (inner := [.int .i64 2, .int .i64 3, .int .i64 4, .int .i64 6, .int .i64 8, .int .i64 12, .int .i64 5, .int .i64 10, .int .i64 15]) (ok := fun _ => True) (okp := fun _ => True) ?hr ?hp (fun _ hk => hk) trivial (Below.refl _ _) (Nat.le_refl _) (by simp) ?_; (case hd => rfl); (case hg => rfl); (case hr => (go_simp; done)); (case hp => exact (Reps.one (show Kd.M (Kd.int .i64) _ _ _ 2 [.int .i64 2] from rfl) (Reps.one (show Kd.M (Kd.int .i64) _ _ _ 3 [.int .i64 3] from rfl) (Reps.one (show Kd.M (Kd.int .i64) _ _ _ 4 [.int .i64 4] from rfl) (Reps.one (show Kd.M (Kd.int .i64) _ _ _ 6 [.int .i64 6] from rfl) (Reps.one (show Kd.M (Kd.int .i64) _ _ _ 8 [.int .i64 8] from rfl) (Reps.one (show Kd.M (Kd.int .i64) _ _ _ 12 [.int .i64 12] from rfl) (Reps.one (show Kd.M (Kd.int .i64) _ _ _ 5 [.int .i64 5] from rfl) (Reps.one (show Kd.M (Kd.int .i64) _ _ _ 10 [.int .i64 10] from rfl) (Reps.one (show Kd.M (Kd.int .i64) _ _ _ 15 [.int .i64 15] from rfl) (Reps.none _ _))))))))))); intro v242 w36 ho37 hb hg_ hnew_; clear hg_ hnew_; (rw [← Ny241.out] at ho37); have n0_ := Aside0.mk (Kd.R_elder' HO_232000.out (Kd.R_base ho37) hb); have n1_ := Aside0.mk (Kd.R_elder' HO_232001.out (Kd.R_base ho37) hb); have n2_ := Aside0.mk (Kd.R_elder' HO_232002.out (Kd.R_base ho37) hb); have n3_ := Aside0.mk (Kd.R_lower (Kd.R_new' (Kd.R_new' (Kd.R_new' ho37 (Kd.R_lt HO_232000.out)) (Kd.R_lt HO_232001.out)) (Kd.R_lt HO_232002.out)) (keep_size (w := w) (g := g) (row := none) HK.out)); have n4_ := Aside0.mk (blk_below (g := gb221) (o := .cells #[.slice none 0 0, .slice none 0 0, .slice none 0 0] 33 (0, 0)) BK221.out hb); have n5_ := Aside0.mk (blk_below (g := gb231) (o := .cells #[u232000, u232001, u232002] 33 (0, 0)) BK231.out hb); have n6_ := Aside0.mk (IsS112.below HI0.out hb); have n7_ := Aside0.mk (KeepBut.trans HK.out (KeepBut.of_below hb g none) (.inl rfl)); have n8_ := Aside0.mk (below_step HB.out hb); clear HO_232000; clear HO_232001; clear HO_232002; clear BK221; clear BK231; clear HI0; clear HK; clear HB; have HO_232000 := n0_; have HO_232001 := n1_; have HO_232002 := n2_; have HO243 := n3_; have BK221 := n4_; have BK231 := n5_; have HI0 := n6_; have HK := n7_; have HB := n8_; clear n0_ n1_ n2_ n3_ n4_ n5_ n6_ n7_ n8_; clear hb ho37) | ((with_reducible refine gate_callee (f := 110) rfl ?_); refine goesL_ (some 28) rfl rfl Try.func110 (by kernel_rfl) rfl #[.pointer (some ⟨g, 0, none⟩), .int .i64 t235] rfl (by (try simp only [List.map_toArray, List.map_cons, List.map_nil]); rfl) ?_; (with_reducible refine (spec_l01Next.calls g s0_0 x1001_1 x1002_1 t235 t244 t245 t246 w0 _ ?side1 ?side2 A24.out).mono ?_); (case side1 => exact HI0.out); (case side2 => exact HB.out); rintro e w38 ⟨rfl, hi, hb, hk⟩; refine ⟨_, rfl, ?_⟩; have n0_ := Aside0.mk (Kd.R_mono (Kd.R_keep (IsS112.apart (show IsS112 w0 _ g s0_0 x1001_1 x1002_1 from by exact HI0.out) HO_232000.out (by decide)) hk (fun _ h => h.2)) (fun _ h => h.1)); have n1_ := Aside0.mk (Kd.R_mono (Kd.R_keep (IsS112.apart (show IsS112 w0 _ g s0_0 x1001_1 x1002_1 from by exact HI0.out) HO_232001.out (by decide)) hk (fun _ h => h.2)) (fun _ h => h.1)); have n2_ := Aside0.mk (Kd.R_mono (Kd.R_keep (IsS112.apart (show IsS112 w0 _ g s0_0 x1001_1 x1002_1 from by exact HI0.out) HO_232002.out (by decide)) hk (fun _ h => h.2)) (fun _ h => h.1)); have n3_ := Aside0.mk (KeepBut.blk hk (g' := gb221) (o := .cells #[.slice none 0 0, .slice none 0 0, .slice none 0 0] 33 (0, 0)) BK221.out NB221_0.out (by simp)); have n4_ := Aside0.mk (KeepBut.blk hk (g' := gb231) (o := .cells #[u232000, u232001, u232002] 33 (0, 0)) BK231.out NB231_0.out (by simp)); have n5_ := Aside0.mk (Kd.R_mono (Kd.R_keep (IsS112.apart (show IsS112 w0 _ g s0_0 x1001_1 x1002_1 from by exact HI0.out) HO243.out (by decide)) hk (fun _ h => h.2)) (fun _ h => h.1)); have n6_ := Aside0.mk (KeepBut.trans HK.out hk (.inl rfl)); have n7_ := Aside0.mk (hb); have n8_ := Aside0.mk (hi); clear HO_232000; clear HO_232001; clear HO_232002; clear BK221; clear BK231; clear HO243; clear HK; clear HB; clear HI0; have HO_232000 := n0_; have HO_232001 := n1_; have HO_232002 := n2_; have BK221 := n3_; have BK231 := n4_; have HO243 := n5_; have HK := n6_; have HB := n7_; have HI0 := n8_; clear n0_ n1_ n2_ n3_ n4_ n5_ n6_ n7_ n8_; (try clear hb); (try clear hb2); (try clear hk); (try clear hi); obtain ⟨Ao39, co39, eo39⟩ := Kd.R_slice HO243.out; subst eo39; have p247 : 0 ≤ (t244 : Int) := of_decide_eq_true (by (with_reducible assumption)); have q247 : t244 < (y241.length : Int) := of_decide_eq_true (by (with_reducible assumption)); obtain ⟨ad247, e247, hx247_0⟩ := Kd.at_int (Kd.R_reads' HO243.out).2.2 t244 p247 q247; cases e247; replace p247 := eq_true p247; replace q247 := eq_true q247) | ((with_reducible refine gate_callee (f := 110) rfl ?_); refine goesL_ (some 35) rfl rfl Try.func110 (by kernel_rfl) rfl #[.pointer (some ⟨g, 0, none⟩), .int .i64 ji27] rfl (by (try simp only [List.map_toArray, List.map_cons, List.map_nil]); rfl) ?_; (with_reducible refine (spec_l01Next.calls g s0_0 t245 t246 ji27 t248 t249 t250 w0 _ ?side1 ?side2 A28.out).mono ?_); (case side1 => exact HI0.out); (case side2 => exact HB.out); rintro e w40 ⟨rfl, hi, hb, hk⟩; refine ⟨_, rfl, ?_⟩; have n0_ := Aside0.mk (Kd.R_mono (Kd.R_keep (IsS112.apart (show IsS112 w0 _ g s0_0 t245 t246 from by exact HI0.out) HO_232000.out (by decide)) hk (fun _ h => h.2)) (fun _ h => h.1)); have n1_ := Aside0.mk (Kd.R_mono (Kd.R_keep (IsS112.apart (show IsS112 w0 _ g s0_0 t245 t246 from by exact HI0.out) HO_232001.out (by decide)) hk (fun _ h => h.2)) (fun _ h => h.1)); have n2_ := Aside0.mk (Kd.R_mono (Kd.R_keep (IsS112.apart (show IsS112 w0 _ g s0_0 t245 t246 from by exact HI0.out) HO_232002.out (by decide)) hk (fun _ h => h.2)) (fun _ h => h.1)); have n3_ := Aside0.mk (KeepBut.blk hk (g' := gb221) (o := .cells #[.slice none 0 0, .slice none 0 0, .slice none 0 0] 33 (0, 0)) BK221.out NB221_0.out (by simp)); have n4_ := Aside0.mk (KeepBut.blk hk (g' := gb231) (o := .cells #[u232000, u232001, u232002] 33 (0, 0)) BK231.out NB231_0.out (by simp)); have n5_ := Aside0.mk (Kd.R_mono (Kd.R_keep (IsS112.apart (show IsS112 w0 _ g s0_0 t245 t246 from by exact HI0.out) HO243.out (by decide)) hk (fun _ h => h.2)) (fun _ h => h.1)); have n6_ := Aside0.mk (KeepBut.trans HK.out hk (.inl rfl)); have n7_ := Aside0.mk (hb); have n8_ := Aside0.mk (hi); clear HO_232000; clear HO_232001; clear HO_232002; clear BK221; clear BK231; clear HO243; clear HK; clear HB; clear HI0; have HO_232000 := n0_; have HO_232001 := n1_; have HO_232002 := n2_; have BK221 := n3_; have BK231 := n4_; have HO243 := n5_; have HK := n6_; have HB := n7_; have HI0 := n8_; clear n0_ n1_ n2_ n3_ n4_ n5_ n6_ n7_ n8_; (try clear hb); (try clear hb2); (try clear hk); (try clear hi)) | ((with_reducible refine gate_callee (f := 110) rfl ?_); refine goesL_ (some 39) rfl rfl Try.func110 (by kernel_rfl) rfl #[.pointer (some ⟨g, 0, none⟩), .int .i64 3] rfl (by (try simp only [List.map_toArray, List.map_cons, List.map_nil]); rfl) ?_; (with_reducible refine (spec_l01Next.calls g s0_0 t249 t250 3 t251 t252 t253 w0 _ ?side1 ?side2 A29.out).mono ?_); (case side1 => exact HI0.out); (case side2 => exact HB.out); rintro e w41 ⟨rfl, hi, hb, hk⟩; refine ⟨_, rfl, ?_⟩; have n0_ := Aside0.mk (Kd.R_mono (Kd.R_keep (IsS112.apart (show IsS112 w0 _ g s0_0 t249 t250 from by exact HI0.out) HO_232000.out (by decide)) hk (fun _ h => h.2)) (fun _ h => h.1)); have n1_ := Aside0.mk (Kd.R_mono (Kd.R_keep (IsS112.apart (show IsS112 w0 _ g s0_0 t249 t250 from by exact HI0.out) HO_232001.out (by decide)) hk (fun _ h => h.2)) (fun _ h => h.1)); have n2_ := Aside0.mk (Kd.R_mono (Kd.R_keep (IsS112.apart (show IsS112 w0 _ g s0_0 t249 t250 from by exact HI0.out) HO_232002.out (by decide)) hk (fun _ h => h.2)) (fun _ h => h.1)); have n3_ := Aside0.mk (KeepBut.blk hk (g' := gb221) (o := .cells #[.slice none 0 0, .slice none 0 0, .slice none 0 0] 33 (0, 0)) BK221.out NB221_0.out (by simp)); have n4_ := Aside0.mk (KeepBut.blk hk (g' := gb231) (o := .cells #[u232000, u232001, u232002] 33 (0, 0)) BK231.out NB231_0.out (by simp)); have n5_ := Aside0.mk (Kd.R_mono (Kd.R_keep (IsS112.apart (show IsS112 w0 _ g s0_0 t249 t250 from by exact HI0.out) HO243.out (by decide)) hk (fun _ h => h.2)) (fun _ h => h.1)); have n6_ := Aside0.mk (KeepBut.trans HK.out hk (.inl rfl)); have n7_ := Aside0.mk (hb); have n8_ := Aside0.mk (hi); clear HO_232000; clear HO_232001; clear HO_232002; clear BK221; clear BK231; clear HO243; clear HK; clear HB; clear HI0; have HO_232000 := n0_; have HO_232001 := n1_; have HO_232002 := n2_; have BK221 := n3_; have BK231 := n4_; have HO243 := n5_; have HK := n6_; have HB := n7_; have HI0 := n8_; clear n0_ n1_ n2_ n3_ n4_ n5_ n6_ n7_ n8_; (try clear hb); (try clear hb2); (try clear hk); (try clear hi)) | ((with_reducible refine gate_callee (f := 110) rfl ?_); refine goesL_ (some 44) rfl rfl Try.func110 (by kernel_rfl) rfl #[.pointer (some ⟨g, 0, none⟩), .int .i64 (rd y241 t244)] rfl (by (try simp only [List.map_toArray, List.map_cons, List.map_nil]); rfl) ?_; (with_reducible refine (spec_l01Next.calls g s0_0 t252 t253 (rd y241 t244) t254 t255 t256 w0 _ ?side1 ?side2 A31.out).mono ?_); (case side1 => exact HI0.out); (case side2 => exact HB.out); rintro e w42 ⟨rfl, hi, hb, hk⟩; refine ⟨_, rfl, ?_⟩; have n0_ := Aside0.mk (Kd.R_mono (Kd.R_keep (IsS112.apart (show IsS112 w0 _ g s0_0 t252 t253 from by exact HI0.out) HO_232000.out (by decide)) hk (fun _ h => h.2)) (fun _ h => h.1)); have n1_ := Aside0.mk (Kd.R_mono (Kd.R_keep (IsS112.apart (show IsS112 w0 _ g s0_0 t252 t253 from by exact HI0.out) HO_232001.out (by decide)) hk (fun _ h => h.2)) (fun _ h => h.1)); have n2_ := Aside0.mk (Kd.R_mono (Kd.R_keep (IsS112.apart (show IsS112 w0 _ g s0_0 t252 t253 from by exact HI0.out) HO_232002.out (by decide)) hk (fun _ h => h.2)) (fun _ h => h.1)); have n3_ := Aside0.mk (KeepBut.blk hk (g' := gb221) (o := .cells #[.slice none 0 0, .slice none 0 0, .slice none 0 0] 33 (0, 0)) BK221.out NB221_0.out (by simp)); have n4_ := Aside0.mk (KeepBut.blk hk (g' := gb231) (o := .cells #[u232000, u232001, u232002] 33 (0, 0)) BK231.out NB231_0.out (by simp)); have n5_ := Aside0.mk (Kd.R_mono (Kd.R_keep (IsS112.apart (show IsS112 w0 _ g s0_0 t252 t253 from by exact HI0.out) HO243.out (by decide)) hk (fun _ h => h.2)) (fun _ h => h.1)); have n6_ := Aside0.mk (KeepBut.trans HK.out hk (.inl rfl)); have n7_ := Aside0.mk (hb); have n8_ := Aside0.mk (hi); clear HO_232000; clear HO_232001; clear HO_232002; clear BK221; clear BK231; clear HO243; clear HK; clear HB; clear HI0; have HO_232000 := n0_; have HO_232001 := n1_; have HO_232002 := n2_; have BK221 := n3_; have BK231 := n4_; have HO243 := n5_; have HK := n6_; have HB := n7_; have HI0 := n8_; clear n0_ n1_ n2_ n3_ n4_ n5_ n6_ n7_ n8_; (try clear hb); (try clear hb2); (try clear hk); (try clear hi); have hnb43 := NB231_221.out; have hnc43 := NB221_231.out; have hnb44 := NB231_0.out; have hnc44 := NB0_231.out; have hcz45_0 : w42.cell? ⟨gb231, 0, none⟩ = some (u232000) := (blk_cell BK231.out 0).trans rfl; have hcz45_1 : w42.cell? ⟨gb231, 1, none⟩ = some (u232001) := (blk_cell BK231.out 1).trans rfl; have hcz45_2 : w42.cell? ⟨gb231, 2, none⟩ = some (u232002) := (blk_cell BK231.out 2).trans rfl; have hfz45_0 := blk_frozen BK231.out 0; have hfz45_1 := blk_frozen BK231.out 1; have hfz45_2 := blk_frozen BK231.out 2) | ((with_reducible refine gate_builtin (b := .append) (xs := #[.tmp 49, .tmp 51]) rfl ?_); at_builtin; refine Kd.R_append (Kd.int .i64) w.heap.size rfl (.tmp 49) (.tmp 51) 22 2 (.int .i64 0) 8 rfl Try.underlying22 info2 rfl (by decide) (by omega) u232000 x232000_1 (wrap64 (1 + t248)) [.int .i64 (wrap64 (1 + t248))] (fun k_ => some k_ ≠ (u232001 : Value).ownBlock ∧ some k_ ≠ (u232002 : Value).ownBlock ∧ some k_ ≠ (.slice (some ad247) y241.length co39 : Value).ownBlock) (fun _ => False) rfl rfl ?aP (fun _ hk => hk.elim) ?aF ?aO (Below.refl _ _) ?aS ?aL ?_; (case aP => exact rfl); (case aF => exact (fun k_ hk => ⟨Kd.fresh' (Kd.R_lt HO_232001.out) k_ hk, Kd.fresh' (Kd.R_lt HO_232002.out) k_ hk, Kd.fresh' (Kd.R_lt HO243.out) k_ hk⟩)); (case aO => exact (by exact Kd.R_mono HO_232000.out (fun _ hk => ⟨hk.1.1, ⟨hk.1.2, hk.2⟩⟩))); (case aS => exact (keep_size (w := w) (g := g) (row := none) HK.out)); (case aL => have := LMc33.out; omega); intro v258 w46 ho hb hg hat; rw [← Ny257.out] at ho; have n0_ := Aside0.mk (Kd.R_after (ok := (fun k_ => some k_ ≠ (u232002 : Value).ownBlock ∧ some k_ ≠ (.slice (some ad247) y241.length co39 : Value).ownBlock)) (by exact Kd.R_mono HO_232001.out (fun _ hk => ⟨⟨hk.1.2, hk.2⟩, hk.1.1⟩)) hg hat); have n1_ := Aside0.mk (Kd.R_after (ok := (fun k_ => some k_ ≠ (u232001 : Value).ownBlock ∧ some k_ ≠ (.slice (some ad247) y241.length co39 : Value).ownBlock)) (by exact Kd.R_mono HO_232002.out (fun _ hk => ⟨⟨hk.1.2, hk.2⟩, hk.1.1⟩)) hg hat); have n2_ := Aside0.mk (blk_grown (g := gb221) (o := .cells #[.slice none 0 0, .slice none 0 0, .slice none 0 0] 33 (0, 0)) BK221.out hg (Kd.R_ne HO_232000.out BK221.out (by decide))); have n3_ := Aside0.mk (blk_grown (g := gb231) (o := .cells #[u232000, u232001, u232002] 33 (0, 0)) BK231.out hg (Kd.R_ne HO_232000.out BK231.out (by decide))); have n4_ := Aside0.mk (IsS112.grown HI0.out hg (IsS112.own_ne HI0.out HO_232000.out (by decide))); have n5_ := Aside0.mk (Kd.R_after (ok := (fun k_ => some k_ ≠ (u232001 : Value).ownBlock ∧ some k_ ≠ (u232002 : Value).ownBlock)) (by exact Kd.R_mono HO243.out (fun _ hk => ⟨⟨hk.1.2, hk.2⟩, hk.1.1.2⟩)) hg hat); have n6_ := Aside0.mk (below_weaken HB.out HL.out hb); have n7_ := Aside0.mk (KeepBut.trans HK.out (KeepBut.of_grown hg g) (Kd.R_base2 HO_232000.out)); have n8_ := Aside0.mk (ho); clear HO_232001; clear HO_232002; clear BK221; clear BK231; clear HI0; clear HO243; clear HB; clear HK; clear HO_232000; have HO_232001 := n0_; have HO_232002 := n1_; have BK221 := n2_; have BK231 := n3_; have HI0 := n4_; have HO243 := n5_; have HB := n6_; have HK := n7_; have HO259 := n8_; clear n0_ n1_ n2_ n3_ n4_ n5_ n6_ n7_ n8_; clear ho hb hg hat; obtain ⟨Ao47, co47, eo47⟩ := Kd.R_slice HO259.out; subst eo47; have hcz48_0 : w46.cell? ⟨gb231, 0, none⟩ = some (u232000) := (blk_cell BK231.out 0).trans rfl; have hcz48_1 : w46.cell? ⟨gb231, 1, none⟩ = some (u232001) := (blk_cell BK231.out 1).trans rfl; have hcz48_2 : w46.cell? ⟨gb231, 2, none⟩ = some (u232002) := (blk_cell BK231.out 2).trans rfl; have hfz48_0 := blk_frozen BK231.out 0; have hfz48_1 := blk_frozen BK231.out 1; have hfz48_2 := blk_frozen BK231.out 2))
  have m0_ := Aside0.mk (Kd.R_mono (Kd.R_far (p := ⟨gb231, 0, none⟩) (Kd.R_types HO_232001.out BK231.out (by decide)) (fun _ hk => hk.2) (.slice Ao47 y257.length co47)) (fun _ h_ => h_.1))
  have m1_ := Aside0.mk (Kd.R_mono (Kd.R_far (p := ⟨gb231, 0, none⟩) (Kd.R_types HO_232002.out BK231.out (by decide)) (fun _ hk => hk.2) (.slice Ao47 y257.length co47)) (fun _ h_ => h_.1))
  have m2_ := Aside0.mk (blk_far (p := ⟨gb231, 0, none⟩) BK221.out NB221_231.out (.slice Ao47 y257.length co47))
  have m3_ := Aside0.mk (blk_put (cs := #[u232000, u232001, u232002]) (cs' := #[.slice Ao47 y257.length co47, u232001, u232002]) BK231.out 0 (.slice Ao47 y257.length co47) rfl)
  have m4_ := Aside0.mk (IsS112.far (p := ⟨gb231, 0, none⟩) HI0.out NB0_231.out (.slice Ao47 y257.length co47))
  have m5_ := Aside0.mk (Kd.R_mono (Kd.R_far (p := ⟨gb231, 0, none⟩) (Kd.R_types HO243.out BK231.out (by decide)) (fun _ hk => hk.2) (.slice Ao47 y257.length co47)) (fun _ h_ => h_.1))
  have m6_ := Aside0.mk (below_set (j := 0) (v := (.slice Ao47 y257.length co47)) HB.out GE231.out)
  have m7_ := Aside0.mk (keep_far (p := ⟨gb231, 0, none⟩) HK.out GW231.out (.slice Ao47 y257.length co47))
  have m8_ := Aside0.mk (Kd.R_mono (Kd.R_far (p := ⟨gb231, 0, none⟩) (Kd.R_types HO259.out BK231.out (by decide)) (fun _ hk => hk.2) (.slice Ao47 y257.length co47)) (fun _ h_ => h_.1))
  clear hcz48_0 hcz48_1 hcz48_2 hfz48_0 hfz48_1 hfz48_2
  clear HO_232001 HO_232002 BK221 BK231 HI0 HO243 HB HK HO259
  generalize w46.setCell ⟨gb231, 0, none⟩ (.slice Ao47 y257.length co47) = w46n at m0_ m1_ m2_ m3_ m4_ m5_ m6_ m7_ m8_ ⊢
  have HO_232001 := m0_
  have HO_232002 := m1_
  have BK221 := m2_
  have BK231 := m3_
  have HI0 := m4_
  have HO243 := m5_
  have HB := m6_
  have HK := m7_
  have HO259 := m8_
  clear m0_ m1_ m2_ m3_ m4_ m5_ m6_ m7_ m8_
  have h9z_0 : w46n.cell? ⟨gb231, 0, none⟩ = some (.slice Ao47 y257.length co47) := (blk_cell BK231.out 0).trans rfl
  have h9z_1 : w46n.cell? ⟨gb231, 1, none⟩ = some (u232001) := (blk_cell BK231.out 1).trans rfl
  have h9z_2 : w46n.cell? ⟨gb231, 2, none⟩ = some (u232002) := (blk_cell BK231.out 2).trans rfl
  go_upto_region 13 with (((with_reducible refine gate_builtin (b := .append) (xs := #[.tmp 55, .tmp 57]) rfl ?_); at_builtin; refine Kd.R_append (Kd.int .i64) w.heap.size rfl (.tmp 55) (.tmp 57) 22 2 (.int .i64 0) 8 rfl Try.underlying22 info2 rfl (by decide) (by omega) u232001 x232001_1 (rd y241 t244) [.int .i64 (rd y241 t244)] (fun k_ => some k_ ≠ (u232002 : Value).ownBlock ∧ some k_ ≠ (.slice (some ad247) y241.length co39 : Value).ownBlock ∧ some k_ ≠ (.slice Ao47 y257.length co47 : Value).ownBlock) (fun _ => False) rfl (by (go_simp; done)) ?aP (fun _ hk => hk.elim) ?aF ?aO (Below.refl _ _) ?aS ?aL ?_; (case aP => exact rfl); (case aF => exact (fun k_ hk => ⟨Kd.fresh' (Kd.R_lt HO_232002.out) k_ hk, Kd.fresh' (Kd.R_lt HO243.out) k_ hk, Kd.fresh' (Kd.R_lt HO259.out) k_ hk⟩)); (case aO => exact (by exact Kd.R_mono HO_232001.out (fun _ hk => ⟨hk.1.1, ⟨hk.1.2, hk.2⟩⟩))); (case aS => exact (keep_size (w := w) (g := g) (row := none) HK.out)); (case aL => have := LMc34.out; omega); intro v261 w49 ho hb hg hat; rw [← Ny260.out] at ho; have n0_ := Aside0.mk (Kd.R_after (ok := (fun k_ => some k_ ≠ (.slice (some ad247) y241.length co39 : Value).ownBlock ∧ some k_ ≠ (.slice Ao47 y257.length co47 : Value).ownBlock)) (by exact Kd.R_mono HO_232002.out (fun _ hk => ⟨⟨hk.1.2, hk.2⟩, hk.1.1⟩)) hg hat); have n1_ := Aside0.mk (blk_grown (g := gb221) (o := .cells #[.slice none 0 0, .slice none 0 0, .slice none 0 0] 33 (0, 0)) BK221.out hg (Kd.R_ne HO_232001.out BK221.out (by decide))); have n2_ := Aside0.mk (blk_grown (g := gb231) (o := .cells #[.slice Ao47 y257.length co47, u232001, u232002] 33 (0, 0)) BK231.out hg (Kd.R_ne HO_232001.out BK231.out (by decide))); have n3_ := Aside0.mk (IsS112.grown HI0.out hg (IsS112.own_ne HI0.out HO_232001.out (by decide))); have n4_ := Aside0.mk (Kd.R_after (ok := (fun k_ => some k_ ≠ (u232002 : Value).ownBlock ∧ some k_ ≠ (.slice Ao47 y257.length co47 : Value).ownBlock)) (by exact Kd.R_mono HO243.out (fun _ hk => ⟨⟨hk.1.2, hk.2⟩, hk.1.1⟩)) hg hat); have n5_ := Aside0.mk (Kd.R_after (ok := (fun k_ => some k_ ≠ (u232002 : Value).ownBlock ∧ some k_ ≠ (.slice (some ad247) y241.length co39 : Value).ownBlock)) (by exact Kd.R_mono HO259.out (fun _ hk => ⟨⟨hk.2.1, hk.2.2⟩, hk.1⟩)) hg hat); have n6_ := Aside0.mk (below_weaken HB.out HL.out hb); have n7_ := Aside0.mk (KeepBut.trans HK.out (KeepBut.of_grown hg g) (Kd.R_base2 HO_232001.out)); have n8_ := Aside0.mk (ho); clear HO_232002; clear BK221; clear BK231; clear HI0; clear HO243; clear HO259; clear HB; clear HK; clear HO_232001; have HO_232002 := n0_; have BK221 := n1_; have BK231 := n2_; have HI0 := n3_; have HO243 := n4_; have HO259 := n5_; have HB := n6_; have HK := n7_; have HO262 := n8_; clear n0_ n1_ n2_ n3_ n4_ n5_ n6_ n7_ n8_; clear ho hb hg hat; obtain ⟨Ao50, co50, eo50⟩ := Kd.R_slice HO262.out; subst eo50; clear h9z_0 h9z_1 h9z_2; have hcz51_0 : w49.cell? ⟨gb231, 0, none⟩ = some (.slice Ao47 y257.length co47) := (blk_cell BK231.out 0).trans rfl; have hcz51_1 : w49.cell? ⟨gb231, 1, none⟩ = some (u232001) := (blk_cell BK231.out 1).trans rfl; have hcz51_2 : w49.cell? ⟨gb231, 2, none⟩ = some (u232002) := (blk_cell BK231.out 2).trans rfl; have hfz51_0 := blk_frozen BK231.out 0; have hfz51_1 := blk_frozen BK231.out 1; have hfz51_2 := blk_frozen BK231.out 2))
  have m0_ := Aside0.mk (Kd.R_mono (Kd.R_far (p := ⟨gb231, 1, none⟩) (Kd.R_types HO_232002.out BK231.out (by decide)) (fun _ hk => hk.2) (.slice Ao50 y260.length co50)) (fun _ h_ => h_.1))
  have m1_ := Aside0.mk (blk_far (p := ⟨gb231, 1, none⟩) BK221.out NB221_231.out (.slice Ao50 y260.length co50))
  have m2_ := Aside0.mk (blk_put (cs := #[.slice Ao47 y257.length co47, u232001, u232002]) (cs' := #[.slice Ao47 y257.length co47, .slice Ao50 y260.length co50, u232002]) BK231.out 1 (.slice Ao50 y260.length co50) rfl)
  have m3_ := Aside0.mk (IsS112.far (p := ⟨gb231, 1, none⟩) HI0.out NB0_231.out (.slice Ao50 y260.length co50))
  have m4_ := Aside0.mk (Kd.R_mono (Kd.R_far (p := ⟨gb231, 1, none⟩) (Kd.R_types HO243.out BK231.out (by decide)) (fun _ hk => hk.2) (.slice Ao50 y260.length co50)) (fun _ h_ => h_.1))
  have m5_ := Aside0.mk (Kd.R_mono (Kd.R_far (p := ⟨gb231, 1, none⟩) (Kd.R_types HO259.out BK231.out (by decide)) (fun _ hk => hk.2) (.slice Ao50 y260.length co50)) (fun _ h_ => h_.1))
  have m6_ := Aside0.mk (below_set (j := 1) (v := (.slice Ao50 y260.length co50)) HB.out GE231.out)
  have m7_ := Aside0.mk (keep_far (p := ⟨gb231, 1, none⟩) HK.out GW231.out (.slice Ao50 y260.length co50))
  have m8_ := Aside0.mk (Kd.R_mono (Kd.R_far (p := ⟨gb231, 1, none⟩) (Kd.R_types HO262.out BK231.out (by decide)) (fun _ hk => hk.2) (.slice Ao50 y260.length co50)) (fun _ h_ => h_.1))
  clear hcz51_0 hcz51_1 hcz51_2 hfz51_0 hfz51_1 hfz51_2
  clear HO_232002 BK221 BK231 HI0 HO243 HO259 HB HK HO262
  generalize w49.setCell ⟨gb231, 1, none⟩ (.slice Ao50 y260.length co50) = w49n at m0_ m1_ m2_ m3_ m4_ m5_ m6_ m7_ m8_ ⊢
  have HO_232002 := m0_
  have BK221 := m1_
  have BK231 := m2_
  have HI0 := m3_
  have HO243 := m4_
  have HO259 := m5_
  have HB := m6_
  have HK := m7_
  have HO262 := m8_
  clear m0_ m1_ m2_ m3_ m4_ m5_ m6_ m7_ m8_
  have h9z_0 : w49n.cell? ⟨gb231, 0, none⟩ = some (.slice Ao47 y257.length co47) := (blk_cell BK231.out 0).trans rfl
  have h9z_1 : w49n.cell? ⟨gb231, 1, none⟩ = some (.slice Ao50 y260.length co50) := (blk_cell BK231.out 1).trans rfl
  have h9z_2 : w49n.cell? ⟨gb231, 2, none⟩ = some (u232002) := (blk_cell BK231.out 2).trans rfl
  go_wp2_with (((with_reducible refine gate_builtin (b := .append) (xs := #[.tmp 61, .tmp 63]) rfl ?_); at_builtin; refine Kd.R_append (Kd.int .i64) w.heap.size rfl (.tmp 61) (.tmp 63) 22 2 (.int .i64 0) 8 rfl Try.underlying22 info2 rfl (by decide) (by omega) u232002 x232002_1 ji32 [.int .i64 ji32] (fun k_ => some k_ ≠ (.slice (some ad247) y241.length co39 : Value).ownBlock ∧ some k_ ≠ (.slice Ao47 y257.length co47 : Value).ownBlock ∧ some k_ ≠ (.slice Ao50 y260.length co50 : Value).ownBlock) (fun _ => False) rfl (by (go_simp; done)) ?aP (fun _ hk => hk.elim) ?aF ?aO (Below.refl _ _) ?aS ?aL ?_; (case aP => exact rfl); (case aF => exact (fun k_ hk => ⟨Kd.fresh' (Kd.R_lt HO243.out) k_ hk, Kd.fresh' (Kd.R_lt HO259.out) k_ hk, Kd.fresh' (Kd.R_lt HO262.out) k_ hk⟩)); (case aO => exact (by exact Kd.R_mono HO_232002.out (fun _ hk => ⟨hk.1.1, ⟨hk.1.2, hk.2⟩⟩))); (case aS => exact (keep_size (w := w) (g := g) (row := none) HK.out)); (case aL => have := LMc35.out; omega); intro v264 w52 ho hb hg hat; rw [← Ny263.out] at ho; have n0_ := Aside0.mk (blk_grown (g := gb221) (o := .cells #[.slice none 0 0, .slice none 0 0, .slice none 0 0] 33 (0, 0)) BK221.out hg (Kd.R_ne HO_232002.out BK221.out (by decide))); have n1_ := Aside0.mk (blk_grown (g := gb231) (o := .cells #[.slice Ao47 y257.length co47, .slice Ao50 y260.length co50, u232002] 33 (0, 0)) BK231.out hg (Kd.R_ne HO_232002.out BK231.out (by decide))); have n2_ := Aside0.mk (IsS112.grown HI0.out hg (IsS112.own_ne HI0.out HO_232002.out (by decide))); have n3_ := Aside0.mk (Kd.R_after (ok := (fun k_ => some k_ ≠ (.slice Ao47 y257.length co47 : Value).ownBlock ∧ some k_ ≠ (.slice Ao50 y260.length co50 : Value).ownBlock)) (by exact Kd.R_mono HO243.out (fun _ hk => ⟨⟨hk.1.2, hk.2⟩, hk.1.1⟩)) hg hat); have n4_ := Aside0.mk (Kd.R_after (ok := (fun k_ => some k_ ≠ (.slice (some ad247) y241.length co39 : Value).ownBlock ∧ some k_ ≠ (.slice Ao50 y260.length co50 : Value).ownBlock)) (by exact Kd.R_mono HO259.out (fun _ hk => ⟨⟨hk.1.2, hk.2⟩, hk.1.1⟩)) hg hat); have n5_ := Aside0.mk (Kd.R_after (ok := (fun k_ => some k_ ≠ (.slice (some ad247) y241.length co39 : Value).ownBlock ∧ some k_ ≠ (.slice Ao47 y257.length co47 : Value).ownBlock)) (by exact Kd.R_mono HO262.out (fun _ hk => ⟨⟨hk.2.1, hk.2.2⟩, hk.1⟩)) hg hat); have n6_ := Aside0.mk (below_weaken HB.out HL.out hb); have n7_ := Aside0.mk (KeepBut.trans HK.out (KeepBut.of_grown hg g) (Kd.R_base2 HO_232002.out)); have n8_ := Aside0.mk (ho); clear BK221; clear BK231; clear HI0; clear HO243; clear HO259; clear HO262; clear HB; clear HK; clear HO_232002; have BK221 := n0_; have BK231 := n1_; have HI0 := n2_; have HO243 := n3_; have HO259 := n4_; have HO262 := n5_; have HB := n6_; have HK := n7_; have HO265 := n8_; clear n0_ n1_ n2_ n3_ n4_ n5_ n6_ n7_ n8_; clear ho hb hg hat; obtain ⟨Ao53, co53, eo53⟩ := Kd.R_slice HO265.out; subst eo53; clear h9z_0 h9z_1 h9z_2; have hcz54_0 : w52.cell? ⟨gb231, 0, none⟩ = some (.slice Ao47 y257.length co47) := (blk_cell BK231.out 0).trans rfl; have hcz54_1 : w52.cell? ⟨gb231, 1, none⟩ = some (.slice Ao50 y260.length co50) := (blk_cell BK231.out 1).trans rfl; have hcz54_2 : w52.cell? ⟨gb231, 2, none⟩ = some (u232002) := (blk_cell BK231.out 2).trans rfl; have hfz54_0 := blk_frozen BK231.out 0; have hfz54_1 := blk_frozen BK231.out 1; have hfz54_2 := blk_frozen BK231.out 2))
  go_roundg k1
  case measure => have := HK1.out; omega
  case rel => exact ⟨(wrap64 (x5_1 - 1)), (t255), (t256), (y257), (y260), (y263), (.slice Ao47 y257.length co47), (.slice Ao50 y260.length co50), (.slice Ao53 y263.length co53), (by rfl), H', ⟨by have := HK1.out; omega⟩, ⟨by exact Kd.R_mono (Kd.R_far (p := ⟨gb231, 2, none⟩) (Kd.R_types HO259.out BK231.out (by decide)) (fun _ hk => hk.2) (.slice Ao53 y263.length co53)) (fun _ hk => ⟨hk.1.1.2, hk.1.2⟩)⟩, ⟨by exact Kd.R_mono (Kd.R_far (p := ⟨gb231, 2, none⟩) (Kd.R_types HO262.out BK231.out (by decide)) (fun _ hk => hk.2) (.slice Ao53 y263.length co53)) (fun _ hk => ⟨hk.1.1.2, hk.1.2⟩)⟩, ⟨by exact Kd.R_mono (Kd.R_far (p := ⟨gb231, 2, none⟩) (Kd.R_types HO265.out BK231.out (by decide)) (fun _ hk => hk.2) (.slice Ao53 y263.length co53)) (fun _ hk => ⟨hk.1.2.1, hk.1.2.2⟩)⟩, ⟨by refine blk_far ?_ NB221_231.out _; exact BK221.out⟩, ⟨by refine blk_put (cs := #[.slice Ao47 y257.length co47, .slice Ao50 y260.length co50, u232002]) ?_ 2 _ rfl; exact BK231.out⟩, ⟨by repeat (with_reducible first | exact HI0.out | refine IsS112.far ?_ NB0_231.out _)⟩, ⟨by repeat (with_reducible first | exact HK.out | refine keep_far ?_ GW231.out _)⟩, ⟨by repeat (with_reducible first | exact HB.out | refine below_set ?_ GE231.out)⟩⟩
end Go.Proofs.Ytoakdilhljnjfaa.Q
namespace Go.Proofs.Ytoakdilhljnjfaa.Q
open Go.RowKit Go.Proofs.YtoakdilhljnjfaaW.PrintWords Go.Proofs.YtoakdilhljnjfaaW.PrintLast Go.Proofs.YtoakdilhljnjfaaW.PrintMore
attribute [local go_sem] max2_int min2_int max_two min_two max_three min_three max_four min_four   -- for this text's walks alone
set_option linter.unusedVariables false
set_option linter.unusedSimpArgs false
def spec_l04Draw.f (k : Nat) (l0 : List Int) : Option (List Int × List Int × List Int) := (spec_l01From.f k l0).bind fun bt289 => ((spec_l04DrawOf.f k bt289.1 bt289.2.1 bt289.2.2).bind fun bt293 => ((spec_l04Bad.f bt289.1 bt293.2.2.2.1 bt293.2.2.2.2 bt293.1 bt293.2.1 bt293.2.2.1).bind fun bt304 => (some (bt304.1, bt304.2.1, bt304.2.2.1))))
set_option maxHeartbeats 8000000 in
set_option maxRecDepth 100000 in
theorem spec_l04Draw.calls (k : Nat) (A0 : Option Addr) (c0 : Nat) (l0 : List Int) (r1 : List Int) (r2 : List Int) (r3 : List Int) (w : World) (hr0 : Kd.C (Kd.int .u8) w A0 l0.length l0) (hc0 : l0.length ≤ c0) (h : spec_l04Draw.f k l0 = some (r1, r2, r3)) :
 Calls Try.prog 66 #[.slice A0 l0.length c0] w fun e w' => ∃ v0_ v1_ v2_ : Value, e = .returned (.agg #[v0_, v1_, v2_]) ∧ Kd.R (Kd.int .i64) 2 w' w.heap.size (fun k_ => some k_ ≠ (v1_ : Value).ownBlock ∧ some k_ ≠ (v2_ : Value).ownBlock) v0_ r1 ∧ Kd.R (Kd.int .i64) 2 w' w.heap.size (fun k_ => some k_ ≠ (v0_ : Value).ownBlock ∧ some k_ ≠ (v2_ : Value).ownBlock) v1_ r2 ∧ Kd.R (Kd.int .i64) 2 w' w.heap.size (fun k_ => some k_ ≠ (v0_ : Value).ownBlock ∧ some k_ ≠ (v1_ : Value).ownBlock) v2_ r3 ∧ Below w.heap.size w w' := by
 have hu33 := Try.underlying33
 have HR0 := Aside0.mk hr0
 have HC0 := Aside0.mk hc0
 clear hr0 hc0
 have HB := Aside0.mk (Below.refl w.heap.size w)
 have H : ((spec_l01From.f k l0).bind fun bt289 => ((spec_l04DrawOf.f k bt289.1 bt289.2.1 bt289.2.2).bind fun bt293 => ((spec_l04Bad.f bt289.1 bt293.2.2.2.1 bt293.2.2.2.2 bt293.1 bt293.2.1 bt293.2.2.1).bind fun bt304 => (some (bt304.1, bt304.2.1, bt304.2.2.1))))) = some (r1, r2, r3) := h
 clear h
 replace H := Option.bind_eq_some_iff.mp H
 obtain ⟨⟨t289, t290, t291⟩, A20, H⟩ := H
 replace H : ((spec_l04DrawOf.f k t289 t290 t291).bind fun bt293 => ((spec_l04Bad.f t289 bt293.2.2.2.1 bt293.2.2.2.2 bt293.1 bt293.2.1 bt293.2.2.1).bind fun bt304 => (some (bt304.1, bt304.2.1, bt304.2.2.1)))) = some (r1, r2, r3) := H
 have A2 := Aside0.mk A20
 clear A20
 replace H := Option.bind_eq_some_iff.mp H
 obtain ⟨⟨t293, t296, t299, t302, t303⟩, A30, H⟩ := H
 replace H : ((spec_l04Bad.f t289 t302 t303 t293 t296 t299).bind fun bt304 => (some (bt304.1, bt304.2.1, bt304.2.2.1))) = some (r1, r2, r3) := H
 have A3 := Aside0.mk A30
 clear A30
 replace H := Option.bind_eq_some_iff.mp H
 obtain ⟨⟨t304, t307, t310, t313, t314⟩, A40, H⟩ := H
 replace H : (some (t304, t307, t310)) = some (r1, r2, r3) := H
 have A4 := Aside0.mk A40
 clear A40
 simp only [Option.some.injEq, Prod.mk.injEq] at H
 obtain ⟨rfl, rfl, rfl⟩ := H
 go_enter Try.func66, Try.ntmps66
 go_wp2_with (first | ((with_reducible refine gate_dst (N := 2) rfl ?_); refine box_event ?hg (N := 2) ?hd (cs := #[.slice none 0 0, .slice none 0 0, .slice none 0 0]) (t := 33) ?hr ?_; (case hd => rfl); (case hg => rfl); (case hr => (go_simp; done)); intro gb288 hg w5 hbox hb; have n0_ := Aside0.mk (below_step HB.out hb); have n1_ := Aside0.mk (hbox); have n2_ := Aside0.mk ((by rw [hg]; exact (below_size HB.out) : w.heap.size ≤ gb288)); have n3_ := Aside0.mk ((by rw [hg]; exact (below_size HB.out) : w.heap.size ≤ gb288)); clear HB; have HB := n0_; have BK288 := n1_; have GW288 := n2_; have GE288 := n3_; clear n0_ n1_ n2_ n3_; clear hb hbox hg) | ((with_reducible refine gate_callee (f := 77) rfl ?_); refine goesL_ (some 5) rfl rfl Try.func77 (by kernel_rfl) rfl #[.slice A0 l0.length c0] rfl (by (try simp only [List.map_toArray, List.map_cons, List.map_nil]); rfl) ?_; (with_reducible refine (spec_l01From.calls k _ _ l0 t289 t290 t291 w _ ?side1 ?side2 ?side3 A2.out).mono ?_); (case side1 => exact HB.out); (case side2 => exact HR0.out); (case side3 => exact HC0.out); rintro e w6 ⟨g292, rfl, hi, hb, hb2⟩; refine ⟨_, rfl, ?_⟩; have n0_ := Aside0.mk (blk_below (g := gb288) (o := .cells #[.slice none 0 0, .slice none 0 0, .slice none 0 0] 33 (0, 0)) BK288.out hb2); have n1_ := Aside0.mk (hb); have n2_ := Aside0.mk (hi); have n3_ := Aside0.mk (IsS112.ne_blk hi (blk_below (g := gb288) (o := .cells #[.slice none 0 0, .slice none 0 0, .slice none 0 0] 33 (0, 0)) BK288.out hb2) (by decide)); have n4_ := Aside0.mk (Ne.symm (IsS112.ne_blk hi (blk_below (g := gb288) (o := .cells #[.slice none 0 0, .slice none 0 0, .slice none 0 0] 33 (0, 0)) BK288.out hb2) (by decide))); clear BK288; clear HB; have BK288 := n0_; have HB := n1_; have HI292 := n2_; have NB292_288 := n3_; have NB288_292 := n4_; clear n0_ n1_ n2_ n3_ n4_; (try clear hb); (try clear hb2); (try clear hk); (try clear hi)) | ((with_reducible refine gate_callee (f := 105) rfl ?_); refine goesL_ (some 8) rfl rfl Try.func105 (by kernel_rfl) rfl #[.pointer (some ⟨g292, 0, none⟩)] rfl (by (try simp only [List.map_toArray, List.map_cons, List.map_nil]); rfl) ?_; (with_reducible refine (spec_l04DrawOf.calls k g292 t289 t290 t291 t293 t296 t299 t302 t303 w _ ?side1 ?side2 A3.out).mono ?_); (case side1 => exact HI292.out); (case side2 => exact HB.out); rintro e w7 ⟨v294, v297, v300, rfl, ho0, ho1, ho2, hi, hb, hk⟩; refine ⟨_, rfl, ?_⟩; have n0_ := Aside0.mk (KeepBut.blk hk (g' := gb288) (o := .cells #[.slice none 0 0, .slice none 0 0, .slice none 0 0] 33 (0, 0)) BK288.out NB288_292.out (by simp)); have n1_ := Aside0.mk (Kd.R_lower ho0 (below_size HB.out)); have n2_ := Aside0.mk (Kd.R_lower ho1 (below_size HB.out)); have n3_ := Aside0.mk (Kd.R_lower ho2 (below_size HB.out)); have n4_ := Aside0.mk (hb); have n5_ := Aside0.mk (hi); clear BK288; clear HB; clear HI292; have BK288 := n0_; have HO295 := n1_; have HO298 := n2_; have HO301 := n3_; have HB := n4_; have HI292 := n5_; clear n0_ n1_ n2_ n3_ n4_ n5_; (try clear hb); (try clear hb2); (try clear hk); (try clear hi); (try clear ho0); (try clear ho1); (try clear ho2); obtain ⟨Ao8, co8, eo8⟩ := Kd.R_slice HO295.out; subst eo8; obtain ⟨Ao9, co9, eo9⟩ := Kd.R_slice HO298.out; subst eo9; obtain ⟨Ao10, co10, eo10⟩ := Kd.R_slice HO301.out; subst eo10) | ((with_reducible refine gate_callee (f := 104) rfl ?_); refine goesL_ (some 9) rfl rfl Try.func104 (by kernel_rfl) rfl #[.pointer (some ⟨g292, 0, none⟩), .agg #[.slice Ao8 t293.length co8, .slice Ao9 t296.length co9, .slice Ao10 t299.length co10]] rfl (by (try simp only [List.map_toArray, List.map_cons, List.map_nil]); rfl) ?_; (with_reducible refine (spec_l04Bad.calls g292 t289 t302 t303 (fun k_ => some k_ = (.slice Ao8 t293.length co8 : Value).ownBlock) (.slice Ao8 t293.length co8) t293 (fun k_ => some k_ = (.slice Ao9 t296.length co9 : Value).ownBlock) (.slice Ao9 t296.length co9) t296 (fun k_ => some k_ = (.slice Ao10 t299.length co10 : Value).ownBlock) (.slice Ao10 t299.length co10) t299 t304 t307 t310 t313 t314 w _ ?side1 ?side2 ?side3 ?side4 ?side5 ?side6 ?side7 ?side8 ?side9 ?side10 ?side11 A4.out).mono ?_); (case side1 => exact HI292.out); (case side2 => exact HB.out); (case side3 => exact Kd.R_tight rfl HO295.out); (case side4 => exact fun k_ e_ => (HO295.out.1 k_ e_.symm).1); (case side5 => exact fun k_ e_ => (HO295.out.1 k_ e_.symm).2); (case side6 => exact Kd.R_tight rfl HO298.out); (case side7 => exact fun k_ e_ => (HO298.out.1 k_ e_.symm).1); (case side8 => exact fun k_ e_ => (HO298.out.1 k_ e_.symm).2); (case side9 => exact Kd.R_tight rfl HO301.out); (case side10 => exact fun k_ e_ => (HO301.out.1 k_ e_.symm).1); (case side11 => exact fun k_ e_ => (HO301.out.1 k_ e_.symm).2); rintro e w11 ⟨v305, v308, v311, rfl, ho0, ho1, ho2, hi, hb, hkp⟩; refine ⟨_, rfl, ?_⟩; have n0_ := Aside0.mk (blk_kept BK288.out hkp (fun hs_ => Or.elim hs_ (fun hs_ => Or.elim hs_ (fun e_ => (fun e_ => (Kd.R_ne HO295.out BK288.out (by decide)) e_) e_) (fun e_ => Or.elim e_ (fun e_ => (fun e_ => (Kd.R_ne HO298.out BK288.out (by decide)) e_) e_) (fun e_ => (fun e_ => (Kd.R_ne HO301.out BK288.out (by decide)) e_) e_))) (fun e_ => NB288_292.out e_))); have n1_ := Aside0.mk (hi); have n2_ := Aside0.mk (Kd.R_mono (ok' := fun k_ => some k_ ≠ (v308 : Value).ownBlock ∧ some k_ ≠ (v311 : Value).ownBlock) ho0 (fun k_ hk_ => ⟨hk_.2.1, hk_.2.2⟩)); have n3_ := Aside0.mk (Kd.R_mono (ok' := fun k_ => some k_ ≠ (v305 : Value).ownBlock ∧ some k_ ≠ (v311 : Value).ownBlock) ho1 (fun k_ hk_ => ⟨hk_.2.1, hk_.2.2⟩)); have n4_ := Aside0.mk (Kd.R_mono (ok' := fun k_ => some k_ ≠ (v305 : Value).ownBlock ∧ some k_ ≠ (v308 : Value).ownBlock) ho2 (fun k_ hk_ => ⟨hk_.2.1, hk_.2.2⟩)); have n5_ := Aside0.mk (hb); clear BK288; clear HI292; clear HB; clear HO295; clear HO298; clear HO301; have BK288 := n0_; have HI292 := n1_; have HO306 := n2_; have HO309 := n3_; have HO312 := n4_; have HB := n5_; clear n0_ n1_ n2_ n3_ n4_ n5_; (try clear hb); (try clear hkp); (try clear ho0); (try clear ho1); (try clear ho2); obtain ⟨Ao12, co12, eo12⟩ := Kd.R_slice HO306.out; subst eo12; have hnb13 := NB288_292.out; have hnc13 := NB292_288.out; have hcz14_0 : w11.cell? ⟨gb288, 0, none⟩ = some (.slice none 0 0) := (blk_cell BK288.out 0).trans rfl; have hcz14_1 : w11.cell? ⟨gb288, 1, none⟩ = some (.slice none 0 0) := (blk_cell BK288.out 1).trans rfl; have hcz14_2 : w11.cell? ⟨gb288, 2, none⟩ = some (.slice none 0 0) := (blk_cell BK288.out 2).trans rfl; have hfz14_0 := blk_frozen BK288.out 0; have hfz14_1 := blk_frozen BK288.out 1; have hfz14_2 := blk_frozen BK288.out 2; obtain ⟨Ao15, co15, eo15⟩ := Kd.R_slice HO309.out; subst eo15; obtain ⟨Ao16, co16, eo16⟩ := Kd.R_slice HO312.out; subst eo16))
 refine bodyPost_ret (results_cell_row rfl _ _ gb288 33 #[.slice Ao12 t304.length co12, .slice Ao15 t307.length co15, .slice Ao16 t310.length co16] (0, 0) _ rfl (by refine blk_put (cs := #[.slice Ao12 t304.length co12, .slice Ao15 t307.length co15, .slice none 0 0]) ?_ 2 _ rfl; refine blk_put (cs := #[.slice Ao12 t304.length co12, .slice none 0 0, .slice none 0 0]) ?_ 1 _ rfl; refine blk_put (cs := #[.slice none 0 0, .slice none 0 0, .slice none 0 0]) ?_ 0 _ rfl; exact BK288.out) Try.underlying33 rfl (by kernel_rfl)) rfl ?_
 exact ⟨_, _, _, by rfl, by exact Kd.R_mono (Kd.R_far (p := ⟨gb288, 2, none⟩) (Kd.R_far (p := ⟨gb288, 1, none⟩) (Kd.R_far (p := ⟨gb288, 0, none⟩) (Kd.R_types HO306.out BK288.out (by decide)) (fun _ hk => hk.2) (.slice Ao12 t304.length co12)) (fun _ hk => hk.2) (.slice Ao15 t307.length co15)) (fun _ hk => hk.2) (.slice Ao16 t310.length co16)) (fun _ hk => ⟨hk.1.1, hk.1.2⟩), by exact Kd.R_mono (Kd.R_far (p := ⟨gb288, 2, none⟩) (Kd.R_far (p := ⟨gb288, 1, none⟩) (Kd.R_far (p := ⟨gb288, 0, none⟩) (Kd.R_types HO309.out BK288.out (by decide)) (fun _ hk => hk.2) (.slice Ao12 t304.length co12)) (fun _ hk => hk.2) (.slice Ao15 t307.length co15)) (fun _ hk => hk.2) (.slice Ao16 t310.length co16)) (fun _ hk => ⟨hk.1.1, hk.1.2⟩), by exact Kd.R_mono (Kd.R_far (p := ⟨gb288, 2, none⟩) (Kd.R_far (p := ⟨gb288, 1, none⟩) (Kd.R_far (p := ⟨gb288, 0, none⟩) (Kd.R_types HO312.out BK288.out (by decide)) (fun _ hk => hk.2) (.slice Ao12 t304.length co12)) (fun _ hk => hk.2) (.slice Ao15 t307.length co15)) (fun _ hk => hk.2) (.slice Ao16 t310.length co16)) (fun _ hk => ⟨hk.1.1, hk.1.2⟩), by repeat (with_reducible first | exact HB.out | refine below_set ?_ GE288.out)⟩
end Go.Proofs.Ytoakdilhljnjfaa.Q
namespace Go.Proofs.Ytoakdilhljnjfaa.Q
open Go.RowKit Go.Proofs.YtoakdilhljnjfaaW.PrintWords Go.Proofs.YtoakdilhljnjfaaW.PrintLast Go.Proofs.YtoakdilhljnjfaaW.PrintMore
attribute [local go_sem] max2_int min2_int max_two min_two max_three min_three max_four min_four   -- for this text's walks alone
set_option linter.unusedVariables false
set_option linter.unusedSimpArgs false
def spec_DrawDeadlineSlots.f (k : Nat) (l0 : List Int) : Option (List Int × List Int × List Int) := (spec_l04Draw.f k l0).bind fun bt316 => (some (bt316.1, bt316.2.1, bt316.2.2))
set_option maxHeartbeats 8000000 in
set_option maxRecDepth 100000 in
theorem spec_DrawDeadlineSlots.calls (k : Nat) (A0 : Option Addr) (c0 : Nat) (l0 : List Int) (r1 : List Int) (r2 : List Int) (r3 : List Int) (w : World) (hr0 : Kd.C (Kd.int .u8) w A0 l0.length l0) (hc0 : l0.length ≤ c0) (h : spec_DrawDeadlineSlots.f k l0 = some (r1, r2, r3)) :
 Calls Try.prog 23 #[.slice A0 l0.length c0] w fun e w' => ∃ v0_ v1_ v2_ : Value, e = .returned (.agg #[v0_, v1_, v2_]) ∧ Kd.R (Kd.int .i64) 2 w' w.heap.size (fun k_ => some k_ ≠ (v1_ : Value).ownBlock ∧ some k_ ≠ (v2_ : Value).ownBlock) v0_ r1 ∧ Kd.R (Kd.int .i64) 2 w' w.heap.size (fun k_ => some k_ ≠ (v0_ : Value).ownBlock ∧ some k_ ≠ (v2_ : Value).ownBlock) v1_ r2 ∧ Kd.R (Kd.int .i64) 2 w' w.heap.size (fun k_ => some k_ ≠ (v0_ : Value).ownBlock ∧ some k_ ≠ (v1_ : Value).ownBlock) v2_ r3 ∧ Below w.heap.size w w' := by
 have hu33 := Try.underlying33
 have HR0 := Aside0.mk hr0
 have HC0 := Aside0.mk hc0
 clear hr0 hc0
 have HB := Aside0.mk (Below.refl w.heap.size w)
 have H : ((spec_l04Draw.f k l0).bind fun bt316 => (some (bt316.1, bt316.2.1, bt316.2.2))) = some (r1, r2, r3) := h
 clear h
 replace H := Option.bind_eq_some_iff.mp H
 obtain ⟨⟨t316, t319, t322⟩, A20, H⟩ := H
 replace H : (some (t316, t319, t322)) = some (r1, r2, r3) := H
 have A2 := Aside0.mk A20
 clear A20
 simp only [Option.some.injEq, Prod.mk.injEq] at H
 obtain ⟨rfl, rfl, rfl⟩ := H
 go_enter Try.func23, Try.ntmps23
 go_wp2_with (first | ((with_reducible refine gate_dst (N := 2) rfl ?_); refine box_event ?hg (N := 2) ?hd (cs := #[.slice none 0 0, .slice none 0 0, .slice none 0 0]) (t := 33) ?hr ?_; (case hd => rfl); (case hg => rfl); (case hr => (go_simp; done)); intro gb315 hg w3 hbox hb; have n0_ := Aside0.mk (below_step HB.out hb); have n1_ := Aside0.mk (hbox); have n2_ := Aside0.mk ((by rw [hg]; exact (below_size HB.out) : w.heap.size ≤ gb315)); have n3_ := Aside0.mk ((by rw [hg]; exact (below_size HB.out) : w.heap.size ≤ gb315)); clear HB; have HB := n0_; have BK315 := n1_; have GW315 := n2_; have GE315 := n3_; clear n0_ n1_ n2_ n3_; clear hb hbox hg) | ((with_reducible refine gate_callee (f := 66) rfl ?_); refine goesL_ (some 4) rfl rfl Try.func66 (by kernel_rfl) rfl #[.slice A0 l0.length c0] rfl (by (try simp only [List.map_toArray, List.map_cons, List.map_nil]); rfl) ?_; (with_reducible refine (spec_l04Draw.calls k _ _ l0 t316 t319 t322 _ ?side1 ?side2 A2.out).mono ?_); (case side1 => exact (Kd.C_below HR0.out HB.out)); (case side2 => exact HC0.out); rintro e w4 ⟨v317, v320, v323, rfl, ho0, ho1, ho2, hb⟩; refine ⟨_, rfl, ?_⟩; have n0_ := Aside0.mk (Kd.R_lower ho0 (below_size HB.out)); have n1_ := Aside0.mk (Kd.R_lower ho1 (below_size HB.out)); have n2_ := Aside0.mk (Kd.R_lower ho2 (below_size HB.out)); have n3_ := Aside0.mk (blk_below (g := gb315) (o := .cells #[.slice none 0 0, .slice none 0 0, .slice none 0 0] 33 (0, 0)) BK315.out hb); have n4_ := Aside0.mk (below_step HB.out hb); clear BK315; clear HB; have HO318 := n0_; have HO321 := n1_; have HO324 := n2_; have BK315 := n3_; have HB := n4_; clear n0_ n1_ n2_ n3_ n4_; (try clear hb); (try clear hb2); (try clear hk); (try clear hi); (try clear ho0); (try clear ho1); (try clear ho2); obtain ⟨Ao5, co5, eo5⟩ := Kd.R_slice HO318.out; subst eo5; have hcz6_0 : w4.cell? ⟨gb315, 0, none⟩ = some (.slice none 0 0) := (blk_cell BK315.out 0).trans rfl; have hcz6_1 : w4.cell? ⟨gb315, 1, none⟩ = some (.slice none 0 0) := (blk_cell BK315.out 1).trans rfl; have hcz6_2 : w4.cell? ⟨gb315, 2, none⟩ = some (.slice none 0 0) := (blk_cell BK315.out 2).trans rfl; have hfz6_0 := blk_frozen BK315.out 0; have hfz6_1 := blk_frozen BK315.out 1; have hfz6_2 := blk_frozen BK315.out 2; obtain ⟨Ao7, co7, eo7⟩ := Kd.R_slice HO321.out; subst eo7; obtain ⟨Ao8, co8, eo8⟩ := Kd.R_slice HO324.out; subst eo8))
 refine bodyPost_ret (results_cell_row rfl _ _ gb315 33 #[.slice Ao5 t316.length co5, .slice Ao7 t319.length co7, .slice Ao8 t322.length co8] (0, 0) _ rfl (by refine blk_put (cs := #[.slice Ao5 t316.length co5, .slice Ao7 t319.length co7, .slice none 0 0]) ?_ 2 _ rfl; refine blk_put (cs := #[.slice Ao5 t316.length co5, .slice none 0 0, .slice none 0 0]) ?_ 1 _ rfl; refine blk_put (cs := #[.slice none 0 0, .slice none 0 0, .slice none 0 0]) ?_ 0 _ rfl; exact BK315.out) Try.underlying33 rfl (by kernel_rfl)) rfl ?_
 exact ⟨_, _, _, by rfl, by exact Kd.R_mono (Kd.R_far (p := ⟨gb315, 2, none⟩) (Kd.R_far (p := ⟨gb315, 1, none⟩) (Kd.R_far (p := ⟨gb315, 0, none⟩) (Kd.R_types HO318.out BK315.out (by decide)) (fun _ hk => hk.2) (.slice Ao5 t316.length co5)) (fun _ hk => hk.2) (.slice Ao7 t319.length co7)) (fun _ hk => hk.2) (.slice Ao8 t322.length co8)) (fun _ hk => ⟨hk.1.1, hk.1.2⟩), by exact Kd.R_mono (Kd.R_far (p := ⟨gb315, 2, none⟩) (Kd.R_far (p := ⟨gb315, 1, none⟩) (Kd.R_far (p := ⟨gb315, 0, none⟩) (Kd.R_types HO321.out BK315.out (by decide)) (fun _ hk => hk.2) (.slice Ao5 t316.length co5)) (fun _ hk => hk.2) (.slice Ao7 t319.length co7)) (fun _ hk => hk.2) (.slice Ao8 t322.length co8)) (fun _ hk => ⟨hk.1.1, hk.1.2⟩), by exact Kd.R_mono (Kd.R_far (p := ⟨gb315, 2, none⟩) (Kd.R_far (p := ⟨gb315, 1, none⟩) (Kd.R_far (p := ⟨gb315, 0, none⟩) (Kd.R_types HO324.out BK315.out (by decide)) (fun _ hk => hk.2) (.slice Ao5 t316.length co5)) (fun _ hk => hk.2) (.slice Ao7 t319.length co7)) (fun _ hk => hk.2) (.slice Ao8 t322.length co8)) (fun _ hk => ⟨hk.1.1, hk.1.2⟩), by repeat (with_reducible first | exact HB.out | refine below_set ?_ GE315.out)⟩
end Go.Proofs.Ytoakdilhljnjfaa.Q
namespace Go.Proofs.Ytoakdilhljnjfaa.Q
open Go.RowKit Go.Proofs.YtoakdilhljnjfaaW.PrintWords Go.Proofs.YtoakdilhljnjfaaW.PrintLast Go.Proofs.YtoakdilhljnjfaaW.PrintMore
attribute [local go_sem] max2_int min2_int max_two min_two max_three min_three max_four min_four   -- for this text's walks alone
set_option linter.unusedVariables false
set_option linter.unusedSimpArgs false
def spec_DrawDemandUpTo.f (k : Nat) (l0 : List Int) : Option (List Int × List Int × List Int × Int) := (spec_l01From.f k l0).bind fun bt524 => ((spec_l04Draw.f k l0).bind fun bt528 => ((spec_l01Pick.f bt524.1 bt524.2.1 bt524.2.2 (([10, 30, 1000] : List Int))).bind fun bt540 => ((spec_l01Near.f bt524.1 bt540.2.1 bt540.2.2 bt540.1).bind fun bt543 => (some (bt528.1, bt528.2.1, bt528.2.2, bt543.1)))))
set_option maxHeartbeats 8000000 in
set_option maxRecDepth 100000 in
theorem spec_DrawDemandUpTo.calls (k : Nat) (A0 : Option Addr) (c0 : Nat) (l0 : List Int) (r1 : List Int) (r2 : List Int) (r3 : List Int) (r4 : Int) (w : World) (hr0 : Kd.C (Kd.int .u8) w A0 l0.length l0) (hc0 : l0.length ≤ c0) (h : spec_DrawDemandUpTo.f k l0 = some (r1, r2, r3, r4)) :
 Calls Try.prog 39 #[.slice A0 l0.length c0] w fun e w' => ∃ v0_ v1_ v2_ : Value, e = .returned (.tuple #[.agg #[v0_, v1_, v2_], .int .i64 r4]) ∧ Kd.R (Kd.int .i64) 2 w' w.heap.size (fun k_ => some k_ ≠ (v1_ : Value).ownBlock ∧ some k_ ≠ (v2_ : Value).ownBlock) v0_ r1 ∧ Kd.R (Kd.int .i64) 2 w' w.heap.size (fun k_ => some k_ ≠ (v0_ : Value).ownBlock ∧ some k_ ≠ (v2_ : Value).ownBlock) v1_ r2 ∧ Kd.R (Kd.int .i64) 2 w' w.heap.size (fun k_ => some k_ ≠ (v0_ : Value).ownBlock ∧ some k_ ≠ (v1_ : Value).ownBlock) v2_ r3 ∧ Below w.heap.size w w' := by
 have hu33 := Try.underlying33
 have HR0 := Aside0.mk hr0
 have HC0 := Aside0.mk hc0
 clear hr0 hc0
 have HB := Aside0.mk (Below.refl w.heap.size w)
 have H : ((spec_l01From.f k l0).bind fun bt524 => ((spec_l04Draw.f k l0).bind fun bt528 => ((spec_l01Pick.f bt524.1 bt524.2.1 bt524.2.2 (([10, 30, 1000] : List Int))).bind fun bt540 => ((spec_l01Near.f bt524.1 bt540.2.1 bt540.2.2 bt540.1).bind fun bt543 => (some (bt528.1, bt528.2.1, bt528.2.2, bt543.1)))))) = some (r1, r2, r3, r4) := h
 clear h
 replace H := Option.bind_eq_some_iff.mp H
 obtain ⟨⟨t524, t525, t526⟩, A20, H⟩ := H
 replace H : ((spec_l04Draw.f k l0).bind fun bt528 => ((spec_l01Pick.f t524 t525 t526 (([10, 30, 1000] : List Int))).bind fun bt540 => ((spec_l01Near.f t524 bt540.2.1 bt540.2.2 bt540.1).bind fun bt543 => (some (bt528.1, bt528.2.1, bt528.2.2, bt543.1))))) = some (r1, r2, r3, r4) := H
 have A2 := Aside0.mk A20
 clear A20
 replace H := Option.bind_eq_some_iff.mp H
 obtain ⟨⟨t528, t531, t534⟩, A30, H⟩ := H
 replace H : ((spec_l01Pick.f t524 t525 t526 (([10, 30, 1000] : List Int))).bind fun bt540 => ((spec_l01Near.f t524 bt540.2.1 bt540.2.2 bt540.1).bind fun bt543 => (some (t528, t531, t534, bt543.1)))) = some (r1, r2, r3, r4) := H
 have A3 := Aside0.mk A30
 clear A30
 obtain ⟨y537, hy537⟩ : ∃ y_ : List Int, y_ = (([10, 30, 1000] : List Int)) := ⟨_, rfl⟩
 replace H : ((spec_l01Pick.f t524 t525 t526 y537).bind fun bt540 => ((spec_l01Near.f t524 bt540.2.1 bt540.2.2 bt540.1).bind fun bt543 => (some (t528, t531, t534, bt543.1)))) = some (r1, r2, r3, r4) := by (rw [hy537]; with_reducible exact H)
 have Ny537 := Aside0.mk hy537
 clear hy537
 replace H := Option.bind_eq_some_iff.mp H
 obtain ⟨⟨t540, t541, t542⟩, A40, H⟩ := H
 replace H : ((spec_l01Near.f t524 t541 t542 t540).bind fun bt543 => (some (t528, t531, t534, bt543.1))) = some (r1, r2, r3, r4) := H
 have A4 := Aside0.mk A40
 clear A40
 replace H := Option.bind_eq_some_iff.mp H
 obtain ⟨⟨t543, t544, t545⟩, A50, H⟩ := H
 replace H : (some (t528, t531, t534, t543)) = some (r1, r2, r3, r4) := H
 have A5 := Aside0.mk A50
 clear A50
 simp only [Option.some.injEq, Prod.mk.injEq] at H
 obtain ⟨rfl, rfl, rfl, rfl⟩ := H
 go_enter Try.func39, Try.ntmps39
 go_wp2_with (first | ((with_reducible refine gate_dst (N := 2) rfl ?_); refine box_event ?hg (N := 2) ?hd (cs := #[.slice none 0 0, .slice none 0 0, .slice none 0 0]) (t := 33) ?hr ?_; (case hd => rfl); (case hg => rfl); (case hr => (go_simp; done)); intro gb523 hg w6 hbox hb; have n0_ := Aside0.mk (below_step HB.out hb); have n1_ := Aside0.mk (hbox); have n2_ := Aside0.mk ((by rw [hg]; exact (below_size HB.out) : w.heap.size ≤ gb523)); have n3_ := Aside0.mk ((by rw [hg]; exact (below_size HB.out) : w.heap.size ≤ gb523)); clear HB; have HB := n0_; have BK523 := n1_; have GW523 := n2_; have GE523 := n3_; clear n0_ n1_ n2_ n3_; clear hb hbox hg) | ((with_reducible refine gate_callee (f := 77) rfl ?_); refine goesL_ (some 6) rfl rfl Try.func77 (by kernel_rfl) rfl #[.slice A0 l0.length c0] rfl (by (try simp only [List.map_toArray, List.map_cons, List.map_nil]); rfl) ?_; (with_reducible refine (spec_l01From.calls k _ _ l0 t524 t525 t526 w _ ?side1 ?side2 ?side3 A2.out).mono ?_); (case side1 => exact HB.out); (case side2 => exact HR0.out); (case side3 => exact HC0.out); rintro e w7 ⟨g527, rfl, hi, hb, hb2⟩; refine ⟨_, rfl, ?_⟩; have n0_ := Aside0.mk (blk_below (g := gb523) (o := .cells #[.slice none 0 0, .slice none 0 0, .slice none 0 0] 33 (0, 0)) BK523.out hb2); have n1_ := Aside0.mk (hb); have n2_ := Aside0.mk (hi); have n3_ := Aside0.mk (IsS112.ne_blk hi (blk_below (g := gb523) (o := .cells #[.slice none 0 0, .slice none 0 0, .slice none 0 0] 33 (0, 0)) BK523.out hb2) (by decide)); have n4_ := Aside0.mk (Ne.symm (IsS112.ne_blk hi (blk_below (g := gb523) (o := .cells #[.slice none 0 0, .slice none 0 0, .slice none 0 0] 33 (0, 0)) BK523.out hb2) (by decide))); clear BK523; clear HB; have BK523 := n0_; have HB := n1_; have HI527 := n2_; have NB527_523 := n3_; have NB523_527 := n4_; clear n0_ n1_ n2_ n3_ n4_; (try clear hb); (try clear hb2); (try clear hk); (try clear hi)) | ((with_reducible refine gate_callee (f := 66) rfl ?_); refine goesL_ (some 8) rfl rfl Try.func66 (by kernel_rfl) rfl #[.slice A0 l0.length c0] rfl (by (try simp only [List.map_toArray, List.map_cons, List.map_nil]); rfl) ?_; (with_reducible refine (spec_l04Draw.calls k _ _ l0 t528 t531 t534 _ ?side1 ?side2 A3.out).mono ?_); (case side1 => exact (Kd.C_below HR0.out HB.out)); (case side2 => exact HC0.out); rintro e w8 ⟨v529, v532, v535, rfl, ho0, ho1, ho2, hb⟩; refine ⟨_, rfl, ?_⟩; have n0_ := Aside0.mk (Kd.R_lower ho0 (below_size HB.out)); have n1_ := Aside0.mk (Kd.R_lower ho1 (below_size HB.out)); have n2_ := Aside0.mk (Kd.R_lower ho2 (below_size HB.out)); have n3_ := Aside0.mk (blk_below (g := gb523) (o := .cells #[.slice none 0 0, .slice none 0 0, .slice none 0 0] 33 (0, 0)) BK523.out hb); have n4_ := Aside0.mk (IsS112.below HI527.out hb); have n5_ := Aside0.mk (below_step HB.out hb); clear BK523; clear HI527; clear HB; have HO530 := n0_; have HO533 := n1_; have HO536 := n2_; have BK523 := n3_; have HI527 := n4_; have HB := n5_; clear n0_ n1_ n2_ n3_ n4_ n5_; (try clear hb); (try clear hb2); (try clear hk); (try clear hi); (try clear ho0); (try clear ho1); (try clear ho2)) | ((with_reducible refine gate_dst (N := 11) rfl ?_); refine Kd.R_lit (Kd.int .i64) _ 2 ?hg (N := 11) ?hd (xs := ([10, 30, 1000] : List Int)) (inner := [.int .i64 10, .int .i64 30, .int .i64 1000]) (ok := fun _ => True) (okp := fun _ => True) ?hr ?hp (fun _ hk => hk) trivial (Below.refl _ _) (Nat.le_refl _) (by simp) ?_; (case hd => rfl); (case hg => rfl); (case hr => (go_simp; done)); (case hp => exact (Reps.one (show Kd.M (Kd.int .i64) _ _ _ 10 [.int .i64 10] from rfl) (Reps.one (show Kd.M (Kd.int .i64) _ _ _ 30 [.int .i64 30] from rfl) (Reps.one (show Kd.M (Kd.int .i64) _ _ _ 1000 [.int .i64 1000] from rfl) (Reps.none _ _))))); intro v538 w9 ho10 hb hg_ hnew_; clear hg_ hnew_; (rw [← Ny537.out] at ho10); have n0_ := Aside0.mk (Kd.R_elder' HO530.out (Kd.R_base ho10) hb); have n1_ := Aside0.mk (Kd.R_elder' HO533.out (Kd.R_base ho10) hb); have n2_ := Aside0.mk (Kd.R_elder' HO536.out (Kd.R_base ho10) hb); have n3_ := Aside0.mk (Kd.R_lower (Kd.R_new' (Kd.R_new' (Kd.R_new' ho10 (Kd.R_lt HO530.out)) (Kd.R_lt HO533.out)) (Kd.R_lt HO536.out)) (below_size HB.out)); have n4_ := Aside0.mk (blk_below (g := gb523) (o := .cells #[.slice none 0 0, .slice none 0 0, .slice none 0 0] 33 (0, 0)) BK523.out hb); have n5_ := Aside0.mk (IsS112.below HI527.out hb); have n6_ := Aside0.mk (below_step HB.out hb); clear HO530; clear HO533; clear HO536; clear BK523; clear HI527; clear HB; have HO530 := n0_; have HO533 := n1_; have HO536 := n2_; have HO539 := n3_; have BK523 := n4_; have HI527 := n5_; have HB := n6_; clear n0_ n1_ n2_ n3_ n4_ n5_ n6_; clear hb ho10; obtain ⟨Ao11, co11, eo11⟩ := Kd.R_slice HO539.out; subst eo11) | ((with_reducible refine gate_callee (f := 79) rfl ?_); refine goesL_ (some 12) rfl rfl Try.func79 (by kernel_rfl) rfl #[.pointer (some ⟨g527, 0, none⟩), .slice Ao11 y537.length co11] rfl (by (try simp only [List.map_toArray, List.map_cons, List.map_nil]); rfl) ?_; (with_reducible refine (spec_l01Pick.calls g527 t524 t525 t526 _ _ y537 t540 t541 t542 w _ ?side1 ?side2 ?side3 ?side4 ?side5 A4.out).mono ?_); (case side1 => exact HI527.out); (case side2 => exact HB.out); (case side3 => exact (Kd.R_reads' HO539.out).2.2); (case side4 => exact (Kd.R_reads' HO539.out).2.1); (case side5 => exact far_slice (IsS112.own_ne HI527.out HO539.out (by decide))); rintro e w12 ⟨rfl, hi, hb, hk⟩; refine ⟨_, rfl, ?_⟩; have n0_ := Aside0.mk (KeepBut.blk hk (g' := gb523) (o := .cells #[.slice none 0 0, .slice none 0 0, .slice none 0 0] 33 (0, 0)) BK523.out NB523_527.out (by simp)); have n1_ := Aside0.mk (Kd.R_mono (Kd.R_keep (IsS112.apart (show IsS112 w _ g527 t524 t525 t526 from by exact HI527.out) HO530.out (by decide)) hk (fun _ h => h.2)) (fun _ h => h.1)); have n2_ := Aside0.mk (Kd.R_mono (Kd.R_keep (IsS112.apart (show IsS112 w _ g527 t524 t525 t526 from by exact HI527.out) HO533.out (by decide)) hk (fun _ h => h.2)) (fun _ h => h.1)); have n3_ := Aside0.mk (Kd.R_mono (Kd.R_keep (IsS112.apart (show IsS112 w _ g527 t524 t525 t526 from by exact HI527.out) HO536.out (by decide)) hk (fun _ h => h.2)) (fun _ h => h.1)); have n4_ := Aside0.mk (Kd.R_mono (Kd.R_keep (IsS112.apart (show IsS112 w _ g527 t524 t525 t526 from by exact HI527.out) HO539.out (by decide)) hk (fun _ h => h.2)) (fun _ h => h.1)); have n5_ := Aside0.mk (hb); have n6_ := Aside0.mk (hi); clear BK523; clear HO530; clear HO533; clear HO536; clear HO539; clear HB; clear HI527; have BK523 := n0_; have HO530 := n1_; have HO533 := n2_; have HO536 := n3_; have HO539 := n4_; have HB := n5_; have HI527 := n6_; clear n0_ n1_ n2_ n3_ n4_ n5_ n6_; (try clear hb); (try clear hb2); (try clear hk); (try clear hi)) | ((with_reducible refine gate_callee (f := 78) rfl ?_); refine goesL_ (some 13) rfl rfl Try.func78 (by kernel_rfl) rfl #[.pointer (some ⟨g527, 0, none⟩), .int .i64 t540] rfl (by (try simp only [List.map_toArray, List.map_cons, List.map_nil]); rfl) ?_; (with_reducible refine (spec_l01Near.calls g527 t524 t541 t542 t540 t543 t544 t545 w _ ?side1 ?side2 A5.out).mono ?_); (case side1 => exact HI527.out); (case side2 => exact HB.out); rintro e w13 ⟨rfl, hi, hb, hk⟩; refine ⟨_, rfl, ?_⟩; have n0_ := Aside0.mk (KeepBut.blk hk (g' := gb523) (o := .cells #[.slice none 0 0, .slice none 0 0, .slice none 0 0] 33 (0, 0)) BK523.out NB523_527.out (by simp)); have n1_ := Aside0.mk (Kd.R_mono (Kd.R_keep (IsS112.apart (show IsS112 w _ g527 t524 t541 t542 from by exact HI527.out) HO530.out (by decide)) hk (fun _ h => h.2)) (fun _ h => h.1)); have n2_ := Aside0.mk (Kd.R_mono (Kd.R_keep (IsS112.apart (show IsS112 w _ g527 t524 t541 t542 from by exact HI527.out) HO533.out (by decide)) hk (fun _ h => h.2)) (fun _ h => h.1)); have n3_ := Aside0.mk (Kd.R_mono (Kd.R_keep (IsS112.apart (show IsS112 w _ g527 t524 t541 t542 from by exact HI527.out) HO536.out (by decide)) hk (fun _ h => h.2)) (fun _ h => h.1)); have n4_ := Aside0.mk (Kd.R_mono (Kd.R_keep (IsS112.apart (show IsS112 w _ g527 t524 t541 t542 from by exact HI527.out) HO539.out (by decide)) hk (fun _ h => h.2)) (fun _ h => h.1)); have n5_ := Aside0.mk (hb); have n6_ := Aside0.mk (hi); clear BK523; clear HO530; clear HO533; clear HO536; clear HO539; clear HB; clear HI527; have BK523 := n0_; have HO530 := n1_; have HO533 := n2_; have HO536 := n3_; have HO539 := n4_; have HB := n5_; have HI527 := n6_; clear n0_ n1_ n2_ n3_ n4_ n5_ n6_; (try clear hb); (try clear hb2); (try clear hk); (try clear hi); obtain ⟨Ao14, co14, eo14⟩ := Kd.R_slice HO530.out; subst eo14; have hnb15 := NB523_527.out; have hnc15 := NB527_523.out; have hcz16_0 : w13.cell? ⟨gb523, 0, none⟩ = some (.slice none 0 0) := (blk_cell BK523.out 0).trans rfl; have hcz16_1 : w13.cell? ⟨gb523, 1, none⟩ = some (.slice none 0 0) := (blk_cell BK523.out 1).trans rfl; have hcz16_2 : w13.cell? ⟨gb523, 2, none⟩ = some (.slice none 0 0) := (blk_cell BK523.out 2).trans rfl; have hfz16_0 := blk_frozen BK523.out 0; have hfz16_1 := blk_frozen BK523.out 1; have hfz16_2 := blk_frozen BK523.out 2; obtain ⟨Ao17, co17, eo17⟩ := Kd.R_slice HO533.out; subst eo17; obtain ⟨Ao18, co18, eo18⟩ := Kd.R_slice HO536.out; subst eo18))
 refine bodyPost_ret (results_ct rfl _ _ gb523 33 #[.slice Ao14 t528.length co14, .slice Ao17 t531.length co17, .slice Ao18 t534.length co18] (0, 0) _ rfl (by refine blk_put (cs := #[.slice Ao14 t528.length co14, .slice Ao17 t531.length co17, .slice none 0 0]) ?_ 2 _ rfl; refine blk_put (cs := #[.slice Ao14 t528.length co14, .slice none 0 0, .slice none 0 0]) ?_ 1 _ rfl; refine blk_put (cs := #[.slice none 0 0, .slice none 0 0, .slice none 0 0]) ?_ 0 _ rfl; exact BK523.out) Try.underlying33 rfl (by kernel_rfl)) rfl ?_
 exact ⟨_, _, _, by rfl, by exact Kd.R_mono (Kd.R_far (p := ⟨gb523, 2, none⟩) (Kd.R_far (p := ⟨gb523, 1, none⟩) (Kd.R_far (p := ⟨gb523, 0, none⟩) (Kd.R_types HO530.out BK523.out (by decide)) (fun _ hk => hk.2) (.slice Ao14 t528.length co14)) (fun _ hk => hk.2) (.slice Ao17 t531.length co17)) (fun _ hk => hk.2) (.slice Ao18 t534.length co18)) (fun _ hk => ⟨hk.1.1.1, hk.1.1.2⟩), by exact Kd.R_mono (Kd.R_far (p := ⟨gb523, 2, none⟩) (Kd.R_far (p := ⟨gb523, 1, none⟩) (Kd.R_far (p := ⟨gb523, 0, none⟩) (Kd.R_types HO533.out BK523.out (by decide)) (fun _ hk => hk.2) (.slice Ao14 t528.length co14)) (fun _ hk => hk.2) (.slice Ao17 t531.length co17)) (fun _ hk => hk.2) (.slice Ao18 t534.length co18)) (fun _ hk => ⟨hk.1.1.1, hk.1.1.2⟩), by exact Kd.R_mono (Kd.R_far (p := ⟨gb523, 2, none⟩) (Kd.R_far (p := ⟨gb523, 1, none⟩) (Kd.R_far (p := ⟨gb523, 0, none⟩) (Kd.R_types HO536.out BK523.out (by decide)) (fun _ hk => hk.2) (.slice Ao14 t528.length co14)) (fun _ hk => hk.2) (.slice Ao17 t531.length co17)) (fun _ hk => hk.2) (.slice Ao18 t534.length co18)) (fun _ hk => ⟨hk.1.1.1, hk.1.1.2⟩), by repeat (with_reducible first | exact HB.out | refine below_set ?_ GE523.out)⟩
end Go.Proofs.Ytoakdilhljnjfaa.Q
namespace Go.Proofs.Ytoakdilhljnjfaa.Pure
open Go.RowKit Go.Proofs.Ytoakdilhljnjfaa.Q Go.Proofs.YtoakdilhljnjfaaW.PrintWords Go.Proofs.YtoakdilhljnjfaaW.PrintLast Go.Proofs.YtoakdilhljnjfaaW.PrintMore
set_option linter.unusedVariables false
set_option linter.unusedSimpArgs false
section
variable {code : List Int}
theorem drawOf_l (hc : CodeOk code) (t : Int) (ht : 1 ≤ t ∧ t ≤ 9) (d : Nat) : ∀ (p h : Int) (a b c : List Int), AtOk code p → a.length + d ≤ 4 → 1 ≤ a.length + d → b.length = a.length → c.length = a.length →
    ∃ a' b' c' p' h', Ev (fun k => spec_l04DrawOf.l0 k t (d : Int) code p h a b c) (a', b', c', p', h') ∧ AtOk code p' ∧ 1 ≤ a'.length ∧ a'.length ≤ 4 ∧ b'.length = a'.length ∧ c'.length = a'.length := by
  induction d with
  | zero =>
    intro p h a b c hp ha ha1 hb hcl
    obtain ⟨r, p', h', e, _, _, _, hp'⟩ := next_some hc hp h 20
    by_cases hr : r = 0
    · obtain ⟨r2, p2, h2, e2, _, hp2⟩ := pick_some hc hp' h' ([59, 60, 37] : List Int) (by simp)
      refine ⟨a, b.set 0 r2, c.set 0 (mn (rd c 0) (rd (b.set 0 r2) 0)), p2, h2, Ev.step (fun k => by rw [spec_l04DrawOf.l0]) ?_, hp2, by omega, by omega, by simpa using hb, by simpa using hcl⟩
      refine Ev.neg (by omega) (Ev.bindc e (Ev.pos hr (Ev.bindc e2 (Ev.pos (by omega) (Ev.bindc rfl (Ev.pos (by omega) (Ev.now _)))))))
    · refine ⟨a, b, c, p', h', Ev.step (fun k => by rw [spec_l04DrawOf.l0]) ?_, hp', by omega, by omega, hb, hcl⟩
      exact Ev.neg (by omega) (Ev.bindc e (Ev.neg hr (Ev.now _)))
  | succ d ih =>
    intro p h a b c hp ha ha1 hb hcl
    obtain ⟨r, p1, h1, e1, r0, r1, _, hp1⟩ := next_some hc hp h t
    have r1' := r1 ht.1
    obtain ⟨s, p2, h2, e2, _, _, _, hp2⟩ := next_some hc hp1 h1 (mx (wrap64 (Int.tdiv (rd ([2, 3, 4, 6, 8, 12, 5, 10, 15] : List Int) r) 3)) 1)
    obtain ⟨u, p3, h3, e3, _, _, _, hp3⟩ := next_some hc hp2 h2 3
    have hw : wrap64 (((d + 1 : Nat) : Int) - 1) = (d : Int) := by rw [wrap64_id (by omega) (by omega)]; omega
    have g9 : r < (([2, 3, 4, 6, 8, 12, 5, 10, 15] : List Int).length : Int) := by simp; omega
    by_cases hu : u = 0
    · obtain ⟨v, p4, h4, e4, _, _, _, hp4⟩ := next_some hc hp3 h3 (rd ([2, 3, 4, 6, 8, 12, 5, 10, 15] : List Int) r)
      obtain ⟨a', b', c', p', h', E, q1, q2, q3, q4, q5⟩ := ih p4 h4 (a ++ [wrap64 (1 + s)]) (b ++ [rd ([2, 3, 4, 6, 8, 12, 5, 10, 15] : List Int) r]) (c ++ [mn (wrap64 ((wrap64 (1 + s)) + v)) (rd ([2, 3, 4, 6, 8, 12, 5, 10, 15] : List Int) r)]) hp4 (by simp; omega) (by simp; omega) (by simp; omega) (by simp; omega)
      refine ⟨a', b', c', p', h', Ev.step (fun k => by rw [spec_l04DrawOf.l0]) ?_, q1, q2, q3, q4, q5⟩
      refine Ev.pos (by omega) (Ev.bindc rfl (Ev.bindc e1 (Ev.pos r0 (Ev.pos g9 (Ev.bindc e2 (Ev.bindc e3 (Ev.pos hu (Ev.bindc e4 ?_))))))))
      refine Ev.pos (by omega) (Ev.pos (by omega) (Ev.pos (by omega) ?_))
      rw [hw]; exact E
    · obtain ⟨a', b', c', p', h', E, q1, q2, q3, q4, q5⟩ := ih p3 h3 (a ++ [wrap64 (1 + s)]) (b ++ [rd ([2, 3, 4, 6, 8, 12, 5, 10, 15] : List Int) r]) (c ++ [rd ([2, 3, 4, 6, 8, 12, 5, 10, 15] : List Int) r]) hp3 (by simp; omega) (by simp; omega) (by simp; omega) (by simp; omega)
      refine ⟨a', b', c', p', h', Ev.step (fun k => by rw [spec_l04DrawOf.l0]) ?_, q1, q2, q3, q4, q5⟩
      refine Ev.pos (by omega) (Ev.bindc rfl (Ev.bindc e1 (Ev.pos r0 (Ev.pos g9 (Ev.bindc e2 (Ev.bindc e3 (Ev.neg hu ?_)))))))
      refine Ev.pos (by omega) (Ev.pos (by omega) (Ev.pos (by omega) ?_))
      rw [hw]; exact E
theorem drawOf_ev (hc : CodeOk code) (p h : Int) (hp : AtOk code p) : ∃ a b c p' h', Ev (fun k => spec_l04DrawOf.f k code p h) (a, b, c, p', h') ∧ AtOk code p' ∧ 1 ≤ a.length ∧ a.length ≤ 4 ∧ b.length = a.length ∧ c.length = a.length := by
  obtain ⟨t, p1, h1, e1, ht, hp1⟩ := pick_some hc hp h ([3, 6, 6, 9] : List Int) (by simp)
  obtain ⟨m, p2, h2, e2, m0, m1, _, hp2⟩ := next_some hc hp1 h1 4
  have m1' := m1 (by omega)
  obtain ⟨q, rfl⟩ := Int.eq_ofNat_of_zero_le m0
  have ht' : 1 ≤ t ∧ t ≤ 9 := by simp at ht; omega
  obtain ⟨a', b', c', p', h', E, q1, q2, q3, q4, q5⟩ := drawOf_l hc t ht' (1 + q) p2 h2 [] [] [] hp2 (by simp; omega) (by simp) rfl rfl
  refine ⟨a', b', c', p', h', ?_, q1, q2, q3, q4, q5⟩
  unfold spec_l04DrawOf.f
  refine Ev.bindc e1 (Ev.bindc e2 ?_)
  have hw : wrap64 (1 + (q : Int)) = ((1 + q : Nat) : Int) := by rw [wrap64_id (by omega) (by omega)]; omega
  show Ev (fun k => spec_l04DrawOf.l0 k t (wrap64 (1 + (q : Int))) code p2 h2 [] [] []) _
  rw [hw]; exact E
theorem own_some (l : List Int) (h : l.length ≤ 1000) : spec_l01Own.f l = some l := by
  unfold spec_l01Own.f
  simp; omega
theorem bad_some (hc : CodeOk code) (p h : Int) (hp : AtOk code p) (a b c : List Int) (ha : 1 ≤ a.length) (ha4 : a.length ≤ 4) (hb : b.length = a.length) (hcl : c.length = a.length) : ∃ a' b' c' p' h', spec_l04Bad.f code p h a b c = some (a', b', c', p', h') ∧ AtOk code p' ∧ a'.length ≤ 5 ∧ b'.length ≤ 5 ∧ c'.length ≤ 5 := by
  unfold spec_l04Bad.f
  obtain ⟨r, p1, h1, e1, _, _, _, hp1⟩ := next_some hc hp h 40
  rw [e1]
  simp only [Option.bind_some]
  by_cases h0 : r = 0
  · rw [if_pos h0, own_some a (by omega)]
    simp only [Option.bind_some]
    rw [if_pos (by omega)]
    exact ⟨_, _, _, _, _, rfl, hp1, by simp; omega, by omega, by omega⟩
  · rw [if_neg h0]
    by_cases h2 : r = 1
    · rw [if_pos h2, own_some b (by omega)]
      obtain ⟨r2, p2, h2', e2, _, hp2⟩ := pick_some hc hp1 h1 ([0, 61, (-1)] : List Int) (by simp)
      simp only [Option.bind_some]
      rw [e2]
      simp only [Option.bind_some]
      rw [if_pos (by omega)]
      exact ⟨_, _, _, _, _, rfl, hp2, by omega, by simp; omega, by omega⟩
    · rw [if_neg h2]
      by_cases h3 : r = 2
      · rw [if_pos h3, own_some c (by omega)]
        obtain ⟨r2, p2, h2', e2, _, hp2⟩ := pick_some hc hp1 h1 ([0, 61] : List Int) (by simp)
        simp only [Option.bind_some]
        rw [e2]
        simp only [Option.bind_some]
        rw [if_pos (by omega)]
        exact ⟨_, _, _, _, _, rfl, hp2, by omega, by omega, by simp; omega⟩
      · rw [if_neg h3]
        exact ⟨_, _, _, _, _, rfl, hp1, by omega, by omega, by omega⟩
theorem drawJ_ev (hc : CodeOk code) : ∃ a b c, Ev (fun k => spec_l04Draw.f k code) (a, b, c) ∧ a.length ≤ 5 ∧ b.length ≤ 5 ∧ c.length ≤ 5 := by
  obtain ⟨h, e⟩ := from_ev hc
  obtain ⟨a, b, c, p1, h1, e1, hp1, q1, q2, q3, q4⟩ := drawOf_ev hc 0 h (at0 code)
  obtain ⟨a', b', c', p2, h2, e2, hp2, r1, r2, r3⟩ := bad_some hc p1 h1 hp1 a b c q1 q2 q3 q4
  refine ⟨a', b', c', ?_, r1, r2, r3⟩
  unfold spec_l04Draw.f
  exact Ev.bind e (Ev.bind e1 (Ev.bindc e2 (Ev.now _)))
theorem drawDeadlineSlots_ev (hc : CodeOk code) : ∃ a b c, Ev (fun k => spec_DrawDeadlineSlots.f k code) (a, b, c) ∧ a.length ≤ 5 ∧ b.length ≤ 5 ∧ c.length ≤ 5 := by
  obtain ⟨a, b, c, e, h⟩ := drawJ_ev hc
  refine ⟨a, b, c, ?_, h⟩
  unfold spec_DrawDeadlineSlots.f
  exact Ev.bind e (Ev.now _)
theorem drawDemandUpTo_ev (hc : CodeOk code) : ∃ a b c n, Ev (fun k => spec_DrawDemandUpTo.f k code) (a, b, c, n) ∧ a.length ≤ 5 ∧ b.length ≤ 5 ∧ c.length ≤ 5 := by
  obtain ⟨a, b, c, e, hh⟩ := drawJ_ev hc
  obtain ⟨h, e0⟩ := from_ev hc
  obtain ⟨t, p1, h1, e1, ht, hp1⟩ := pick_some hc (at0 code) h ([10, 30, 1000] : List Int) (by simp)
  obtain ⟨n, p2, h2, e2, hp2⟩ := near_some hc hp1 h1 t
  refine ⟨a, b, c, n, ?_, hh⟩
  unfold spec_DrawDemandUpTo.f
  exact Ev.bind e0 (Ev.bind e (Ev.bindc e1 (Ev.bindc e2 (Ev.now _))))
end
end Go.Proofs.Ytoakdilhljnjfaa.Pure
namespace Go.Proofs.Ytoakdilhljnjfaa.Q
open Go.RowKit Go.Proofs.YtoakdilhljnjfaaW.PrintWords Go.Proofs.YtoakdilhljnjfaaW.PrintLast Go.Proofs.YtoakdilhljnjfaaW.PrintMore
attribute [local go_sem] max2_int min2_int max_two min_two max_three min_three max_four min_four   -- for this text's walks alone
set_option linter.unusedVariables false
set_option linter.unusedSimpArgs false
def laws_likeInts.l0 : Nat → List Int → List Int → Int → Option (Bool)
 | 0, _, _, _ => none
 | k + 1, x0, x1, x5 => if x5 < (x0.length : Int) then (if 0 ≤ x5 then (if x5 < (x1.length : Int) then (if (rd x0 x5) = (rd x1 x5) then (laws_likeInts.l0 k x0 x1 (wrap64 (x5 + 1))) else (some false)) else (none)) else (none)) else (some true)
def laws_likeInts.f (k : Nat) (l0 : List Int) (l1 : List Int) : Option (Bool) := if (l0.length : Int) = (l1.length : Int) then (laws_likeInts.l0 k l0 l1 0) else (some false)
set_option maxHeartbeats 8000000 in
set_option maxRecDepth 100000 in
theorem laws_likeInts.calls (k : Nat) (A0 : Option Addr) (c0 : Nat) (l0 : List Int) (A1 : Option Addr) (c1 : Nat) (l1 : List Int) (r : Bool) (w : World) (hr0 : Kd.C (Kd.int .i64) w A0 l0.length l0) (hc0 : l0.length ≤ c0) (hr1 : Kd.C (Kd.int .i64) w A1 l1.length l1) (hc1 : l1.length ≤ c1) (h : laws_likeInts.f k l0 l1 = some r) :
 Calls Try.prog 26 #[.slice A0 l0.length c0, .slice A1 l1.length c1] w fun e w' => e = .returned (.bool r) ∧ Drawn0 w w' := by
 have HR0 := Aside0.mk hr0
 have HC0 := Aside0.mk hc0
 clear hr0 hc0
 have HR1 := Aside0.mk hr1
 have HC1 := Aside0.mk hc1
 clear hr1 hc1
 have H : (if (l0.length : Int) = (l1.length : Int) then (laws_likeInts.l0 k l0 l1 0) else (some false)) = some r := h
 clear h
 by_cases c3 : (l0.length : Int) = (l1.length : Int)
 rotate_left
 · rw [if_neg c3] at H
   have c3b0 : ((l0.length : Int) == (l1.length : Int)) = false := beq_eq_false_iff_ne.mpr c3
   have c3b1 : ((l0.length : Int) != (l1.length : Int)) = true := bne_iff_ne.mpr c3
   have c3b2 : (l0.length == l1.length) = false := by (simp at c3 ⊢; omega)
   obtain rfl := Option.some.inj H
   go_enter Try.func26, Try.ntmps26
   go_wp2
   repeat (go_quiet (fail); try go_wp2)
   go_ret
   exact ⟨by rfl, by exact Drawn0.refl _⟩
 rw [if_pos c3] at H
 have c3b0 : ((l0.length : Int) == (l1.length : Int)) = true := beq_iff_eq.mpr c3
 have c3b1 : ((l0.length : Int) != (l1.length : Int)) = false := bne_eq_false_iff_eq.mpr c3
 have c3b2 : (l0.length == l1.length) = true := by (simp at c3 ⊢; omega)
 clear c3
 have H' := Aside0.mk H
 clear H
 go_enter Try.func26, Try.ntmps26
 go_wp2
 repeat (go_quiet (fail); try go_wp2)
 go_loopg [5] k (fun kq v5 w' => ∃ (x5_1 : Int), v5 = .int .i64 x5_1 ∧ Aside0 (laws_likeInts.l0 kq l0 l1 x5_1 = some r) ∧ Aside0 (kq ≤ k) ∧ Drawn0 w w')
 case atStart => exact ⟨(0), (by rfl), H', ⟨Nat.le_refl _⟩, by exact Drawn0.refl _⟩
 clear H'
 clear c3b0 c3b1 c3b2
 obtain ⟨x5_1, rfl, HA, HK1, ⟨m1, rfl⟩⟩ := hrel
 cases gk with
 | zero => exact absurd HA.out (by simp [laws_likeInts.l0])
 | succ k1 =>
  have H := HA.out
  clear HA
  simp only [laws_likeInts.l0] at H
  by_cases c4 : x5_1 < (l0.length : Int)
  rotate_left
  · rw [if_neg c4] at H
    have c4b0 : decide (x5_1 < (l0.length : Int)) = false := decide_eq_false c4
    clear c4
    obtain rfl := Option.some.inj H
    go_wp2
    repeat (go_quiet (fail); try go_wp2)
    go_ret
    exact ⟨by rfl, by repeat (first | exact Drawn0.refl _ | apply Drawn0.step)⟩
  rw [if_pos c4] at H
  have c4b0 : decide (x5_1 < (l0.length : Int)) = true := decide_eq_true c4
  clear c4
  by_cases c5 : 0 ≤ x5_1
  rotate_left
  · rw [if_neg c5] at H
    exact absurd H (by simp)
  rw [if_pos c5] at H
  have c5b0 : decide (0 ≤ x5_1) = true := decide_eq_true c5
  clear c5
  by_cases c6 : x5_1 < (l1.length : Int)
  rotate_left
  · rw [if_neg c6] at H
    exact absurd H (by simp)
  rw [if_pos c6] at H
  have c6b0 : decide (x5_1 < (l1.length : Int)) = true := decide_eq_true c6
  clear c6
  by_cases c7 : (rd l0 x5_1) = (rd l1 x5_1)
  rotate_left
  · rw [if_neg c7] at H
    have c7b0 : ((rd l0 x5_1) == (rd l1 x5_1)) = false := beq_eq_false_iff_ne.mpr c7
    have c7b1 : ((rd l0 x5_1) != (rd l1 x5_1)) = true := bne_iff_ne.mpr c7
    obtain rfl := Option.some.inj H
    have p435 : 0 ≤ (x5_1 : Int) := of_decide_eq_true (by (with_reducible assumption))
    have q435 : x5_1 < (l0.length : Int) := of_decide_eq_true (by (with_reducible assumption))
    obtain ⟨ad435, e435, hx435_0⟩ := Kd.at_int HR0.out x5_1 p435 q435
    cases e435
    replace p435 := eq_true p435
    replace q435 := eq_true q435
    have p436 : 0 ≤ (x5_1 : Int) := of_decide_eq_true (by (with_reducible assumption))
    have q436 : x5_1 < (l1.length : Int) := of_decide_eq_true (by (with_reducible assumption))
    obtain ⟨ad436, e436, hx436_0⟩ := Kd.at_int HR1.out x5_1 p436 q436
    cases e436
    replace p436 := eq_true p436
    replace q436 := eq_true q436
    go_wp2
    repeat (go_quiet (fail); try go_wp2)
    go_ret
    exact ⟨by rfl, by repeat (first | exact Drawn0.refl _ | apply Drawn0.step)⟩
  rw [if_pos c7] at H
  have c7b0 : ((rd l0 x5_1) == (rd l1 x5_1)) = true := beq_iff_eq.mpr c7
  have c7b1 : ((rd l0 x5_1) != (rd l1 x5_1)) = false := bne_eq_false_iff_eq.mpr c7
  clear c7
  have H' := Aside0.mk H
  clear H
  have p435 : 0 ≤ (x5_1 : Int) := of_decide_eq_true (by (with_reducible assumption))
  have q435 : x5_1 < (l0.length : Int) := of_decide_eq_true (by (with_reducible assumption))
  obtain ⟨ad435, e435, hx435_0⟩ := Kd.at_int HR0.out x5_1 p435 q435
  cases e435
  replace p435 := eq_true p435
  replace q435 := eq_true q435
  have p436 : 0 ≤ (x5_1 : Int) := of_decide_eq_true (by (with_reducible assumption))
  have q436 : x5_1 < (l1.length : Int) := of_decide_eq_true (by (with_reducible assumption))
  obtain ⟨ad436, e436, hx436_0⟩ := Kd.at_int HR1.out x5_1 p436 q436
  cases e436
  replace p436 := eq_true p436
  replace q436 := eq_true q436
  go_wp2
  repeat (go_quiet (fail); try go_wp2)
  go_roundg k1
  case measure => have := HK1.out; omega
  case rel => exact ⟨(wrap64 (x5_1 + 1)), (by rfl), H', ⟨by have := HK1.out; omega⟩, by repeat (first | exact Drawn0.refl _ | apply Drawn0.step)⟩
end Go.Proofs.Ytoakdilhljnjfaa.Q
namespace Go.Proofs.Ytoakdilhljnjfaa.Q
open Go.RowKit Go.Proofs.YtoakdilhljnjfaaW.PrintWords Go.Proofs.YtoakdilhljnjfaaW.PrintLast Go.Proofs.YtoakdilhljnjfaaW.PrintMore
attribute [local go_sem] max2_int min2_int max_two min_two max_three min_three max_four min_four   -- for this text's walks alone
set_option linter.unusedVariables false
set_option linter.unusedSimpArgs false
def laws_big.f (l0 : List Int) : Option (Bool) := some (decide ((l0.length : Int) > 4096))
set_option maxHeartbeats 8000000 in
set_option maxRecDepth 100000 in
theorem laws_big.calls (A0 : Option Addr) (c0 : Nat) (l0 : List Int) (r : Bool) (w : World) (hr0 : Kd.C (Kd.int .u8) w A0 l0.length l0) (hc0 : l0.length ≤ c0) (h : laws_big.f l0 = some r) :
 Calls Try.prog 22 #[.slice A0 l0.length c0] w fun e w' => e = .returned (.bool r) ∧ Drawn0 w w' := by
 have HR0 := Aside0.mk hr0
 have HC0 := Aside0.mk hc0
 clear hr0 hc0
 have H : (some (decide ((l0.length : Int) > 4096))) = some r := h
 clear h
 obtain rfl := Option.some.inj H
 go_enter Try.func22, Try.ntmps22
 go_wp2
 go_ret
 exact ⟨by rfl, by exact Drawn0.refl _⟩
end Go.Proofs.Ytoakdilhljnjfaa.Q
namespace Go.Proofs.Ytoakdilhljnjfaa.Q
open Go.RowKit Go.Proofs.YtoakdilhljnjfaaW.PrintWords Go.Proofs.YtoakdilhljnjfaaW.PrintLast Go.Proofs.YtoakdilhljnjfaaW.PrintMore
attribute [local go_sem] max2_int min2_int max_two min_two max_three min_three max_four min_four   -- for this text's walks alone
set_option linter.unusedVariables false
set_option linter.unusedSimpArgs false
def impl_DeadlineSlots.f (k : Nat) (l0_0 : List Int) (l0_1 : List Int) (l0_2 : List Int) : Option (List Int × Int) := (impl_jobsCode.f k l0_0 l0_1 l0_2 true true).bind fun t376 => (if t376 = 0 then ((impl_Jobs_earliest.f k l0_0 l0_1 l0_2).bind fun bt377 => (some (bt377.1, 0))) else (some (([] : List Int), t376)))
end Go.Proofs.Ytoakdilhljnjfaa.Q
