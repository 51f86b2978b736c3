/- The program's LeastEqualGap returns what the reference's returns, for all arguments. (Part 3 of 4.) No conditions beside those of the statement. -/
import Derived.Test.YtoakdilhljnjfaaCLEG2
import Derived.Test.YtoakdilhljnjfaaCLEG1
/- impl.watchOf: it comes to what its parts come to. -/
namespace Go.Proofs.Ytoakdilhljnjfaa.Q
open Go.RowKit Go.Proofs.YtoakdilhljnjfaaW.PrintWords Go.Proofs.YtoakdilhljnjfaaW.PrintLast Go.Proofs.YtoakdilhljnjfaaW.PrintMore
set_option linter.unusedVariables false
set_option linter.unusedSimpArgs false

/-- Two rows of other types: what the one leads to is none of the other's block. -/
theorem R_apart2 {α β : Type} {d : Kd α} {d' : Kd β} {e e' base base' : Nat} {ok ok' : Nat → Prop} {W : World} {v v' : Value} {xs : List α} {xs' : List β} (h : d.R e W base ok v xs) (h' : d'.R e' W base' ok' v' xs') (ht : ∀ q, q ∈ e :: d.E → q ≠ e') : d.R e W base (fun k => ok k ∧ some k ≠ v'.ownBlock) v xs := by
  cases hv : v'.ownBlock with
  | none => exact Kd.R_mono h (fun k hk => ⟨hk, by simp⟩)
  | some g =>
    obtain ⟨inner, ho⟩ := Kd.R_own h'
    obtain ⟨cells, hc⟩ := own_typed ho g hv
    exact Kd.R_mono (Kd.R_types h hc ht) (fun k hk => ⟨hk.1, by intro e; injection e with e; exact hk.2 e⟩)
theorem R_other {α β : Type} {d : Kd α} {d' : Kd β} {e e' base base' : Nat} {ok' : Nat → Prop} {W W1 : World} {v v' : Value} {xs : List α} {xs' : List β} (h : d.R e W base (fun _ => True) v xs) (h' : d'.R e' W base' ok' v' xs') (ht : ∀ q, q ∈ e :: d.E → q ≠ e') (hg : W.grownBy W1 v'.ownBlock) : d.R e W1 base (fun _ => True) v xs :=
  Kd.R_mono (Kd.R_grown (R_apart2 h h' ht) hg (fun _ hk => hk.2)) (fun _ _ => trivial)
theorem R_past {α : Type} {d : Kd α} {e base g t : Nat} {W : World} {v : Value} {xs : List α} {cells : Array Value} (h : d.R e W base (fun _ => True) v xs) (hb : W.heap[g]? = some (.cells cells t (0, 0))) (ht : ∀ q, q ∈ e :: d.E → q ≠ t) {p : Addr} (hp : p.block = g) (u : Value) : d.R e (W.setCell p u) base (fun _ => True) v xs :=
  Kd.R_mono (Kd.R_far (p := p) (Kd.R_types h hb ht) (fun k hk => by rw [hp]; exact hk.2) u) (fun _ _ => trivial)
section
variable {W : World} {g : Nat} {P R : Int} {A2 : Option Addr} {c2 : Nat} {gaps : List Int} {nv sv : Value}
theorem WBlk.set3 (h : WBlk W g P R A2 c2 gaps nv sv) (v : Value) : WBlk (W.setCell ⟨g, 3, none⟩ v) g P R A2 c2 gaps v sv := by
  unfold WBlk at *
  simpa using blk_set h 3 v
theorem WBlk.set4 (h : WBlk W g P R A2 c2 gaps nv sv) (v : Value) : WBlk (W.setCell ⟨g, 4, none⟩ v) g P R A2 c2 gaps nv v := by
  unfold WBlk at *
  simpa using blk_set h 4 v
theorem WBlk.below {W1 : World} (h : WBlk W g P R A2 c2 gaps nv sv) (hb : Below W.heap.size W W1) : WBlk W1 g P R A2 c2 gaps nv sv := blk_below h hb
end

theorem infoRow : (Try.prog.info? 22).map (fun i => (i.zero, i.size, i.bytes)) = some (some (.slice none 0 0), 1, 24) := by kernel_rfl
theorem infoBool : (Try.prog.info? 4).map (fun i => (i.zero, i.size, i.bytes)) = some (some (.bool false), 1, 1) := by kernel_rfl

def impl_watchOf.l0 : Nat → Int → Int → List Int → Int → Int → List (List Int) → List Bool → Option (List (List Int) × List Bool)
  | 0, _, _, _, _, _, _, _ => none
  | k + 1, P, R, gaps, all, n, next, safe => if n < all then ((impl_watch_moves.f k P R gaps n).bind fun m => (impl_Tasks_numbered.f k gaps (wrap64 (Int.tdiv n P))).bind fun st => if (0 ≤ Int.tmod n P ∧ Int.tmod n P < (st.length : Int) ∧ Int.tmod n P < (gaps.length : Int)) ∧ next.length < 100000 ∧ safe.length < 100000 then impl_watchOf.l0 k P R gaps all (wrap64 (n + 1)) (next ++ [m]) (safe ++ [rd st (Int.tmod n P) == rd gaps (Int.tmod n P)]) else none) else some (next, safe)
def impl_watchOf.l2 : Nat → Int → Int → List Int → List (List Int) → Int → Int → List Bool → Bool → Option (List Bool × Bool)
  | 0, _, _, _, _, _, _, _, _ => none
  | k + 1, P, R, gaps, next, len, n, safe, ch => if n < len then (if 0 ≤ n then (if rdOf false safe n = true then ((watchMv next safe n).bind fun b => if b < 0 then impl_watchOf.l2 k P R gaps next len (wrap64 (n + 1)) (safe.set n.toNat false) true else impl_watchOf.l2 k P R gaps next len (wrap64 (n + 1)) safe ch) else impl_watchOf.l2 k P R gaps next len (wrap64 (n + 1)) safe ch) else none) else some (safe, ch)
def impl_watchOf.l1 : Nat → Int → Int → List Int → List (List Int) → List Bool → Bool → Option (List Bool)
  | 0, _, _, _, _, _, _ => none
  | k + 1, P, R, gaps, next, safe, ch => if ch = true then ((impl_watchOf.l2 k P R gaps next safe.length 0 safe false).bind fun b => impl_watchOf.l1 k P R gaps next b.1 b.2) else some safe
def impl_watchOf.f (k : Nat) (P R : Int) (gaps : List Int) : Option (List Bool) := (impl_Tasks_states.f k gaps).bind fun s => (impl_watchOf.l0 k P R gaps (wrap64 (s * P)) 0 [] []).bind fun ns => impl_watchOf.l1 k P R gaps ns.1 ns.2 true

theorem impl_watchOf.mono_l0 : ∀ k P R gaps all n next safe, LeO (impl_watchOf.l0 k P R gaps all n next safe) (impl_watchOf.l0 (k + 1) P R gaps all n next safe)
  | 0 => fun _ _ _ _ _ _ _ r h => by simp [impl_watchOf.l0] at h
  | k + 1 => by
    intro P R gaps all n next safe
    rw [impl_watchOf.l0, impl_watchOf.l0]
    exact LeO.ite (LeO.bind (impl_watch_moves.mono _ _ _ _ _) fun _ => LeO.bind (impl_Tasks_numbered.mono _ _ _) fun _ => LeO.ite (impl_watchOf.mono_l0 k _ _ _ _ _ _ _) (LeO.refl _)) (LeO.refl _)
theorem impl_watchOf.mono_l2 : ∀ k P R gaps next len n safe ch, LeO (impl_watchOf.l2 k P R gaps next len n safe ch) (impl_watchOf.l2 (k + 1) P R gaps next len n safe ch)
  | 0 => fun _ _ _ _ _ _ _ _ r h => by simp [impl_watchOf.l2] at h
  | k + 1 => by
    intro P R gaps next len n safe ch
    rw [impl_watchOf.l2, impl_watchOf.l2]
    have ih := impl_watchOf.mono_l2 k
    exact LeO.ite (LeO.ite (LeO.ite (LeO.bind (LeO.refl _) fun _ => LeO.ite (ih _ _ _ _ _ _ _ _) (ih _ _ _ _ _ _ _ _)) (ih _ _ _ _ _ _ _ _)) (LeO.refl _)) (LeO.refl _)
theorem impl_watchOf.mono_l1 : ∀ k P R gaps next safe ch, LeO (impl_watchOf.l1 k P R gaps next safe ch) (impl_watchOf.l1 (k + 1) P R gaps next safe ch)
  | 0 => fun _ _ _ _ _ _ r h => by simp [impl_watchOf.l1] at h
  | k + 1 => by
    intro P R gaps next safe ch
    rw [impl_watchOf.l1, impl_watchOf.l1]
    exact LeO.ite (LeO.bind (impl_watchOf.mono_l2 _ _ _ _ _ _ _ _ _) fun _ => impl_watchOf.mono_l1 k _ _ _ _ _ _) (LeO.refl _)
theorem impl_watchOf.mono : ∀ P R gaps k, LeO (impl_watchOf.f k P R gaps) (impl_watchOf.f (k + 1) P R gaps) := by
  intro P R gaps k
  unfold impl_watchOf.f
  exact LeO.bind (impl_Tasks_states.mono _ _) fun _ => LeO.bind (impl_watchOf.mono_l0 _ _ _ _ _ _ _ _) fun _ => impl_watchOf.mono_l1 _ _ _ _ _ _ _

def WOut (w : World) (P R : Int) (A2 : Option Addr) (c2 : Nat) (gaps : List Int) (r : List Bool) (e : Ending) (w' : World) : Prop :=
  ∃ gw nv A4 c4, e = .returned (.pointer (some ⟨gw, 0, none⟩)) ∧ WBlk w' gw P R A2 c2 gaps nv (.slice A4 r.length c4) ∧ Kd.C Kd.bool w' A4 r.length r ∧ Below w.heap.size w w'
theorem WOut.mk' {w : World} {P R : Int} {A2 : Option Addr} {c2 : Nat} {gaps : List Int} {r : List Bool} {e : Ending} {w' : World} (h : ∃ gw nv A4 c4, e = .returned (.pointer (some ⟨gw, 0, none⟩)) ∧ WBlk w' gw P R A2 c2 gaps nv (.slice A4 r.length c4) ∧ Kd.C Kd.bool w' A4 r.length r ∧ Below w.heap.size w w') : WOut w P R A2 c2 gaps r e w' := h

set_option maxHeartbeats 3200000 in
set_option maxRecDepth 100000 in
theorem impl_watchOf.calls (k : Nat) (P R : Int) (A2 : Option Addr) (c2 : Nat) (gaps : List Int) (r : List Bool) (w : World) (hr : Kd.C (Kd.int .i64) w A2 gaps.length gaps) (hc : gaps.length ≤ c2) (h : impl_watchOf.f k P R gaps = some r) :
    Calls Try.prog 120 #[.agg #[.int .i64 P, .int .i64 R], .agg #[.slice A2 gaps.length c2]] w fun e w' => WOut w P R A2 c2 gaps r e w' := by
  have hu1 := Try.underlying67
  have hu2 := Try.underlying42
  have hu3 := Try.underlying119
  have HR := Aside0.mk hr
  have HC := Aside0.mk hc
  unfold impl_watchOf.f at h
  obtain ⟨s, e1, h⟩ := Option.bind_eq_some_iff.mp h
  obtain ⟨⟨next, safe⟩, e2, h⟩ := Option.bind_eq_some_iff.mp h
  have E1 := Aside0.mk e1
  have HA := Aside0.mk e2
  have HL := Aside0.mk (show impl_watchOf.l1 k P R gaps next safe true = some r from h)
  clear hr hc e1 e2 h
  go_enter Try.func120, Try.ntmps120
  go_wp2_with (first | ((with_reducible refine gate_dst (N := 2) rfl ?_); refine box_event ?hg (N := 2) ?hd (cs := #[.int .i64 P, .int .i64 R]) (t := 42) ?hr ?_; (case hd => rfl); (case hg => rfl); (case hr => first | (go_simp; done) | (go_simp; rfl)); intro b2 hg w1 hbox hb; have HB1 := Aside0.mk hb; have KB2 := Aside0.mk hbox; clear hg hbox hb) | ((with_reducible refine gate_dst (N := 3) rfl ?_); refine box_event ?hg (N := 3) ?hd (cs := #[.slice A2 gaps.length c2]) (t := 67) ?hr ?_; (case hd => rfl); (case hg => rfl); (case hr => first | (go_simp; done) | (go_simp; rfl)); intro b3 hg w2 hbox hb; have HB2 := Aside0.mk (below_more HB1.out hb); have KB3 := Aside0.mk hbox; have KB2' := Aside0.mk (blk_below KB2.out hb); clear KB2 HB1 hg hbox hb; have KB2 := KB2'; clear KB2'; have c20 : w2.cell? ⟨b2, 0, none⟩ = some (.int .i64 P) := (blk_cell KB2.out 0).trans rfl; have c21 : w2.cell? ⟨b2, 1, none⟩ = some (.int .i64 R) := (blk_cell KB2.out 1).trans rfl; have c30 : w2.cell? ⟨b3, 0, none⟩ = some (.slice A2 gaps.length c2) := (blk_cell KB3.out 0).trans rfl) | ((with_reducible refine gate_dst (N := 14) rfl ?_); refine box_event ?hg (N := 14) ?hd (cs := #[.int .i64 P, .int .i64 R, .slice A2 gaps.length c2, .slice none 0 0, .slice none 0 0]) (t := 119) ?hr ?_; (case hd => rfl); (case hg => rfl); (case hr => first | (go_simp; done) | (go_simp; rfl)); intro gw hg w3 hbox hb; have HB3 := Aside0.mk (below_more HB2.out hb); have HG := Aside0.mk (show w.heap.size ≤ gw by rw [hg]; exact HB2.out.size); have KW3 : Aside0 (WBlk w3 gw P R A2 c2 gaps (.slice none 0 0) (.slice none 0 0)) := ⟨hbox⟩; have KB3' := Aside0.mk (blk_below KB3.out hb); have KB2' := Aside0.mk (blk_below KB2.out hb); clear KB2 KB3 hg hbox hb c20 c21 c30; have KB2 := KB2'; have KB3 := KB3'; clear KB2' KB3'))
  refine start_ (n := 6) (S := fun w' => w'.cell? ⟨b2, 0, none⟩ = some (.int .i64 P) ∧ w'.cell? ⟨b3, 0, none⟩ = some (.slice A2 gaps.length c2)) (ds := []) #[false, false, false, false, false, false] (by kernel_rfl) rfl rfl ⟨(blk_cell KB2.out 0).trans rfl, (blk_cell KB3.out 0).trans rfl⟩ (fun hHeld => ?_)
  refine pure_ (i := 2) (N := some 17) (v := ?_) (a' := ?_) #[false, false, true, false, false, false] rfl rfl (by kernel_rfl) (fun _ _ _ h => h) (Or.inl ⟨by rfl, ?_⟩) ?_ ?_
  rotate_left
  · intro w'
    go_simp
    with_reducible rfl
  rotate_left
  · simp only [Act.put, List.setIfInBounds_toArray, List.set_cons_zero, List.set_cons_succ, i64_w, i32_w]
    rfl
  refine pure_ (i := 5) (N := some 20) (v := ?_) (a' := ?_) #[false, false, true, false, false, true] rfl rfl (by kernel_rfl) (fun _ _ _ h => h) (Or.inl ⟨by rfl, ?_⟩) ?_ ?_
  rotate_left
  · intro w'
    go_simp
    with_reducible rfl
  rotate_left
  · simp only [Act.put, List.setIfInBounds_toArray, List.set_cons_zero, List.set_cons_succ, i64_w, i32_w]
    rfl
  refine take_ (i := 0) (N := some 15) (v := ?_) (a' := ?_) #[true, false, true, false, false, true] rfl rfl (by kernel_rfl) (fun _ _ _ h => h) (Or.inl ⟨by rfl, ?_⟩) hHeld ?_ ?_
  rotate_left
  · rintro w' ⟨s0, s1⟩
    go_simp
    with_reducible rfl
  rotate_left
  · simp only [Act.put, List.setIfInBounds_toArray, List.set_cons_zero, List.set_cons_succ, i64_w, i32_w]
    rfl
  refine take_ (i := 3) (N := some 18) (v := ?_) (a' := ?_) #[true, false, true, true, false, true] rfl rfl (by kernel_rfl) (fun _ _ _ h => h) (Or.inl ⟨by rfl, ?_⟩) hHeld ?_ ?_
  rotate_left
  · rintro w' ⟨s0, s1⟩
    go_simp
    with_reducible rfl
  rotate_left
  · simp only [Act.put, List.setIfInBounds_toArray, List.set_cons_zero, List.set_cons_succ, i64_w, i32_w]
    rfl
  refine one_ (i := 1) (N := some 16) #[true, true, true, true, false, true] rfl rfl (by kernel_rfl) (by decide) (fun K hK => ?_)
  refine goes_ Try.func119 (by kernel_rfl) rfl #[.agg #[.slice A2 gaps.length c2]] (by rfl) rfl rfl (by simp only [List.map_toArray, List.map_cons, List.map_nil]; rfl) ?_
  with_reducible refine (impl_Tasks_states.calls k A2 c2 gaps s _ (Kd.C_drew (Kd.C_below HR.out HB3.out)) HC.out E1.out).mono ?_
  rintro e w4 ⟨rfl, hb⟩
  refine ⟨_, rfl, ?_⟩
  have HB := Aside0.mk (below_more (HB3.out.drew) hb)
  have KW : Aside0 (WBlk w4 gw P R A2 c2 gaps (.slice none 0 0) (.slice none 0 0)) := ⟨WBlk.below (WBlk.drew KW3.out) hb⟩
  have KB2' := Aside0.mk (blk_below (blk_drew KB2.out) hb)
  have KB3' := Aside0.mk (blk_below (blk_drew KB3.out) hb)
  clear hb KB2 KB3 KW3 HB3 HB2
  have KB2 := KB2'
  have KB3 := KB3'
  clear KB2' KB3'
  refine hK.out _ _ ⟨(blk_cell KB2.out 0).trans rfl, (blk_cell KB3.out 0).trans rfl⟩ (fun hHeld => ?_)
  clear hK K
  refine norm_ (a' := ?_) ?_ ?_
  rotate_left
  · show Act.put _ (some 16) _ = _
    simp only [Act.put, List.setIfInBounds_toArray, List.set_cons_zero, List.set_cons_succ, i64_w, i32_w]
    rfl
  refine pure_ (i := 4) (N := some 19) (v := ?_) (a' := ?_) #[true, true, true, true, true, true] rfl rfl (by kernel_rfl) (fun _ _ _ h => h) (Or.inl ⟨by rfl, ?_⟩) ?_ ?_
  rotate_left
  · intro w'
    go_simp
    with_reducible rfl
  rotate_left
  · simp only [Act.put, List.setIfInBounds_toArray, List.set_cons_zero, List.set_cons_succ, i64_w, i32_w]
    rfl
  refine done_ (by kernel_rfl) ?_
  go_wp2
  have HN := Aside0.mk (Kd.R_nil (Kd.slice 2 (Kd.int .i64)) 22 w4 w.heap.size (fun _ => True))
  have HS := Aside0.mk (Kd.R_nil Kd.bool 4 w4 w.heap.size (fun _ => True))
  clear hHeld
  go_loopg [20] k (fun kq v20 wr => ∃ (n : Int) (nx : List (List Int)) (sf : List Bool) (nv sv : Value), v20 = .int .i64 n ∧ Aside0 (impl_watchOf.l0 kq P R gaps (wrap64 (s * P)) n nx sf = some (next, safe)) ∧ Aside0 (kq ≤ k) ∧ Aside0 (Kd.R (Kd.slice 2 (Kd.int .i64)) 22 wr w.heap.size (fun _ => True) nv nx) ∧ Aside0 (Kd.R Kd.bool 4 wr w.heap.size (fun _ => True) sv sf) ∧ Aside0 (WBlk wr gw P R A2 c2 gaps nv sv) ∧ Aside0 (wr.heap[b2]? = some (.cells #[.int .i64 P, .int .i64 R] 42 (0, 0))) ∧ Aside0 (wr.heap[b3]? = some (.cells #[.slice A2 gaps.length c2] 67 (0, 0))) ∧ Aside0 (Below w.heap.size w wr))
  case atStart => exact ⟨0, [], [], _, _, rfl, HA, ⟨Nat.le_refl _⟩, HN, HS, KW, KB2, KB3, HB⟩
  case round =>
    clear HA HN HS KW KB2 KB3 HB
    obtain ⟨n, nx, sf, nv, sv, rfl, HA, HQ, HN, HS, KW, KB2, KB3, HB⟩ := hrel
    cases gk with
    | zero => exact absurd HA.out (by simp [impl_watchOf.l0])
    | succ k1 =>
      have hs := HA.out
      rw [impl_watchOf.l0] at hs
      clear HA
      by_cases hlt : n < wrap64 (s * P)
      · rw [if_pos hlt] at hs
        have hltb : decide (n < wrap64 (s * P)) = true := decide_eq_true hlt
        clear hlt
        obtain ⟨m, e1, hs⟩ := Option.bind_eq_some_iff.mp hs
        obtain ⟨st, e2, hs⟩ := Option.bind_eq_some_iff.mp hs
        have E1 := Aside0.mk e1
        have E2 := Aside0.mk e2
        have hp : ¬ P = 0 := by intro hp; rw [hp] at e1; simp [impl_watch_moves.f] at e1
        clear e1 e2
        split at hs
        · rename_i hh
          obtain ⟨⟨p0, p1, p2⟩, hln, hls⟩ := hh
          have HA := Aside0.mk hs
          have LN := Aside0.mk hln
          have LS := Aside0.mk hls
          clear hs hln hls
          have c20 : wr.cell? ⟨b2, 0, none⟩ = some (.int .i64 P) := (blk_cell KB2.out 0).trans rfl
          go_wp2
          refine start_ (n := 13) (S := fun w' => w'.cell? ⟨gw, 3, none⟩ = some nv) (ds := [12]) #[false, false, false, false, false, false, false, false, false, false, false, false, false] (by kernel_rfl) rfl rfl ((blk_cell KW.out 3).trans rfl) (fun hHeld => ?_)
          refine pure_ (i := 0) (N := some 27) (v := ?_) (a' := ?_) #[true, false, false, false, false, false, false, false, false, false, false, false, false] rfl rfl (by kernel_rfl) (fun _ _ _ h => h) (Or.inl ⟨by rfl, ?_⟩) ?_ ?_
          rotate_left
          · intro w'
            go_simp
            with_reducible rfl
          rotate_left
          · simp only [Act.put, List.setIfInBounds_toArray, List.set_cons_zero, List.set_cons_succ, i64_w, i32_w]
            rfl
          refine pure_ (i := 1) (N := some 28) (v := ?_) (a' := ?_) #[true, true, false, false, false, false, false, false, false, false, false, false, false] rfl rfl (by kernel_rfl) (fun _ _ _ h => h) (Or.inl ⟨by rfl, ?_⟩) ?_ ?_
          rotate_left
          · intro w'
            go_simp
            with_reducible rfl
          rotate_left
          · simp only [Act.put, List.setIfInBounds_toArray, List.set_cons_zero, List.set_cons_succ, i64_w, i32_w]
            rfl
          refine pure_ (i := 2) (N := some 29) (v := ?_) (a' := ?_) #[true, true, true, false, false, false, false, false, false, false, false, false, false] rfl rfl (by kernel_rfl) (fun _ _ _ h => h) (Or.inl ⟨by rfl, ?_⟩) ?_ ?_
          rotate_left
          · intro w'
            go_simp
            with_reducible rfl
          rotate_left
          · simp only [Act.put, List.setIfInBounds_toArray, List.set_cons_zero, List.set_cons_succ, i64_w, i32_w]
            rfl
          refine pure_ (i := 3) (N := some 30) (v := ?_) (a' := ?_) #[true, true, true, true, false, false, false, false, false, false, false, false, false] rfl rfl (by kernel_rfl) (fun _ _ _ h => h) (Or.inl ⟨by rfl, ?_⟩) ?_ ?_
          rotate_left
          · intro w'
            go_simp
            with_reducible rfl
          rotate_left
          · simp only [Act.put, List.setIfInBounds_toArray, List.set_cons_zero, List.set_cons_succ, i64_w, i32_w]
            rfl
          refine pure_ (i := 5) (N := some 32) (v := ?_) (a' := ?_) #[true, true, true, true, false, true, false, false, false, false, false, false, false] rfl rfl (by kernel_rfl) (fun _ _ _ h => h) (Or.inl ⟨by rfl, ?_⟩) ?_ ?_
          rotate_left
          · intro w'
            go_simp
            with_reducible rfl
          rotate_left
          · simp only [Act.put, List.setIfInBounds_toArray, List.set_cons_zero, List.set_cons_succ, i64_w, i32_w]
            rfl
          refine pure_ (i := 6) (N := some 33) (v := ?_) (a' := ?_) #[true, true, true, true, false, true, true, false, false, false, false, false, false] rfl rfl (by kernel_rfl) (fun _ _ _ h => h) (Or.inl ⟨by rfl, ?_⟩) ?_ ?_
          rotate_left
          · intro w'
            go_simp
            with_reducible rfl
          rotate_left
          · simp only [Act.put, List.setIfInBounds_toArray, List.set_cons_zero, List.set_cons_succ, i64_w, i32_w]
            rfl
          refine take_ (i := 4) (N := some 31) (v := ?_) (a' := ?_) #[true, true, true, true, true, true, true, false, false, false, false, false, false] rfl rfl (by kernel_rfl) (fun _ _ _ h => h) (Or.inl ⟨by rfl, ?_⟩) hHeld ?_ ?_
          rotate_left
          · intro w' s0
            go_simp
            with_reducible rfl
          rotate_left
          · simp only [Act.put, List.setIfInBounds_toArray, List.set_cons_zero, List.set_cons_succ, i64_w, i32_w]
            rfl
          refine one_ (i := 7) (N := some 34) #[true, true, true, true, true, true, true, true, false, false, false, false, false] rfl rfl (by kernel_rfl) (by decide) (fun K hK => ?_)
          refine goes_ Try.func128 (by kernel_rfl) rfl #[.pointer (some ⟨gw, 0, none⟩), .int .i64 n] (by rfl) rfl rfl (by simp only [List.map_toArray, List.map_cons, List.map_nil]; rfl) ?_
          with_reducible refine (impl_watch_moves.calls k1 gw P R A2 c2 gaps nv sv n m _ (WBlk.drew KW.out) (Kd.C_drew (Kd.C_below HR.out HB.out)) HC.out E1.out).mono ?_
          rintro e w3 ⟨vm, rfl, hm, hb⟩
          refine ⟨_, rfl, ?_⟩
          obtain ⟨Am, cm, rfl⟩ := Kd.R_slice hm
          have HM := Aside0.mk hm
          have HB3 := Aside0.mk (below_more HB.out.drew hb)
          have KW3 := Aside0.mk (WBlk.below (WBlk.drew KW.out) hb)
          have HN3 := Aside0.mk (Kd.R_below (Kd.R_drew HN.out) hb)
          have HS3 := Aside0.mk (Kd.R_below (Kd.R_drew HS.out) hb)
          have KB23 := Aside0.mk (blk_below (blk_drew KB2.out) hb)
          have KB33 := Aside0.mk (blk_below (blk_drew KB3.out) hb)
          have HM1 := Aside0.mk (Kd.R_lower (Kd.R_new HM.out (Kd.R_own (Kd.R_drew HN.out)).choose_spec) HB.out.size)
          clear hm hb HM
          refine hK.out _ _ ((blk_cell KW3.out 3).trans rfl) (fun hHeld => ?_)
          clear hK K
          refine norm_ (a' := ?_) ?_ ?_
          rotate_left
          · show Act.put _ (some 34) _ = _
            simp only [Act.put, List.setIfInBounds_toArray, List.set_cons_zero, List.set_cons_succ, i64_w, i32_w]
            rfl
          refine one_ (i := 8) (N := some 35) #[true, true, true, true, true, true, true, true, true, false, false, false, false] rfl rfl (by kernel_rfl) (by decide) (fun K hK => ?_)
          refine value_ (w1 := ?_) (v := ?_) (by rfl) rfl ?_ ?_
          rotate_left 2
          · go_simp
            constructor
            · rfl
            · rfl
          refine hK.out _ _ ((blk_cell (blk_alloc KW3.out _) 3).trans rfl) (fun hHeld => ?_)
          clear hK K
          refine norm_ (a' := ?_) ?_ ?_
          rotate_left
          · show Act.put _ (some 35) _ = _
            simp only [Act.put, List.setIfInBounds_toArray, List.set_cons_zero, List.set_cons_succ, i64_w, i32_w]
            rfl
          refine one_ (i := 9) (N := some 36) #[true, true, true, true, true, true, true, true, true, true, false, false, false] rfl rfl (by kernel_rfl) (by decide) (fun K hK => ?_)
          refine Kd.R_append_step (Kd.slice 2 (Kd.int .i64)) (w0 := w) w.heap.size (by rfl) (.tmp 31) (.tmp 35) 117 22 (.slice none 0 0) 24 rfl Try.underlying117 infoRow rfl (by decide) (by omega) nv nx m [.slice Am m.length cm] (fun _ => True) (fun k => True ∧ some k ≠ nv.ownBlock) rfl rfl ?aP (fun _ h => h) (fun _ _ => trivial) HN3.out HB3.out HB3.out.size ?aL ?_
          (case aP => exact ⟨_, rfl, HM1.out⟩)
          (case aL => have := LN.out; omega)
          intro v8 w7 ho hb hg hat
          obtain ⟨A8, c8, hv8⟩ := Kd.R_slice ho
          generalize (nx ++ [m]).length = n8 at hv8
          subst hv8
          have HN7 := Aside0.mk ho
          have HB7 := Aside0.mk hb
          have KW7 : Aside0 (WBlk w7 gw P R A2 c2 gaps nv sv) := ⟨blk_grown KW3.out hg (Kd.R_ne HN3.out KW3.out (by decide))⟩
          have KB27 := Aside0.mk (blk_grown KB23.out hg (Kd.R_ne HN3.out KB23.out (by decide)))
          have KB37 := Aside0.mk (blk_grown KB33.out hg (Kd.R_ne HN3.out KB33.out (by decide)))
          have HS7 := Aside0.mk (R_other HS3.out HN3.out (by decide) hg)
          clear ho hb hg hat
          have c3 : w7.cell? ⟨gw, 3, none⟩ = some nv := (blk_cell KW7.out 3).trans rfl
          have f3 : w7.frozen? ⟨gw, 3, none⟩ = false := blk_frozen KW7.out 3
          refine hK.out _ _ ((blk_cell KW7.out 3).trans rfl) (fun hHeld => ?_)
          clear hK K
          refine norm_ (a' := ?_) ?_ ?_
          rotate_left
          · show Act.put _ (some 36) _ = _
            simp only [Act.put, List.setIfInBounds_toArray, List.set_cons_zero, List.set_cons_succ, i64_w, i32_w]
            rfl
          refine pure_ (i := 10) (N := some 37) (v := ?_) (a' := ?_) #[true, true, true, true, true, true, true, true, true, true, true, false, false] rfl rfl (by kernel_rfl) (fun _ _ _ h => h) (Or.inl ⟨by rfl, ?_⟩) ?_ ?_
          rotate_left
          · intro w'
            go_simp
            with_reducible rfl
          rotate_left
          · simp only [Act.put, List.setIfInBounds_toArray, List.set_cons_zero, List.set_cons_succ, i64_w, i32_w]
            rfl
          refine pure_ (i := 11) (N := some 38) (v := ?_) (a' := ?_) #[true, true, true, true, true, true, true, true, true, true, true, true, false] rfl rfl (by kernel_rfl) (fun _ _ _ h => h) (Or.inl ⟨by rfl, ?_⟩) ?_ ?_
          rotate_left
          · intro w'
            go_simp
            with_reducible rfl
          rotate_left
          · simp only [Act.put, List.setIfInBounds_toArray, List.set_cons_zero, List.set_cons_succ, i64_w, i32_w]
            rfl
          refine last_ (i := 12) (N := none) #[true, true, true, true, true, true, true, true, true, true, true, true, true] rfl rfl (by kernel_rfl) (by decide) (fun K hK => ?_)
          refine skip_ (w1 := ?_) (by rfl) rfl ?_ ?_
          rotate_left
          · go_simp
            rfl
          refine hK.out _ _ ?_
          clear hK K
          refine done_ (by kernel_rfl) ?_
          have KW8 : Aside0 (WBlk (w7.setCell ⟨gw, 3, none⟩ (.slice A8 n8 c8)) gw P R A2 c2 gaps (.slice A8 n8 c8) sv) := ⟨WBlk.set3 KW7.out _⟩
          have HN8 := Aside0.mk (R_past HN7.out KW7.out (by decide) (p := ⟨gw, 3, none⟩) rfl (.slice A8 n8 c8))
          have HS8 := Aside0.mk (R_past HS7.out KW7.out (by decide) (p := ⟨gw, 3, none⟩) rfl (.slice A8 n8 c8))
          have NB2 : b2 ≠ gw := by rintro rfl; have h1 := KB27.out; have h2 := KW7.out; unfold WBlk at h2; rw [h1] at h2; cases h2
          have NB3 : b3 ≠ gw := by rintro rfl; have h1 := KB37.out; have h2 := KW7.out; unfold WBlk at h2; rw [h1] at h2; cases h2
          have KB28 := Aside0.mk (blk_far KB27.out (p := ⟨gw, 3, none⟩) NB2 (.slice A8 n8 c8))
          have KB38 := Aside0.mk (blk_far KB37.out (p := ⟨gw, 3, none⟩) NB3 (.slice A8 n8 c8))
          have HB8 := Aside0.mk (HB7.out.setCell (p := ⟨gw, 3, none⟩) HG.out (.slice A8 n8 c8))
          generalize w7.setCell ⟨gw, 3, none⟩ (.slice A8 n8 c8) = w8 at *
          clear c3 f3 KW7 HN7 HS7 KB27 KB37 HB7 KW3 HN3 HS3 KB23 KB33 HB3 HM1 hHeld c20
          obtain ⟨ad2, rfl, cg⟩ := Kd.at_int (Kd.C_below HR.out HB8.out) (Int.tmod n P) p0 p2
          generalize Value.slice A8 n8 c8 = nv8 at *
          go_wp2
          refine start_ (n := 25) (S := fun w' => w'.cell? ⟨gw, 4, none⟩ = some sv ∧ w'.cell? ⟨b2, 0, none⟩ = some (.int .i64 P) ∧ w'.cell? ⟨b3, 0, none⟩ = some (.slice (some ad2) gaps.length c2) ∧ w'.cell? (ad2.add (Int.tmod n P).toNat) = some (.int .i64 (rd gaps (Int.tmod n P)))) (ds := [21, 24]) #[false, false, false, false, false, false, false, false, false, false, false, false, false, false, false, false, false, false, false, false, false, false, false, false, false] (by kernel_rfl) rfl rfl ⟨(blk_cell KW8.out 4).trans rfl, (blk_cell KB28.out 0).trans rfl, (blk_cell KB38.out 0).trans rfl, cg⟩ (fun hHeld => ?_)
          refine pure_ (i := 0) (N := some 39) (v := ?_) (a' := ?_) #[true, false, false, false, false, false, false, false, false, false, false, false, false, false, false, false, false, false, false, false, false, false, false, false, false] rfl rfl (by kernel_rfl) (fun _ _ _ h => h) (Or.inl ⟨by rfl, ?_⟩) ?_ ?_
          rotate_left
          · intro w'
            go_simp
            with_reducible rfl
          rotate_left
          · simp only [Act.put, List.setIfInBounds_toArray, List.set_cons_zero, List.set_cons_succ, i64_w, i32_w]
            rfl
          refine pure_ (i := 1) (N := some 40) (v := ?_) (a' := ?_) #[true, true, false, false, false, false, false, false, false, false, false, false, false, false, false, false, false, false, false, false, false, false, false, false, false] rfl rfl (by kernel_rfl) (fun _ _ _ h => h) (Or.inl ⟨by rfl, ?_⟩) ?_ ?_
          rotate_left
          · intro w'
            go_simp
            with_reducible rfl
          rotate_left
          · simp only [Act.put, List.setIfInBounds_toArray, List.set_cons_zero, List.set_cons_succ, i64_w, i32_w]
            rfl
          refine pure_ (i := 2) (N := some 41) (v := ?_) (a' := ?_) #[true, true, true, false, false, false, false, false, false, false, false, false, false, false, false, false, false, false, false, false, false, false, false, false, false] rfl rfl (by kernel_rfl) (fun _ _ _ h => h) (Or.inl ⟨by rfl, ?_⟩) ?_ ?_
          rotate_left
          · intro w'
            go_simp
            with_reducible rfl
          rotate_left
          · simp only [Act.put, List.setIfInBounds_toArray, List.set_cons_zero, List.set_cons_succ, i64_w, i32_w]
            rfl
          refine pure_ (i := 3) (N := some 42) (v := ?_) (a' := ?_) #[true, true, true, true, false, false, false, false, false, false, false, false, false, false, false, false, false, false, false, false, false, false, false, false, false] rfl rfl (by kernel_rfl) (fun _ _ _ h => h) (Or.inl ⟨by rfl, ?_⟩) ?_ ?_
          rotate_left
          · intro w'
            go_simp
            with_reducible rfl
          rotate_left
          · simp only [Act.put, List.setIfInBounds_toArray, List.set_cons_zero, List.set_cons_succ, i64_w, i32_w]
            rfl
          refine pure_ (i := 6) (N := some 45) (v := ?_) (a' := ?_) #[true, true, true, true, false, false, true, false, false, false, false, false, false, false, false, false, false, false, false, false, false, false, false, false, false] rfl rfl (by kernel_rfl) (fun _ _ _ h => h) (Or.inl ⟨by rfl, ?_⟩) ?_ ?_
          rotate_left
          · intro w'
            go_simp
            with_reducible rfl
          rotate_left
          · simp only [Act.put, List.setIfInBounds_toArray, List.set_cons_zero, List.set_cons_succ, i64_w, i32_w]
            rfl
          refine pure_ (i := 7) (N := some 46) (v := ?_) (a' := ?_) #[true, true, true, true, false, false, true, true, false, false, false, false, false, false, false, false, false, false, false, false, false, false, false, false, false] rfl rfl (by kernel_rfl) (fun _ _ _ h => h) (Or.inl ⟨by rfl, ?_⟩) ?_ ?_
          rotate_left
          · intro w'
            go_simp
            with_reducible rfl
          rotate_left
          · simp only [Act.put, List.setIfInBounds_toArray, List.set_cons_zero, List.set_cons_succ, i64_w, i32_w]
            rfl
          refine pure_ (i := 11) (N := some 50) (v := ?_) (a' := ?_) #[true, true, true, true, false, false, true, true, false, false, false, true, false, false, false, false, false, false, false, false, false, false, false, false, false] rfl rfl (by kernel_rfl) (fun _ _ _ h => h) (Or.inl ⟨by rfl, ?_⟩) ?_ ?_
          rotate_left
          · intro w'
            go_simp
            with_reducible rfl
          rotate_left
          · simp only [Act.put, List.setIfInBounds_toArray, List.set_cons_zero, List.set_cons_succ, i64_w, i32_w]
            rfl
          refine pure_ (i := 14) (N := some 53) (v := ?_) (a' := ?_) #[true, true, true, true, false, false, true, true, false, false, false, true, false, false, true, false, false, false, false, false, false, false, false, false, false] rfl rfl (by kernel_rfl) (fun _ _ _ h => h) (Or.inl ⟨by rfl, ?_⟩) ?_ ?_
          rotate_left
          · intro w'
            go_simp
            with_reducible rfl
          rotate_left
          · simp only [Act.put, List.setIfInBounds_toArray, List.set_cons_zero, List.set_cons_succ, i64_w, i32_w]
            rfl
          refine pure_ (i := 16) (N := some 55) (v := ?_) (a' := ?_) #[true, true, true, true, false, false, true, true, false, false, false, true, false, false, true, false, true, false, false, false, false, false, false, false, false] rfl rfl (by kernel_rfl) (fun _ _ _ h => h) (Or.inl ⟨by rfl, ?_⟩) ?_ ?_
          rotate_left
          · intro w'
            go_simp
            with_reducible rfl
          rotate_left
          · simp only [Act.put, List.setIfInBounds_toArray, List.set_cons_zero, List.set_cons_succ, i64_w, i32_w]
            rfl
          refine take_ (i := 4) (N := some 43) (v := ?_) (a' := ?_) #[true, true, true, true, true, false, true, true, false, false, false, true, false, false, true, false, true, false, false, false, false, false, false, false, false] rfl rfl (by kernel_rfl) (fun _ _ _ h => h) (Or.inl ⟨by rfl, ?_⟩) hHeld ?_ ?_
          rotate_left
          · rintro w' ⟨s0, s1, s2, s3⟩
            go_simp
            with_reducible rfl
          rotate_left
          · simp only [Act.put, List.setIfInBounds_toArray, List.set_cons_zero, List.set_cons_succ, i64_w, i32_w]
            rfl
          refine take_ (i := 5) (N := some 44) (v := ?_) (a' := ?_) #[true, true, true, true, true, true, true, true, false, false, false, true, false, false, true, false, true, false, false, false, false, false, false, false, false] rfl rfl (by kernel_rfl) (fun _ _ _ h => h) (Or.inl ⟨by rfl, ?_⟩) hHeld ?_ ?_
          rotate_left
          · rintro w' ⟨s0, s1, s2, s3⟩
            go_simp
            with_reducible rfl
          rotate_left
          · simp only [Act.put, List.setIfInBounds_toArray, List.set_cons_zero, List.set_cons_succ, i64_w, i32_w]
            rfl
          refine take_ (i := 8) (N := some 47) (v := ?_) (a' := ?_) #[true, true, true, true, true, true, true, true, true, false, false, true, false, false, true, false, true, false, false, false, false, false, false, false, false] rfl rfl (by kernel_rfl) (fun _ _ _ h => h) (Or.inl ⟨by rfl, ?_⟩) hHeld ?_ ?_
          rotate_left
          · rintro w' ⟨s0, s1, s2, s3⟩
            go_simp
            with_reducible rfl
          rotate_left
          · simp only [Act.put, List.setIfInBounds_toArray, List.set_cons_zero, List.set_cons_succ, i64_w, i32_w]
            rfl
          refine pure_ (i := 9) (N := some 48) (v := ?_) (a' := ?_) #[true, true, true, true, true, true, true, true, true, true, false, true, false, false, true, false, true, false, false, false, false, false, false, false, false] rfl rfl (by kernel_rfl) (fun _ _ _ h => h) (Or.inl ⟨by rfl, ?_⟩) ?_ ?_
          rotate_left
          · intro w'
            go_simp
            with_reducible rfl
          rotate_left
          · simp only [Act.put, List.setIfInBounds_toArray, List.set_cons_zero, List.set_cons_succ, i64_w, i32_w]
            rfl
          refine take_ (i := 15) (N := some 54) (v := ?_) (a' := ?_) #[true, true, true, true, true, true, true, true, true, true, false, true, false, false, true, true, true, false, false, false, false, false, false, false, false] rfl rfl (by kernel_rfl) (fun _ _ _ h => h) (Or.inl ⟨by rfl, ?_⟩) hHeld ?_ ?_
          rotate_left
          · rintro w' ⟨s0, s1, s2, s3⟩
            go_simp
            with_reducible rfl
          rotate_left
          · simp only [Act.put, List.setIfInBounds_toArray, List.set_cons_zero, List.set_cons_succ, i64_w, i32_w]
            rfl
          refine pure_ (i := 17) (N := some 56) (v := ?_) (a' := ?_) #[true, true, true, true, true, true, true, true, true, true, false, true, false, false, true, true, true, true, false, false, false, false, false, false, false] rfl rfl (by kernel_rfl) (fun _ _ _ h => h) (Or.inl ⟨by rfl, ?_⟩) ?_ ?_
          rotate_left
          · intro w'
            go_simp
            with_reducible rfl
          rotate_left
          · simp only [Act.put, List.setIfInBounds_toArray, List.set_cons_zero, List.set_cons_succ, i64_w, i32_w]
            rfl
          refine take_ (i := 18) (N := some 57) (v := ?_) (a' := ?_) #[true, true, true, true, true, true, true, true, true, true, false, true, false, false, true, true, true, true, true, false, false, false, false, false, false] rfl rfl (by kernel_rfl) (fun _ _ _ h => h) (Or.inl ⟨by rfl, ?_⟩) hHeld ?_ ?_
          rotate_left
          · rintro w' ⟨s0, s1, s2, s3⟩
            go_simp
            with_reducible rfl
          rotate_left
          · simp only [Act.put, List.setIfInBounds_toArray, List.set_cons_zero, List.set_cons_succ, i64_w, i32_w]
            rfl
          refine one_ (i := 10) (N := some 49) #[true, true, true, true, true, true, true, true, true, true, true, true, false, false, true, true, true, true, true, false, false, false, false, false, false] rfl rfl (by kernel_rfl) (by decide) (fun K hK => ?_)
          refine goes_ Try.func129 (by kernel_rfl) rfl #[.agg #[.slice (some ad2) gaps.length c2], .int .i64 (wrap64 (Int.tdiv n P))] (by rfl) rfl rfl (by simp only [List.map_toArray, List.map_cons, List.map_nil]; rfl) ?_
          with_reducible refine (impl_Tasks_numbered.calls k1 (some ad2) c2 gaps (wrap64 (Int.tdiv n P)) st _ (Kd.C_drew (Kd.C_below HR.out HB8.out)) HC.out E2.out).mono ?_
          rintro e w9 ⟨vs, rfl, hm, hb⟩
          refine ⟨_, rfl, ?_⟩
          obtain ⟨As, cs, rfl, _, hcs⟩ := Kd.R_reads hm
          obtain ⟨ads, rfl, ce⟩ := Kd.at_int hcs (Int.tmod n P) p0 p1
          have HB9 := Aside0.mk (below_more HB8.out.drew hb)
          have KW9 := Aside0.mk (WBlk.below (WBlk.drew KW8.out) hb)
          have HN9 := Aside0.mk (Kd.R_below (Kd.R_drew HN8.out) hb)
          have HS9 := Aside0.mk (Kd.R_below (Kd.R_drew HS8.out) hb)
          have KB29 := Aside0.mk (blk_below (blk_drew KB28.out) hb)
          have KB39 := Aside0.mk (blk_below (blk_drew KB38.out) hb)
          clear hm hcs cg
          refine hK.out _ _ ⟨(blk_cell KW9.out 4).trans rfl, (blk_cell KB29.out 0).trans rfl, (blk_cell KB39.out 0).trans rfl, pw_cell_below hb hHeld.2.2.2⟩ (fun hHeld => ?_)
          clear hK K
          refine norm_ (a' := ?_) ?_ ?_
          rotate_left
          · show Act.put _ (some 49) _ = _
            simp only [Act.put, List.setIfInBounds_toArray, List.set_cons_zero, List.set_cons_succ, i64_w, i32_w]
            rfl
          refine pure_ (i := 12) (N := some 51) (v := ?_) (a' := ?_) #[true, true, true, true, true, true, true, true, true, true, true, true, true, false, true, true, true, true, true, false, false, false, false, false, false] rfl rfl (by kernel_rfl) (fun _ _ _ h => h) (Or.inl ⟨by rfl, ?_⟩) ?_ ?_
          rotate_left
          · intro w'
            go_simp
            with_reducible rfl
          rotate_left
          · simp only [Act.put, List.setIfInBounds_toArray, List.set_cons_zero, List.set_cons_succ, i64_w, i32_w]
            rfl
          refine one_ (i := 13) (N := some 52) #[true, true, true, true, true, true, true, true, true, true, true, true, true, true, true, true, true, true, true, false, false, false, false, false, false] rfl rfl (by kernel_rfl) (by decide) (fun K hK => ?_)
          refine value_ (w1 := ?_) (v := ?_) (by rfl) rfl ?_ ?_
          rotate_left 2
          · go_simp
            constructor
            · rfl
            · rfl
          refine hK.out _ _ ⟨hHeld.1, hHeld.2.1, hHeld.2.2.1, hHeld.2.2.2⟩ (fun hHeld => ?_)
          clear hK K
          refine norm_ (a' := ?_) ?_ ?_
          rotate_left
          · show Act.put _ (some 52) _ = _
            simp only [Act.put, List.setIfInBounds_toArray, List.set_cons_zero, List.set_cons_succ, i64_w, i32_w]
            rfl
          refine pure_ (i := 19) (N := some 58) (v := ?_) (a' := ?_) #[true, true, true, true, true, true, true, true, true, true, true, true, true, true, true, true, true, true, true, true, false, false, false, false, false] rfl rfl (by kernel_rfl) (fun _ _ _ h => h) (Or.inl ⟨by rfl, ?_⟩) ?_ ?_
          rotate_left
          · intro w'
            go_simp
            with_reducible rfl
          rotate_left
          · simp only [Act.put, List.setIfInBounds_toArray, List.set_cons_zero, List.set_cons_succ, i64_w, i32_w]
            rfl
          refine one_ (i := 20) (N := some 59) #[true, true, true, true, true, true, true, true, true, true, true, true, true, true, true, true, true, true, true, true, true, false, false, false, false] rfl rfl (by kernel_rfl) (by decide) (fun K hK => ?_)
          refine value_ (w1 := ?_) (v := ?_) (by rfl) rfl ?_ ?_
          rotate_left 2
          · go_simp
            constructor
            · rfl
            · rfl
          refine hK.out _ _ ⟨(blk_cell (blk_alloc KW9.out _) 4).trans rfl, (blk_cell (blk_alloc KB29.out _) 0).trans rfl, (blk_cell (blk_alloc KB39.out _) 0).trans rfl, pw_cell_below (below_alloc (Below.refl _ _) _) hHeld.2.2.2⟩ (fun hHeld => ?_)
          clear hK K
          refine norm_ (a' := ?_) ?_ ?_
          rotate_left
          · show Act.put _ (some 59) _ = _
            simp only [Act.put, List.setIfInBounds_toArray, List.set_cons_zero, List.set_cons_succ, i64_w, i32_w]
            rfl
          refine last_ (i := 21) (N := some 60) #[true, true, true, true, true, true, true, true, true, true, true, true, true, true, true, true, true, true, true, true, true, true, false, false, false] rfl rfl (by kernel_rfl) (by decide) (fun K hK => ?_)
          refine Kd.R_append_step Kd.bool (w0 := w) w.heap.size (by rfl) (.tmp 43) (.tmp 59) 73 4 (.bool false) 1 rfl Try.underlying73 infoBool rfl (by decide) (by omega) sv sf (rd st (Int.tmod n P) == rd gaps (Int.tmod n P)) [.bool (rd st (Int.tmod n P) == rd gaps (Int.tmod n P))] (fun _ => True) (fun _ => False) rfl rfl ?aP (fun _ h => h.elim) (fun _ _ => trivial) HS9.out HB9.out HB9.out.size ?aL ?_
          (case aP => exact rfl)
          (case aL => have := LS.out; omega)
          intro v10 w10 ho hb10 hg hat
          obtain ⟨A10, c10, hv10⟩ := Kd.R_slice ho
          generalize List.length (_ ++ [_] : List Bool) = n10 at hv10
          subst hv10
          have HS10 := Aside0.mk ho
          have HB10 := Aside0.mk hb10
          have KW10 : Aside0 (WBlk w10 gw P R (some ad2) c2 gaps nv8 sv) := ⟨blk_grown KW9.out hg (Kd.R_ne HS9.out KW9.out (by decide))⟩
          have KB210 := Aside0.mk (blk_grown KB29.out hg (Kd.R_ne HS9.out KB29.out (by decide)))
          have KB310 := Aside0.mk (blk_grown KB39.out hg (Kd.R_ne HS9.out KB39.out (by decide)))
          have HN10 := Aside0.mk (R_other HN9.out HS9.out (by decide) hg)
          clear ho hb10 hg hat
          have c4 : w10.cell? ⟨gw, 4, none⟩ = some sv := (blk_cell KW10.out 4).trans rfl
          have f4 : w10.frozen? ⟨gw, 4, none⟩ = false := blk_frozen KW10.out 4
          refine hK.out _ _ ?_
          clear hK K
          refine norm_ (a' := ?_) ?_ ?_
          rotate_left
          · show Act.put _ (some 60) _ = _
            simp only [Act.put, List.setIfInBounds_toArray, List.set_cons_zero, List.set_cons_succ, i64_w, i32_w]
            rfl
          refine pure_ (i := 22) (N := some 61) (v := ?_) (a' := ?_) #[true, true, true, true, true, true, true, true, true, true, true, true, true, true, true, true, true, true, true, true, true, true, true, false, false] rfl rfl (by kernel_rfl) (fun _ _ _ h => h) (Or.inl ⟨by rfl, ?_⟩) ?_ ?_
          rotate_left
          · intro w'
            go_simp
            with_reducible rfl
          rotate_left
          · simp only [Act.put, List.setIfInBounds_toArray, List.set_cons_zero, List.set_cons_succ, i64_w, i32_w]
            rfl
          refine pure_ (i := 23) (N := some 62) (v := ?_) (a' := ?_) #[true, true, true, true, true, true, true, true, true, true, true, true, true, true, true, true, true, true, true, true, true, true, true, true, false] rfl rfl (by kernel_rfl) (fun _ _ _ h => h) (Or.inl ⟨by rfl, ?_⟩) ?_ ?_
          rotate_left
          · intro w'
            go_simp
            with_reducible rfl
          rotate_left
          · simp only [Act.put, List.setIfInBounds_toArray, List.set_cons_zero, List.set_cons_succ, i64_w, i32_w]
            rfl
          refine last_ (i := 24) (N := none) #[true, true, true, true, true, true, true, true, true, true, true, true, true, true, true, true, true, true, true, true, true, true, true, true, true] rfl rfl (by kernel_rfl) (by decide) (fun K hK => ?_)
          refine skip_ (w1 := ?_) (by rfl) rfl ?_ ?_
          rotate_left
          · go_simp
            rfl
          refine hK.out _ _ ?_
          clear hK K
          refine done_ (by kernel_rfl) ?_
          obtain ⟨b, hbd⟩ : ∃ b, (rd st (Int.tmod n P) == rd gaps (Int.tmod n P)) = b := ⟨_, rfl⟩
          rw [hbd] at HA HS10 ⊢
          have KW11 : Aside0 (WBlk (w10.setCell ⟨gw, 4, none⟩ (.slice A10 n10 c10)) gw P R (some ad2) c2 gaps nv8 (.slice A10 n10 c10)) := ⟨WBlk.set4 KW10.out _⟩
          have HN11 := Aside0.mk (R_past HN10.out KW10.out (by decide) (p := ⟨gw, 4, none⟩) rfl (.slice A10 n10 c10))
          have HS11 := Aside0.mk (R_past HS10.out KW10.out (by decide) (p := ⟨gw, 4, none⟩) rfl (.slice A10 n10 c10))
          have KB211 := Aside0.mk (blk_far KB210.out (p := ⟨gw, 4, none⟩) NB2 (.slice A10 n10 c10))
          have KB311 := Aside0.mk (blk_far KB310.out (p := ⟨gw, 4, none⟩) NB3 (.slice A10 n10 c10))
          have HB11 := Aside0.mk (HB10.out.setCell (p := ⟨gw, 4, none⟩) HG.out (.slice A10 n10 c10))
          clear c4 f4 hHeld ce
          go_wp2
          go_roundg k1
          case measure => have := HQ.out; omega
          case rel => exact ⟨wrap64 (n + 1), _, _, _, _, (by first | rfl | (simp; done)), HA, ⟨by have := HQ.out; omega⟩, HN11, HS11, KW11, KB211, KB311, HB11⟩
        · cases hs
      · rw [if_neg hlt] at hs
        have hltb : decide (n < wrap64 (s * P)) = false := decide_eq_false hlt
        obtain ⟨rfl, rfl⟩ : nx = next ∧ sf = safe := by simpa using hs
        clear hs hlt
        go_wp2
        obtain ⟨A3, c3, rfl⟩ := Kd.R_slice HN.out
        obtain ⟨A4, c4, rfl⟩ := Kd.R_slice HS.out
        obtain ⟨N, hN⟩ : ∃ N, sf.length = N := ⟨_, rfl⟩
        rw [hN] at HS KW
        obtain ⟨next, rfl⟩ : ∃ next, next = nx := ⟨_, rfl⟩
        obtain ⟨w1, rfl⟩ : ∃ w1, w1 = wr := ⟨_, rfl⟩
        clear KB2 KB3 HQ
        go_loopg [8] k (fun kq v8 wr => ∃ (sf : List Bool) (ch : Bool), v8 = .bool ch ∧ Aside0 (impl_watchOf.l1 kq P R gaps next sf ch = some r) ∧ Aside0 (kq ≤ k) ∧ Aside0 (Kd.R (Kd.slice 2 (Kd.int .i64)) 22 wr w.heap.size (fun _ => True) (.slice A3 next.length c3) next) ∧ Aside0 (Kd.R Kd.bool 4 wr w.heap.size (fun _ => True) (.slice A4 N c4) sf) ∧ Aside0 (WBlk wr gw P R A2 c2 gaps (.slice A3 next.length c3) (.slice A4 N c4)) ∧ Aside0 (Below w.heap.size w wr))
        case atStart => exact ⟨sf, true, rfl, HL, ⟨Nat.le_refl _⟩, HN, HS, KW, HB⟩
        case round =>
          clear HL HN HS KW HB hN
          obtain ⟨sf, ch, rfl, HL, HQ, HN, HS, KW, HB⟩ := hrel
          cases gk with
          | zero => exact absurd HL.out (by simp [impl_watchOf.l1])
          | succ k2 =>
            have hs := HL.out
            rw [impl_watchOf.l1] at hs
            clear HL
            obtain ⟨rfl, _, hcs⟩ := Kd.R_reads' HS.out
            cases ch with
            | false =>
              rw [if_neg (by decide)] at hs
              obtain rfl := Option.some.inj hs
              clear hs
              go_wp2
              go_ret
              exact WOut.mk' ⟨gw, _, A4, c4, rfl, KW.out, hcs, HB.out⟩
            | true =>
              rw [if_pos rfl] at hs
              obtain ⟨⟨sf2, ch2⟩, e3, hs⟩ := Option.bind_eq_some_iff.mp hs
              have HA2 := Aside0.mk e3
              have HL := Aside0.mk (show impl_watchOf.l1 k2 P R gaps next sf2 ch2 = some r from hs)
              have c44 : wr.cell? ⟨gw, 4, none⟩ = some (.slice A4 sf.length c4) := (blk_cell KW.out 4).trans rfl
              clear e3 hs hcs
              go_wp2
              clear c44
              obtain ⟨N, hN⟩ : ∃ N, sf.length = N := ⟨_, rfl⟩
              rw [hN] at HS KW HA2 ⊢
              have HNN := Aside0.mk hN
              obtain ⟨w2, rfl⟩ : ∃ w2, w2 = wr := ⟨_, rfl⟩
              go_loopg [8, 70] k2 (fun kq v8 v70 wr => ∃ (n : Int) (sf : List Bool) (ch : Bool), v8 = .bool ch ∧ v70 = .int .i64 n ∧ Aside0 (impl_watchOf.l2 kq P R gaps next N n sf ch = some (sf2, ch2)) ∧ Aside0 (kq ≤ k2) ∧ Aside0 (Kd.R (Kd.slice 2 (Kd.int .i64)) 22 wr w.heap.size (fun _ => True) (.slice A3 next.length c3) next) ∧ Aside0 (Kd.R Kd.bool 4 wr w.heap.size (fun _ => True) (.slice A4 N c4) sf) ∧ Aside0 (WBlk wr gw P R A2 c2 gaps (.slice A3 next.length c3) (.slice A4 N c4)) ∧ Aside0 (Below w.heap.size w wr))
              case atStart => exact ⟨0, sf, false, rfl, rfl, HA2, ⟨Nat.le_refl _⟩, HN, HS, KW, HB⟩
              case round =>
                clear HA2 HN HS KW HB hN
                obtain ⟨n, sf, ch, rfl, rfl, HA2, HQ2, HN, HS, KW, HB⟩ := hrel
                cases gk with
                | zero => exact absurd HA2.out (by simp [impl_watchOf.l2])
                | succ k3 =>
                  have hs := HA2.out
                  rw [impl_watchOf.l2] at hs
                  clear HA2
                  obtain ⟨rfl, _, hcs⟩ := Kd.R_reads' HS.out
                  by_cases hlt : n < (sf.length : Int)
                  · rw [if_pos hlt] at hs
                    by_cases h0 : 0 ≤ n
                    · rw [if_pos h0] at hs
                      have hltd : decide (n < (sf.length : Int)) = true := decide_eq_true hlt
                      obtain ⟨gs, cap, hv, hge, _, cells, hcells⟩ := Kd.R_form HS.out (by omega)
                      obtain ⟨rfl, rfl⟩ : A4 = some ⟨gs, 0, none⟩ ∧ c4 = cap := by injection hv with h1 h2 h3; exact ⟨h1, h3⟩
                      have GE := Aside0.mk hge
                      have CE := Aside0.mk hcells
                      have HCS := Aside0.mk hcs
                      obtain ⟨cx, fx⟩ := Kd.R_celln false HS.out n h0 hlt
                      clear hv hge hcells hcs fx
                      cases hsf : rdOf false sf n with
                      | false =>
                        rw [if_neg (by rw [hsf]; decide)] at hs
                        rw [hsf] at cx
                        have HA2 := Aside0.mk hs
                        clear hs hsf
                        go_wp2
                        go_roundg k3
                        case measure => have := HQ2.out; omega
                        case rel => exact ⟨wrap64 (n + 1), sf, ch, rfl, (by first | rfl | (simp; done)), HA2, ⟨by have := HQ2.out; omega⟩, HN, HS, KW, HB⟩
                      | true =>
                        rw [if_pos hsf] at hs
                        rw [hsf] at cx
                        obtain ⟨mv, e4, hs⟩ := Option.bind_eq_some_iff.mp hs
                        have E4 := Aside0.mk e4
                        obtain ⟨_, _, hcn⟩ := Kd.R_reads' HN.out
                        have HCN := Aside0.mk hcn
                        clear e4 hsf hcn
                        by_cases hmv : mv < 0
                        · rw [if_pos hmv] at hs
                          have HA2 := Aside0.mk hs
                          have hmd : decide (mv < 0) = true := decide_eq_true hmv
                          clear hs hmv
                          go_wp2_with (first | (go_at_call 130; refine (watchMv.calls gw P R A2 c2 gaps A3 c3 next (some ⟨gs, 0, none⟩) c4 sf n mv _ KW.out HCN.out HCS.out E4.out).mono ?_; rintro e w5 ⟨rfl, hb⟩; have HN5 := Aside0.mk (Kd.R_below HN.out hb); have HS5 := Aside0.mk (Kd.R_below HS.out hb); have KW5 := Aside0.mk (WBlk.below KW.out hb); have HB5 := Aside0.mk (below_more HB.out hb); have CE5 := Aside0.mk (blk_below CE.out hb); clear hb cx; obtain ⟨cx, fx⟩ := Kd.R_celln false HS5.out n h0 hlt; have c44 : w5.cell? ⟨gw, 4, none⟩ = some (.slice (some ⟨gs, 0, none⟩) sf.length c4) := (blk_cell KW5.out 4).trans rfl))
                          have NE : gw ≠ gs := by rintro rfl; have h1 := CE5.out; have h2 := KW5.out; unfold WBlk at h2; rw [h1] at h2; cases h2
                          have HS6 := Aside0.mk (Kd.R_putn HS5.out n false)
                          have HN6 := Aside0.mk (R_past HN5.out CE5.out (by decide) (p := ⟨gs, n.toNat, none⟩) rfl (.bool false))
                          have KW6 : Aside0 (WBlk (w5.setCell ⟨gs, n.toNat, none⟩ (.bool false)) gw P R A2 c2 gaps (.slice A3 next.length c3) (.slice (some ⟨gs, 0, none⟩) sf.length c4)) := ⟨blk_far KW5.out (p := ⟨gs, n.toNat, none⟩) NE (.bool false)⟩
                          have HB6 := Aside0.mk (HB5.out.setCell (p := ⟨gs, n.toNat, none⟩) GE.out (.bool false))
                          go_roundg k3
                          case measure => have := HQ2.out; omega
                          case rel => exact ⟨wrap64 (n + 1), _, true, rfl, (by first | rfl | (simp; done)), HA2, ⟨by have := HQ2.out; omega⟩, HN6, HS6, KW6, HB6⟩
                        · rw [if_neg hmv] at hs
                          have HA2 := Aside0.mk hs
                          have hmd : decide (mv < 0) = false := decide_eq_false hmv
                          clear hs hmv
                          go_wp2_with (first | (go_at_call 130; refine (watchMv.calls gw P R A2 c2 gaps A3 c3 next (some ⟨gs, 0, none⟩) c4 sf n mv _ KW.out HCN.out HCS.out E4.out).mono ?_; rintro e w5 ⟨rfl, hb⟩; have HN5 := Aside0.mk (Kd.R_below HN.out hb); have HS5 := Aside0.mk (Kd.R_below HS.out hb); have KW5 := Aside0.mk (WBlk.below KW.out hb); have HB5 := Aside0.mk (below_more HB.out hb); clear hb cx))
                          go_roundg k3
                          case measure => have := HQ2.out; omega
                          case rel => exact ⟨wrap64 (n + 1), sf, ch, rfl, (by first | rfl | (simp; done)), HA2, ⟨by have := HQ2.out; omega⟩, HN5, HS5, KW5, HB5⟩
                    · rw [if_neg h0] at hs; cases hs
                  · rw [if_neg hlt] at hs
                    have hltd : decide (n < (sf.length : Int)) = false := decide_eq_false hlt
                    obtain ⟨rfl, rfl⟩ : sf = sf2 ∧ ch = ch2 := by simpa using hs
                    clear hs hlt hcs
                    go_wp2
                    go_roundg k2
                    case measure => have := HQ.out; omega
                    case rel => exact ⟨sf, ch, rfl, HL, ⟨by have := HQ.out; omega⟩, HN, ⟨by rw [HNN.out]; exact HS.out⟩, ⟨by rw [HNN.out]; exact KW.out⟩, HB⟩
end Go.Proofs.Ytoakdilhljnjfaa.Q
/- Plain laws of watchers' states: one sweep, in the program's functions and in the reference's. -/
namespace Go.Proofs.Ytoakdilhljnjfaa.Pure
open Go.RowKit Go.Proofs.Ytoakdilhljnjfaa.Q Go.Proofs.YtoakdilhljnjfaaW.PrintWords Go.Proofs.YtoakdilhljnjfaaW.PrintLast Go.Proofs.YtoakdilhljnjfaaW.PrintMore
set_option linter.unusedVariables false
set_option linter.unusedSimpArgs false

theorem l3_true {P R : Int} {gaps left : List Int} (at_ : Int) (S : List Bool) (ch : Bool) (n len nn : Int) (res : List Bool) (j : Int)
    (hE : ∀ jj, Ev (fun k => spec_l09Safe.j4 k S ch n left at_ true jj len nn false P R gaps) res) : Ev (fun k => spec_l09Safe.l3 k S ch n left at_ true j len nn P R gaps) res := by
  refine Ev.step (fun k => by rw [spec_l09Safe.l3]) ?_
  by_cases hj : j < P
  · exact Ev.pos hj (hE j)
  · exact Ev.neg hj (hE j)
theorem l3_ev {P R : Int} {gaps left : List Int} (h : WOk P gaps) (hs : OkS gaps left) {at_ : Int} (hat : 0 ≤ at_ ∧ at_ < P) (S : List Bool) (hS : (S.length : Int) = prodG gaps * P) (ch : Bool) (n len nn : Int) (res : List Bool) : ∀ (d j : Nat), ((j + d : Nat) : Int) = P →
    (∀ jj, Ev (fun k => spec_l09Safe.j4 k S ch n left at_ ((movesFrom P R gaps at_ left d j).any (fun m => rdOf false S m)) jj len nn false P R gaps) res) → Ev (fun k => spec_l09Safe.l3 k S ch n left at_ false (j : Int) len nn P R gaps) res := by
  have hP := h.hp
  have h6 := h.h6
  intro d
  induction d with
  | zero =>
    intro j hj hE
    refine Ev.step (fun k => by rw [spec_l09Safe.l3]) ?_
    exact Ev.neg (by omega) (hE j)
  | succ d ih =>
    intro j hj hE
    have hw : wrap64 ((j : Int) + 1) = ((j + 1 : Nat) : Int) := by rw [wrap64_id (by omega) (by omega)]; omega
    have hjp : (j : Int) < P := by omega
    refine Ev.step (fun k => by rw [spec_l09Safe.l3]) ?_
    refine Ev.pos hjp ?_
    refine Ev.step (fun k => by rw [spec_l09Safe.j4]) ?_
    refine Ev.pos rfl (Ev.bindc (near_spec P R at_ j (by omega) (by omega)) ?_)
    rw [hw]
    rw [movesFrom] at hE
    unfold movAt at hE
    cases hn : nearB P R at_ (j : Int) with
    | false =>
      refine Ev.neg (by decide) (ih (j + 1) (by omega) ?_)
      cases hst : stepFrom (j : Int) 0 gaps left with
      | none => simpa [hst, hn] using hE
      | some r => simpa [hst, hn] using hE
    | true =>
      refine Ev.pos rfl (Ev.bind (move_ev h hs (j : Int) (by omega)) ?_)
      cases hst : stepFrom (j : Int) 0 gaps left with
      | none =>
        rw [movRes]
        refine Ev.neg (by decide) (ih (j + 1) (by omega) ?_)
        simpa [hst, hn] using hE
      | some r =>
        rw [movRes, List.nil_append]
        obtain ⟨b1, b2, b3, b4⟩ := num_bound h (stepFrom_ok h.hg hs hst) (j := (j : Int)) (by omega)
        refine Ev.pos b3 (Ev.pos b3 (Ev.pos (by omega) ?_))
        cases hsm : rdOf false S (numFrom 0 gaps r * P + j) with
        | true => exact l3_true _ _ _ _ _ _ _ _ (by simpa [hst, hn, hsm] using hE)
        | false => exact ih (j + 1) (by omega) (by simpa [hst, hn, hsm] using hE)
end Go.Proofs.Ytoakdilhljnjfaa.Pure
/- Plain laws of watchers' states: the safe states, in the program's function and in the reference's. -/
namespace Go.Proofs.Ytoakdilhljnjfaa.Pure
open Go.RowKit Go.Proofs.Ytoakdilhljnjfaa.Q Go.Proofs.YtoakdilhljnjfaaW.PrintWords Go.Proofs.YtoakdilhljnjfaaW.PrintLast Go.Proofs.YtoakdilhljnjfaaW.PrintMore
set_option linter.unusedVariables false
set_option linter.unusedSimpArgs false


open Classical in
noncomputable def stN (gaps : List Int) (n : Int) : List Int := if h : ∃ st, Ev (fun k => impl_Tasks_numbered.f k gaps n) st ∧ OkS gaps st then h.choose else []
open Classical in
theorem stN_ev (gaps : List Int) (hg : OkG gaps) (hl : gaps.length ≤ 1000) (n : Int) (hn : 0 ≤ n) (hn' : n ≤ 9223372036854775807) : Ev (fun k => impl_Tasks_numbered.f k gaps n) (stN gaps n) ∧ OkS gaps (stN gaps n) := by
  have h := numbered_ev gaps hg hl n hn hn'
  unfold stN
  rw [dif_pos h]
  exact h.choose_spec
noncomputable def nextN (P R : Int) (gaps : List Int) (n : Int) : List Int := movesFrom P R gaps (Int.tmod n P) (stN gaps (Int.tdiv n P)) P.toNat 0
noncomputable def wholeN (P : Int) (gaps : List Int) (n : Int) : Bool := rd (stN gaps (Int.tdiv n P)) (Int.tmod n P) == rd gaps (Int.tmod n P)
noncomputable def goodN (P R : Int) (gaps : List Int) (S : List Bool) (n : Int) : Bool := (nextN P R gaps n).any (fun m => rdOf false S m)

theorem tdiv_facts {P n : Int} {gaps : List Int} (h : WOk P gaps) (hn : 0 ≤ n) (hn' : n < prodG gaps * P) : 0 ≤ Int.tdiv n P ∧ Int.tdiv n P ≤ n ∧ 0 ≤ Int.tmod n P ∧ Int.tmod n P < P := by
  have h1 := h.h1
  have hp := h.hp
  have hP : 0 < P := by omega
  exact ⟨Int.tdiv_nonneg hn (by omega), by rw [Int.tdiv_eq_ediv_of_nonneg hn]; exact Int.ediv_le_self _ hn, Int.tmod_nonneg _ hn, Int.tmod_lt_of_pos _ hP⟩
theorem next_bound {P R n : Int} {gaps : List Int} (h : WOk P gaps) (hn : 0 ≤ n) (hn' : n < prodG gaps * P) : ∀ m ∈ nextN P R gaps n, 0 ≤ m ∧ m < prodG gaps * P := by
  obtain ⟨a, b, _, _⟩ := tdiv_facts h hn hn'
  have hm := h.hm
  have h6 := h.h6
  have hp := h.hp
  exact movesFrom_bound h (stN_ev gaps h.hg (by omega) _ a (by omega)).2 P.toNat 0 (by omega)
theorem moves_ev {P R n : Int} {gaps : List Int} (h : WOk P gaps) (hn : 0 ≤ n) (hn' : n < prodG gaps * P) : Ev (fun k => impl_watch_moves.f k P R gaps n) (nextN P R gaps n) := by
  obtain ⟨a, b, c, d⟩ := tdiv_facts h hn hn'
  have hm := h.hm
  have h6 := h.h6
  have hp := h.hp
  obtain ⟨e1, e2⟩ := stN_ev gaps h.hg (by omega) _ a (by omega)
  unfold impl_watch_moves.f
  rw [wrap64_id (x := Int.tdiv n P) (by omega) (by omega)]
  refine Ev.neg (by omega) (Ev.bind e1 ?_)
  have := moves_l (R := R) h e2 ⟨c, d⟩ P.toNat 0 [] (by omega) (by simp)
  simpa [nextN] using this

/-- The first lists: all moves, and which states stand where their place is served. -/
theorem of_l0 {P R : Int} {gaps : List Int} (h : WOk P gaps) (d : Nat) : ∀ (q : Nat), ((q + d : Nat) : Int) = prodG gaps * P → Ev (fun k => impl_watchOf.l0 k P R gaps (prodG gaps * P) (q : Int) ((List.range q).map fun i => nextN P R gaps (i : Nat)) ((List.range q).map fun i => wholeN P gaps (i : Nat)))
    ((List.range (q + d)).map (fun i => nextN P R gaps (i : Nat)), (List.range (q + d)).map fun i => wholeN P gaps (i : Nat)) := by
  have hm := h.hm
  have h6 := h.h6
  have hp := h.hp
  induction d with
  | zero =>
    intro q hq
    refine Ev.step (fun k => by rw [impl_watchOf.l0]) ?_
    exact Ev.neg (by omega) (Ev.now _)
  | succ d ih =>
    intro q hq
    have hn : (0 : Int) ≤ (q : Int) := Int.natCast_nonneg _
    have hn' : (q : Int) < prodG gaps * P := by omega
    obtain ⟨a, b, c, e⟩ := tdiv_facts h hn hn'
    obtain ⟨e1, e2⟩ := stN_ev gaps h.hg (by omega) _ a (by omega)
    have hw : wrap64 ((q : Int) + 1) = ((q + 1 : Nat) : Int) := by rw [wrap64_id (by omega) (by omega)]; omega
    refine Ev.step (fun k => by rw [impl_watchOf.l0]) ?_
    rw [wrap64_id (x := Int.tdiv (q : Int) P) (by omega) (by omega), hw]
    refine Ev.pos hn' (Ev.bind (moves_ev h hn hn') (Ev.bind e1 ?_))
    refine Ev.pos ⟨⟨c, by rw [e2.length]; omega, by omega⟩, by simp; omega, by simp; omega⟩ ?_
    have := ih (q + 1) (by omega)
    rw [List.range_succ, List.map_append, List.map_append] at this
    rw [show q + (d + 1) = q + 1 + d by omega]
    simpa [wholeN] using this
end Go.Proofs.Ytoakdilhljnjfaa.Pure
/- Plain laws of watchers' states: the sweeps. -/
namespace Go.Proofs.Ytoakdilhljnjfaa.Pure
open Go.RowKit Go.Proofs.Ytoakdilhljnjfaa.Q Go.Proofs.YtoakdilhljnjfaaW.PrintWords Go.Proofs.YtoakdilhljnjfaaW.PrintLast Go.Proofs.YtoakdilhljnjfaaW.PrintMore
set_option linter.unusedVariables false
set_option linter.unusedSimpArgs false

noncomputable def sweepN (P R : Int) (gaps : List Int) : Nat → Nat → List Bool → Bool → List Bool × Bool
  | 0, _, S, ch => (S, ch)
  | d + 1, n, S, ch => if rdOf false S (n : Int) = true then (if goodN P R gaps S (n : Int) = true then sweepN P R gaps d (n + 1) S ch else sweepN P R gaps d (n + 1) (S.set n false) true) else sweepN P R gaps d (n + 1) S ch
theorem sweepN_facts (P R : Int) (gaps : List Int) : ∀ (d n : Nat) (S : List Bool) (ch : Bool), (sweepN P R gaps d n S ch).1.length = S.length ∧ (sweepN P R gaps d n S ch).1.countP id ≤ S.countP id ∧ ((sweepN P R gaps d n S ch).2 = true → ch = true ∨ (sweepN P R gaps d n S ch).1.countP id < S.countP id)
  | 0, n, S, ch => ⟨rfl, Nat.le_refl _, fun h => .inl h⟩
  | d + 1, n, S, ch => by
    rw [sweepN]
    split
    · rename_i hs
      split
      · exact sweepN_facts P R gaps d (n + 1) S ch
      · have hn : n < S.length := by
          rcases Nat.lt_or_ge n S.length with h | h
          · exact h
          · rw [rdOf, Int.toNat_natCast, List.getD_eq_getElem?_getD, List.getElem?_eq_none h] at hs; cases hs
        have hsn : S[n] = true := by rw [rdOf, Int.toNat_natCast, List.getD_eq_getElem?_getD, List.getElem?_eq_getElem hn] at hs; simpa using hs
        have hc : (S.set n false).countP id < S.countP id := by
          rw [List.countP_set hn]
          have : 0 < S.countP id := List.countP_pos_iff.2 ⟨S[n], List.getElem_mem hn, by simpa using hsn⟩
          simp [hsn]; omega
        obtain ⟨h1, h2, h3⟩ := sweepN_facts P R gaps d (n + 1) (S.set n false) true
        exact ⟨by simpa using h1, by omega, fun _ => .inr (by omega)⟩
    · exact sweepN_facts P R gaps d (n + 1) S ch

theorem rd_next {P R : Int} {gaps : List Int} (N n : Nat) (h : n < N) : rd_L2 ((List.range N).map fun i => nextN P R gaps (i : Nat)) (n : Int) = nextN P R gaps (n : Int) := by
  simp [rd_L2, h]
theorem of_l2 {P R : Int} {gaps : List Int} (h : WOk P gaps) (N : Nat) (hN : (N : Int) = prodG gaps * P) : ∀ (d n : Nat) (S : List Bool) (ch : Bool), n + d = N → S.length = N → Ev (fun k => impl_watchOf.l2 k P R gaps ((List.range N).map fun i => nextN P R gaps (i : Nat)) (N : Int) (n : Int) S ch) (sweepN P R gaps d n S ch) := by
  have hm := h.hm
  intro d
  induction d with
  | zero =>
    intro n S ch hn hS
    refine Ev.step (fun k => by rw [impl_watchOf.l2]) ?_
    exact Ev.neg (by omega) (Ev.now _)
  | succ d ih =>
    intro n S ch hn hS
    have hw : wrap64 ((n : Int) + 1) = ((n + 1 : Nat) : Int) := by rw [wrap64_id (by omega) (by omega)]; omega
    refine Ev.step (fun k => by rw [impl_watchOf.l2]) ?_
    rw [hw]
    refine Ev.pos (by omega) (Ev.pos (by omega) ?_)
    rw [sweepN]
    by_cases hs : rdOf false S (n : Int) = true
    · rw [if_pos hs]
      obtain ⟨r, hr, hr'⟩ := mvRow_ev S (nextN P R gaps (n : Int)) (fun m hm => by rw [hS, hN]; exact next_bound h (by omega) (by omega) m hm)
      have hmv : watchMv ((List.range N).map fun i => nextN P R gaps (i : Nat)) S (n : Int) = some r := by
        unfold watchMv
        rw [if_pos ⟨by omega, by simp; omega⟩, rd_next N n (by omega), hr]
      refine Ev.pos hs (Ev.bindc hmv ?_)
      by_cases hg : goodN P R gaps S (n : Int) = true
      · rw [if_pos hg]
        refine Ev.neg (fun hlt => ?_) (ih (n + 1) S ch (by omega) hS)
        have := hr'.1 hlt
        unfold goodN at hg
        rw [hg] at this
        cases this
      · rw [if_neg hg]
        refine Ev.pos (hr'.2 (by unfold goodN at hg; simpa using hg)) ?_
        simpa using ih (n + 1) (S.set n false) true (by omega) (by simpa using hS)
    · rw [if_neg hs]
      exact Ev.neg hs (ih (n + 1) S ch (by omega) hS)
end Go.Proofs.Ytoakdilhljnjfaa.Pure
/- Plain laws of watchers' states: the safe states are alike. -/
namespace Go.Proofs.Ytoakdilhljnjfaa.Pure
open Go.RowKit Go.Proofs.Ytoakdilhljnjfaa.Q Go.Proofs.YtoakdilhljnjfaaW.PrintWords Go.Proofs.YtoakdilhljnjfaaW.PrintLast Go.Proofs.YtoakdilhljnjfaaW.PrintMore
set_option linter.unusedVariables false
set_option linter.unusedSimpArgs false

theorem spec_l2 {P R : Int} {gaps : List Int} (h : WOk P gaps) (N : Nat) (hN : (N : Int) = prodG gaps * P) (res : List Bool) : ∀ (d n : Nat) (S : List Bool) (ch : Bool), n + d = N → S.length = N → Ev (fun k => spec_l09Safe.l1 k (sweepN P R gaps d n S ch).1 (sweepN P R gaps d n S ch).2 P R gaps) res →
    Ev (fun k => spec_l09Safe.l2 k S ch (N : Int) (n : Int) P R gaps) res := by
  have hm := h.hm
  have hp := h.hp
  have h1 := h.h1
  have h6 := h.h6
  intro d
  induction d with
  | zero =>
    intro n S ch hn hS hE
    refine Ev.step (fun k => by rw [spec_l09Safe.l2]) ?_
    exact Ev.neg (by omega) hE
  | succ d ih =>
    intro n S ch hn hS hE
    have hw : wrap64 ((n : Int) + 1) = ((n + 1 : Nat) : Int) := by rw [wrap64_id (by omega) (by omega)]; omega
    have hn0 : (0 : Int) ≤ (n : Int) := Int.natCast_nonneg _
    have hn' : (n : Int) < prodG gaps * P := by omega
    obtain ⟨a, b, c, e⟩ := tdiv_facts h hn0 hn'
    obtain ⟨e1, e2⟩ := stN_ev gaps h.hg (by omega) _ a (by omega)
    rw [sweepN] at hE
    refine Ev.step (fun k => by rw [spec_l09Safe.l2]) ?_
    rw [hw]
    refine Ev.pos (by omega) (Ev.pos hn0 (Ev.pos (by omega) ?_))
    by_cases hs : rdOf false S (n : Int) = true
    · rw [if_pos hs] at hE
      have hst := state_ev h1 h6 (n : Int) hn0 (by omega) (by rw [← hp]; exact e1)
      rw [← hp] at hst
      refine Ev.pos hs (Ev.bind hst ?_)
      refine l3_ev h e2 ⟨c, e⟩ S (by rw [hS, hN]) ch _ _ _ res P.toNat 0 (by omega) (fun jj => ?_)
      show Ev (fun k => spec_l09Safe.j4 k S ch _ _ _ (goodN P R gaps S (n : Int)) jj _ _ false P R gaps) res
      refine Ev.step (fun k => by rw [spec_l09Safe.j4]) ?_
      refine Ev.neg (by decide) ?_
      rw [hw]
      by_cases hg : goodN P R gaps S (n : Int) = true
      · rw [if_pos hg] at hE
        exact Ev.pos hg (ih (n + 1) S ch (by omega) hS hE)
      · rw [if_neg hg] at hE
        refine Ev.neg hg (Ev.pos hn0 (Ev.pos (by omega) ?_))
        rw [Int.toNat_natCast]
        exact ih (n + 1) (S.set n false) true (by omega) (by simpa using hS) hE
    · rw [if_neg hs] at hE
      exact Ev.neg hs (ih (n + 1) S ch (by omega) hS hE)

theorem both_l1 {P R : Int} {gaps : List Int} (h : WOk P gaps) (N : Nat) (hN : (N : Int) = prodG gaps * P) : ∀ (c : Nat) (S : List Bool), S.length = N → S.countP id ≤ c → ∃ r : List Bool, r.length = N ∧ Ev (fun k => impl_watchOf.l1 k P R gaps ((List.range N).map fun i => nextN P R gaps (i : Nat)) S true) r ∧ Ev (fun k => spec_l09Safe.l1 k S true P R gaps) r := by
  intro c
  induction c with
  | zero =>
    intro S hS hc
    obtain ⟨f1, f2, f3⟩ := sweepN_facts P R gaps N 0 S false
    have hch : (sweepN P R gaps N 0 S false).2 = false := by
      cases hb : (sweepN P R gaps N 0 S false).2 with
      | false => rfl
      | true => rcases f3 hb with h | h; cases h; omega
    refine ⟨(sweepN P R gaps N 0 S false).1, by omega, ?_, ?_⟩
    · refine Ev.step (fun k => by rw [impl_watchOf.l1]) ?_
      refine Ev.pos rfl (Ev.bind (by rw [hS]; exact of_l2 h N hN N 0 S false (by omega) hS) ?_)
      rw [hch]
      refine Ev.step (fun k => by rw [impl_watchOf.l1]) ?_
      exact Ev.neg (by decide) (Ev.now _)
    · refine Ev.step (fun k => by rw [spec_l09Safe.l1]) ?_
      refine Ev.pos rfl ?_
      rw [hS]
      refine spec_l2 h N hN _ N 0 S false (by omega) hS ?_
      rw [hch]
      refine Ev.step (fun k => by rw [spec_l09Safe.l1]) ?_
      exact Ev.neg (by decide) (Ev.now _)
  | succ c ih =>
    intro S hS hc
    obtain ⟨f1, f2, f3⟩ := sweepN_facts P R gaps N 0 S false
    cases hb : (sweepN P R gaps N 0 S false).2 with
    | false =>
      refine ⟨(sweepN P R gaps N 0 S false).1, by omega, ?_, ?_⟩
      · refine Ev.step (fun k => by rw [impl_watchOf.l1]) ?_
        refine Ev.pos rfl (Ev.bind (by rw [hS]; exact of_l2 h N hN N 0 S false (by omega) hS) ?_)
        rw [hb]
        refine Ev.step (fun k => by rw [impl_watchOf.l1]) ?_
        exact Ev.neg (by decide) (Ev.now _)
      · refine Ev.step (fun k => by rw [spec_l09Safe.l1]) ?_
        refine Ev.pos rfl ?_
        rw [hS]
        refine spec_l2 h N hN _ N 0 S false (by omega) hS ?_
        rw [hb]
        refine Ev.step (fun k => by rw [spec_l09Safe.l1]) ?_
        exact Ev.neg (by decide) (Ev.now _)
    | true =>
      have hlt : (sweepN P R gaps N 0 S false).1.countP id < S.countP id := by rcases f3 hb with h | h; cases h; exact h
      obtain ⟨r, r0, r1, r2⟩ := ih (sweepN P R gaps N 0 S false).1 (by omega) (by omega)
      refine ⟨r, r0, ?_, ?_⟩
      · refine Ev.step (fun k => by rw [impl_watchOf.l1]) ?_
        refine Ev.pos rfl (Ev.bind (by rw [hS]; exact of_l2 h N hN N 0 S false (by omega) hS) ?_)
        rw [hb]
        exact r1
      · refine Ev.step (fun k => by rw [spec_l09Safe.l1]) ?_
        refine Ev.pos rfl ?_
        rw [hS]
        refine spec_l2 h N hN _ N 0 S false (by omega) hS ?_
        rw [hb]
        exact r2
end Go.Proofs.Ytoakdilhljnjfaa.Pure
-- written by wip/tools/printx.py (this session's) out of the translation; Lean checks it
namespace Go.Proofs.Ytoakdilhljnjfaa.Q
open Go.RowKit Go.Proofs.YtoakdilhljnjfaaW.PrintWords Go.Proofs.YtoakdilhljnjfaaW.PrintLast Go.Proofs.YtoakdilhljnjfaaW.PrintMore
attribute [local go_sem] max2_int min2_int max_two min_two max_three min_three max_four min_four   -- for this text's walks alone
set_option linter.unusedVariables false
set_option linter.unusedSimpArgs false

/-! ### spec_l09Begin: function 61 -/
def spec_l09Begin.l0 : Nat → List Bool → Int → Int → Int → List Int → Option (Int)
  | 0, _, _, _, _, _ => none
  | k + 1, x2, x7, x337000, x337001, x338000 => if x7 < x337000 then ((spec_l09Number.f k x338000 x338000 x7).bind fun t338 => (if 0 ≤ t338 then (if t338 < (x2.length : Int) then (if rdOf false x2 t338 = true then (some t338) else (spec_l09Begin.l0 k x2 (wrap64 (x7 + 1)) x337000 x337001 x338000)) else (none)) else (none))) else (some (-1))
def spec_l09Begin.f (k : Nat) (a0_0 : Int) (a0_1 : Int) (l1_0 : List Int) (l2 : List Bool) : Option (Int) := spec_l09Begin.l0 k l2 0 a0_0 a0_1 l1_0
theorem spec_l09Begin.mono_l : ∀ k, (∀ y0 y1 y2 y3 y4, LeO (spec_l09Begin.l0 k y0 y1 y2 y3 y4) (spec_l09Begin.l0 (k + 1) y0 y1 y2 y3 y4))
  | 0 => fun _ _ _ _ _ r h => by simp [spec_l09Begin.l0] at h
  | k + 1 => by
    have ih0 := spec_l09Begin.mono_l k
    · intro y0 y1 y2 y3 y4
      unfold spec_l09Begin.l0
      repeat' first
      | (with_reducible exact ih0 _ _ _ _ _)
      | (with_reducible exact spec_l09Number.mono _ _ _ _)
      | (with_reducible exact LeO.refl _)
      | (with_reducible exact LeO.none _)
      | (with_reducible refine LeO.ite ?_ ?_)
      | (with_reducible refine LeO.bind ?_ (fun _ => ?_))
      | exact ih0 _ _ _ _ _
      | exact spec_l09Number.mono _ _ _ _
      | exact LeO.none _
      | refine LeO.ite ?_ ?_
      | refine LeO.bind ?_ (fun _ => ?_)
theorem spec_l09Begin.mono : ∀ a0 a1 a2 a3 k, LeO (spec_l09Begin.f k a0 a1 a2 a3) (spec_l09Begin.f (k + 1) a0 a1 a2 a3) := by
  intro a0 a1 a2 a3 k
  have ih0 := spec_l09Begin.mono_l k
  unfold spec_l09Begin.f
  repeat' first
      | (with_reducible exact ih0 _ _ _ _ _)
      | (with_reducible exact spec_l09Number.mono _ _ _ _)
      | (with_reducible exact LeO.refl _)
      | (with_reducible exact LeO.none _)
      | (with_reducible refine LeO.ite ?_ ?_)
      | (with_reducible refine LeO.bind ?_ (fun _ => ?_))
      | exact ih0 _ _ _ _ _
      | exact spec_l09Number.mono _ _ _ _
      | exact LeO.none _
      | refine LeO.ite ?_ ?_
      | refine LeO.bind ?_ (fun _ => ?_)
set_option maxHeartbeats 8000000 in
set_option maxRecDepth 100000 in
theorem spec_l09Begin.calls (k : Nat) (a0_0 : Int) (a0_1 : Int) (A1_0 : Option Addr) (c1_0 : Nat) (l1_0 : List Int) (A2 : Option Addr) (c2 : Nat) (l2 : List Bool) (r : Int) (w : World) (hr1_0 : Kd.C (Kd.int .i64) w A1_0 l1_0.length l1_0) (hc1_0 : l1_0.length ≤ c1_0) (hr2 : Kd.C Kd.bool w A2 l2.length l2) (hc2 : l2.length ≤ c2) (h : spec_l09Begin.f k a0_0 a0_1 l1_0 l2 = some r) :
    Calls Try.prog 61 #[.agg #[.int .i64 a0_0, .int .i64 a0_1], .agg #[.slice A1_0 l1_0.length c1_0], .slice A2 l2.length c2] w fun e w' => e = .returned (.int .i64 r) ∧ Below w.heap.size w w' := by
  have hu42 := Try.underlying42
  have hu67 := Try.underlying67
  have HR1_0 := Aside0.mk hr1_0
  have HC1_0 := Aside0.mk hc1_0
  clear hr1_0 hc1_0
  have HR2 := Aside0.mk hr2
  have HC2 := Aside0.mk hc2
  clear hr2 hc2
  have HB := Aside0.mk (Below.refl w.heap.size w)
  have H : (spec_l09Begin.l0 k l2 0 a0_0 a0_1 l1_0) = some r := h
  clear h
  have H' := Aside0.mk H
  clear H
  go_enter Try.func61, Try.ntmps61
  go_wp2_with (first | ((with_reducible refine gate_dst (N := 3) rfl ?_); refine box_event ?hg (N := 3) ?hd (cs := #[.int .i64 a0_0, .int .i64 a0_1]) (t := 42) ?hr ?_; (case hd => rfl); (case hg => rfl); (case hr => first | (go_simp; done) | (go_simp; rfl)); intro gb336 hg w4 hbox hb; have n0_ := Aside0.mk (below_step (by repeat (first | (with_reducible first | exact HB.out | apply below_alloc | apply pw_below_drewN | apply below_drew1) | exact HB.out)) hb); have n1_ := Aside0.mk (hbox); have n2_ := Aside0.mk ((by rw [hg]; exact (below_size (by repeat (first | (with_reducible first | exact HB.out | apply below_alloc | apply pw_below_drewN | apply below_drew1) | exact HB.out))) : w.heap.size ≤ gb336)); have n3_ := Aside0.mk ((by rw [hg]; exact (below_size (by repeat (first | (with_reducible first | exact HB.out | apply below_alloc | apply pw_below_drewN | apply below_drew1) | exact HB.out))) : w.heap.size ≤ gb336)); clear HB; have HB := n0_; have BK336 := n1_; have GW336 := n2_; have GE336 := n3_; clear n0_ n1_ n2_ n3_; clear hb hbox hg) | ((with_reducible refine gate_dst (N := 4) rfl ?_); refine box_event ?hg (N := 4) ?hd (cs := #[.slice A1_0 l1_0.length c1_0]) (t := 67) ?hr ?_; (case hd => rfl); (case hg => rfl); (case hr => first | (go_simp; done) | (go_simp; rfl)); intro gb337 hg w5 hbox hb; have n0_ := Aside0.mk (blk_below (g := gb336) (o := .cells #[.int .i64 a0_0, .int .i64 a0_1] 42 (0, 0)) (by (with_reducible repeat (first | refine blk_drewN ?_ _ | refine blk_drew ?_ | refine blk_alloc ?_ _)); exact BK336.out) hb); have n1_ := Aside0.mk (below_step (by repeat (first | (with_reducible first | exact HB.out | apply below_alloc | apply pw_below_drewN | apply below_drew1 | refine below_set ?_ GE336.out) | exact HB.out)) hb); have n2_ := Aside0.mk (hbox); have n3_ := Aside0.mk ((by rw [hg]; exact (below_size (by repeat (first | (with_reducible first | exact HB.out | apply below_alloc | apply pw_below_drewN | apply below_drew1 | refine below_set ?_ GE336.out) | exact HB.out))) : w.heap.size ≤ gb337)); have n4_ := Aside0.mk ((by rw [hg]; exact (below_size (by repeat (first | (with_reducible first | exact HB.out | apply below_alloc | apply pw_below_drewN | apply below_drew1 | refine below_set ?_ GE336.out) | exact HB.out))) : w.heap.size ≤ gb337)); have n5_ := Aside0.mk ((by rw [hg]; exact Nat.ne_of_lt (blk_lt (g := gb336) (o := .cells #[.int .i64 a0_0, .int .i64 a0_1] 42 (0, 0)) (by (with_reducible repeat (first | refine blk_drewN ?_ _ | refine blk_drew ?_ | refine blk_alloc ?_ _)); exact BK336.out)) : gb336 ≠ gb337)); have n6_ := Aside0.mk ((by rw [hg]; exact Nat.ne_of_gt (blk_lt (g := gb336) (o := .cells #[.int .i64 a0_0, .int .i64 a0_1] 42 (0, 0)) (by (with_reducible repeat (first | refine blk_drewN ?_ _ | refine blk_drew ?_ | refine blk_alloc ?_ _)); exact BK336.out)) : gb337 ≠ gb336)); clear BK336; clear HB; have BK336 := n0_; have HB := n1_; have BK337 := n2_; have GW337 := n3_; have GE337 := n4_; have NB336_337 := n5_; have NB337_336 := n6_; clear n0_ n1_ n2_ n3_ n4_ n5_ n6_; clear hb hbox hg))
  go_loopg [7] k (fun kq v7 w' => ∃ (x7_1 : Int), v7 = .int .i64 x7_1 ∧ Aside0 (spec_l09Begin.l0 kq l2 x7_1 a0_0 a0_1 l1_0 = some r) ∧ Aside0 (kq ≤ k) ∧ Aside0 (w'.heap[gb336]? = some (.cells #[.int .i64 a0_0, .int .i64 a0_1] 42 (0, 0))) ∧ Aside0 (w'.heap[gb337]? = some (.cells #[(.slice A1_0 l1_0.length c1_0)] 67 (0, 0))) ∧ Aside0 (Below w.heap.size w w'))
  case atStart => exact ⟨(0), (by first | rfl | (simp; done) | (simp [*]; done)), H', ⟨Nat.le_refl _⟩, ⟨by (with_reducible repeat (first | refine blk_drewN ?_ _ | refine blk_drew ?_ | refine blk_alloc ?_ _)); exact BK336.out⟩, ⟨by (with_reducible repeat (first | refine blk_drewN ?_ _ | refine blk_drew ?_ | refine blk_alloc ?_ _)); exact BK337.out⟩, ⟨by repeat (first | (with_reducible first | exact HB.out | apply below_alloc | apply pw_below_drewN | apply below_drew1 | refine below_set ?_ GE336.out | refine below_set ?_ GE337.out) | exact HB.out)⟩⟩
  case round =>
    clear H'
    try clear c1
    try clear c2
    try clear p2
    obtain ⟨x7_1, rfl, HA, HK1, BK336, BK337, HB⟩ := hrel
    cases gk with
    | zero => exact absurd HA.out (by simp [spec_l09Begin.l0])
    | succ k1 =>
      have H := HA.out
      clear HA
      simp only [spec_l09Begin.l0] at H
      by_cases c6 : x7_1 < a0_0
      · rw [if_pos c6] at H
        have c6b0 : decide (x7_1 < a0_0) = true := decide_eq_true c6
        clear c6
        replace H := Option.bind_eq_some_iff.mp H
        obtain ⟨t338, A70, H⟩ := H
        replace H : (if 0 ≤ t338 then (if t338 < (l2.length : Int) then (if rdOf false l2 t338 = true then (some t338) else (spec_l09Begin.l0 k1 l2 (wrap64 (x7_1 + 1)) a0_0 a0_1 l1_0)) else (none)) else (none)) = some r := H
        have A7 := Aside0.mk A70
        clear A70
        by_cases c8 : 0 ≤ t338
        · rw [if_pos c8] at H
          have c8b0 : decide (0 ≤ t338) = true := decide_eq_true c8
          clear c8
          by_cases c9 : t338 < (l2.length : Int)
          · rw [if_pos c9] at H
            have c9b0 : decide (t338 < (l2.length : Int)) = true := decide_eq_true c9
            clear c9
            obtain ⟨bq10, hbq10⟩ : ∃ b_ : Bool, b_ = (rdOf false l2 t338) := ⟨_, rfl⟩
            replace H : (if bq10 = true then (some t338) else (spec_l09Begin.l0 k1 l2 (wrap64 (x7_1 + 1)) a0_0 a0_1 l1_0)) = some r := by rw [← hbq10] at H; exact H
            have Nbq10 := Aside0.mk hbq10
            clear hbq10
            by_cases c11 : bq10 = true
            · subst c11
              have H1 : (some t338) = some r := by rw [if_pos rfl] at H; exact H
              clear H
              have H := H1
              clear H1
              obtain rfl := Option.some.inj H
              have hnb12 := NB336_337.out
              have hnc12 := NB337_336.out
              have hcz13_0 : wr.cell? ⟨gb336, 0, none⟩ = some (.int .i64 a0_0) := (blk_cell BK336.out 0).trans rfl
              have hcz13_1 : wr.cell? ⟨gb336, 1, none⟩ = some (.int .i64 a0_1) := (blk_cell BK336.out 1).trans rfl
              have hfz13_0 := blk_frozen BK336.out 0
              have hfz13_1 := blk_frozen BK336.out 1
              have hcz14_0 : wr.cell? ⟨gb337, 0, none⟩ = some (.slice A1_0 l1_0.length c1_0) := (blk_cell BK337.out 0).trans rfl
              have hfz14_0 := blk_frozen BK337.out 0
              go_wp2_with (first | ((with_reducible refine gate_callee (f := 96) rfl ?_); refine goesL_ (some 19) rfl rfl Try.func96 (by kernel_rfl) rfl #[.agg #[.slice A1_0 l1_0.length c1_0], .slice A1_0 l1_0.length c1_0, .int .i64 x7_1] rfl (by (try simp only [List.map_toArray, List.map_cons, List.map_nil]); first | done | rfl | (simp only [List.length_drop, List.length_take]; rfl)) ?_; (with_reducible refine (spec_l09Number.calls k1 _ _ l1_0 _ _ l1_0 x7_1 t338 _ ?side1 ?side2 ?side3 ?side4 A7.out).mono ?_); (case side1 => repeat (first | exact (Kd.C_below HR1_0.out HB.out) | (with_reducible refine Kd.C_alloc ?_ _) | (with_reducible refine Kd.C_drewN ?_ _) | (with_reducible refine Kd.C_drew ?_))); (case side2 => exact HC1_0.out); (case side3 => repeat (first | exact (Kd.C_below HR1_0.out HB.out) | (with_reducible refine Kd.C_alloc ?_ _) | (with_reducible refine Kd.C_drewN ?_ _) | (with_reducible refine Kd.C_drew ?_))); (case side4 => exact HC1_0.out); rintro e w15 ⟨rfl, hb⟩; refine ⟨_, rfl, ?_⟩; have n0_ := Aside0.mk (blk_below (g := gb336) (o := .cells #[.int .i64 a0_0, .int .i64 a0_1] 42 (0, 0)) (by (with_reducible repeat (first | refine blk_drewN ?_ _ | refine blk_drew ?_ | refine blk_alloc ?_ _)); exact BK336.out) hb); have n1_ := Aside0.mk (blk_below (g := gb337) (o := .cells #[.slice A1_0 l1_0.length c1_0] 67 (0, 0)) (by (with_reducible repeat (first | refine blk_drewN ?_ _ | refine blk_drew ?_ | refine blk_alloc ?_ _)); exact BK337.out) hb); have n2_ := Aside0.mk (below_step (by repeat (first | (with_reducible first | exact HB.out | apply below_alloc | apply pw_below_drewN | apply below_drew1 | refine below_set ?_ GE336.out | refine below_set ?_ GE337.out) | exact HB.out)) hb); clear BK336; clear BK337; clear HB; have BK336 := n0_; have BK337 := n1_; have HB := n2_; clear n0_ n1_ n2_; (try clear hb); (try clear hb2); (try clear hk); (try clear hi); have p339 : 0 ≤ (t338 : Int) := of_decide_eq_true (by first | (with_reducible assumption) | assumption); have q339 : t338 < (l2.length : Int) := of_decide_eq_true (by first | (with_reducible assumption) | assumption); obtain ⟨ad339, e339, hx339_0⟩ := Kd.at_bool HR2.out t338 p339 q339; (try rw [← Nbq10.out] at hx339_0); cases e339; replace hx339_0 := (HB.out.cell (World.block_lt_of_cell? w _ hx339_0)).trans hx339_0; replace p339 := eq_true p339; replace q339 := eq_true q339))
              go_ret
              exact ⟨by first | rfl | (simp [errW_none, errW_some] <;> rfl) | (simp [*, errW_none, errW_some] <;> rfl), by repeat (first | (with_reducible first | exact HB.out | apply below_alloc | apply pw_below_drewN | apply below_drew1 | refine below_set ?_ GE336.out | refine below_set ?_ GE337.out) | exact HB.out)⟩
            · replace c11 := Bool.eq_false_iff.mpr c11
              subst c11
              have H1 : (spec_l09Begin.l0 k1 l2 (wrap64 (x7_1 + 1)) a0_0 a0_1 l1_0) = some r := by rw [if_neg (show ¬ (false = true) by decide)] at H; exact H
              clear H
              have H := H1
              clear H1
              have H' := Aside0.mk H
              clear H
              have hnb16 := NB336_337.out
              have hnc16 := NB337_336.out
              have hcz17_0 : wr.cell? ⟨gb336, 0, none⟩ = some (.int .i64 a0_0) := (blk_cell BK336.out 0).trans rfl
              have hcz17_1 : wr.cell? ⟨gb336, 1, none⟩ = some (.int .i64 a0_1) := (blk_cell BK336.out 1).trans rfl
              have hfz17_0 := blk_frozen BK336.out 0
              have hfz17_1 := blk_frozen BK336.out 1
              have hcz18_0 : wr.cell? ⟨gb337, 0, none⟩ = some (.slice A1_0 l1_0.length c1_0) := (blk_cell BK337.out 0).trans rfl
              have hfz18_0 := blk_frozen BK337.out 0
              go_wp2_with (first | ((with_reducible refine gate_callee (f := 96) rfl ?_); refine goesL_ (some 19) rfl rfl Try.func96 (by kernel_rfl) rfl #[.agg #[.slice A1_0 l1_0.length c1_0], .slice A1_0 l1_0.length c1_0, .int .i64 x7_1] rfl (by (try simp only [List.map_toArray, List.map_cons, List.map_nil]); first | done | rfl | (simp only [List.length_drop, List.length_take]; rfl)) ?_; (with_reducible refine (spec_l09Number.calls k1 _ _ l1_0 _ _ l1_0 x7_1 t338 _ ?side1 ?side2 ?side3 ?side4 A7.out).mono ?_); (case side1 => repeat (first | exact (Kd.C_below HR1_0.out HB.out) | (with_reducible refine Kd.C_alloc ?_ _) | (with_reducible refine Kd.C_drewN ?_ _) | (with_reducible refine Kd.C_drew ?_))); (case side2 => exact HC1_0.out); (case side3 => repeat (first | exact (Kd.C_below HR1_0.out HB.out) | (with_reducible refine Kd.C_alloc ?_ _) | (with_reducible refine Kd.C_drewN ?_ _) | (with_reducible refine Kd.C_drew ?_))); (case side4 => exact HC1_0.out); rintro e w19 ⟨rfl, hb⟩; refine ⟨_, rfl, ?_⟩; have n0_ := Aside0.mk (blk_below (g := gb336) (o := .cells #[.int .i64 a0_0, .int .i64 a0_1] 42 (0, 0)) (by (with_reducible repeat (first | refine blk_drewN ?_ _ | refine blk_drew ?_ | refine blk_alloc ?_ _)); exact BK336.out) hb); have n1_ := Aside0.mk (blk_below (g := gb337) (o := .cells #[.slice A1_0 l1_0.length c1_0] 67 (0, 0)) (by (with_reducible repeat (first | refine blk_drewN ?_ _ | refine blk_drew ?_ | refine blk_alloc ?_ _)); exact BK337.out) hb); have n2_ := Aside0.mk (below_step (by repeat (first | (with_reducible first | exact HB.out | apply below_alloc | apply pw_below_drewN | apply below_drew1 | refine below_set ?_ GE336.out | refine below_set ?_ GE337.out) | exact HB.out)) hb); clear BK336; clear BK337; clear HB; have BK336 := n0_; have BK337 := n1_; have HB := n2_; clear n0_ n1_ n2_; (try clear hb); (try clear hb2); (try clear hk); (try clear hi); have p339 : 0 ≤ (t338 : Int) := of_decide_eq_true (by first | (with_reducible assumption) | assumption); have q339 : t338 < (l2.length : Int) := of_decide_eq_true (by first | (with_reducible assumption) | assumption); obtain ⟨ad339, e339, hx339_0⟩ := Kd.at_bool HR2.out t338 p339 q339; (try rw [← Nbq10.out] at hx339_0); cases e339; replace hx339_0 := (HB.out.cell (World.block_lt_of_cell? w _ hx339_0)).trans hx339_0; replace p339 := eq_true p339; replace q339 := eq_true q339))
              go_roundg k1
              case measure => have := HK1.out; omega
              case rel => exact ⟨(wrap64 (x7_1 + 1)), (by first | rfl | (simp; done) | (simp [*]; done)), H', ⟨by have := HK1.out; omega⟩, ⟨by (with_reducible repeat (first | refine blk_drewN ?_ _ | refine blk_drew ?_ | refine blk_alloc ?_ _)); exact BK336.out⟩, ⟨by (with_reducible repeat (first | refine blk_drewN ?_ _ | refine blk_drew ?_ | refine blk_alloc ?_ _)); exact BK337.out⟩, ⟨by repeat (first | (with_reducible first | exact HB.out | apply below_alloc | apply pw_below_drewN | apply below_drew1 | refine below_set ?_ GE336.out | refine below_set ?_ GE337.out) | exact HB.out)⟩⟩
          · rw [if_neg c9] at H
            exact absurd H (by simp)
        · rw [if_neg c8] at H
          exact absurd H (by simp)
      · rw [if_neg c6] at H
        have c6b0 : decide (x7_1 < a0_0) = false := decide_eq_false c6
        clear c6
        obtain rfl := Option.some.inj H
        have hnb20 := NB336_337.out
        have hnc20 := NB337_336.out
        have hcz21_0 : wr.cell? ⟨gb336, 0, none⟩ = some (.int .i64 a0_0) := (blk_cell BK336.out 0).trans rfl
        have hcz21_1 : wr.cell? ⟨gb336, 1, none⟩ = some (.int .i64 a0_1) := (blk_cell BK336.out 1).trans rfl
        have hfz21_0 := blk_frozen BK336.out 0
        have hfz21_1 := blk_frozen BK336.out 1
        go_wp2
        go_ret
        exact ⟨by first | rfl | (simp [errW_none, errW_some] <;> rfl) | (simp [*, errW_none, errW_some] <;> rfl), by repeat (first | (with_reducible first | exact HB.out | apply below_alloc | apply pw_below_drewN | apply below_drew1 | refine below_set ?_ GE336.out | refine below_set ?_ GE337.out) | exact HB.out)⟩

end Go.Proofs.Ytoakdilhljnjfaa.Q
/- Plain laws of watchers' states: the safe states, and the state to begin with, are alike. -/
namespace Go.Proofs.Ytoakdilhljnjfaa.Pure
open Go.RowKit Go.Proofs.Ytoakdilhljnjfaa.Q Go.Proofs.YtoakdilhljnjfaaW.PrintWords Go.Proofs.YtoakdilhljnjfaaW.PrintLast Go.Proofs.YtoakdilhljnjfaaW.PrintMore
set_option linter.unusedVariables false
set_option linter.unusedSimpArgs false

theorem size_l {P : Int} {gaps : List Int} (h : WOk P gaps) (d : Nat) : ∀ (q : Nat) (a : Int), q + d = gaps.length → a * prodG (gaps.drop q) = prodG gaps * P → 1 ≤ a → Ev (fun k => spec_l09Size.l0 k a (gaps.length : Int) q gaps) (prodG gaps * P) := by
  have hg := h.hg
  have h6 := h.h6
  have hm := h.hm
  induction d with
  | zero =>
    intro q a hq ha h1
    refine Ev.step (fun k => by rw [spec_l09Size.l0]) ?_
    refine Ev.neg (by omega) ?_
    rw [List.drop_of_length_le (by omega), prodG, Int.mul_one] at ha
    rw [ha]; exact Ev.now _
  | succ d ih =>
    intro q a hq ha h1
    have hb := hg _ (rd_memP gaps q (by omega))
    rw [drop_cons gaps q (by omega), prodG, ← Int.mul_assoc] at ha
    have hd : 1 ≤ prodG (gaps.drop (q + 1)) := prodG_pos (fun x hx => hg x (List.mem_of_mem_drop hx))
    have h2 : 1 ≤ a * rd gaps q := by have := Int.mul_le_mul h1 hb.1 (by omega) (by omega); omega
    have h3 : a * rd gaps q ≤ prodG gaps * P := by
      rw [← ha]
      have := Int.mul_le_mul_of_nonneg_left hd (show 0 ≤ a * rd gaps q by omega)
      omega
    refine Ev.step (fun k => by rw [spec_l09Size.l0]) ?_
    refine Ev.pos (by omega) (Ev.pos (by omega) (Ev.pos (by omega) ?_))
    rw [wrap64_id (x := a * rd gaps q) (by omega) (by omega), wrap64_id (by omega) (by omega)]
    simpa using ih (q + 1) (a * rd gaps q) (by omega) ha h2
theorem size_ev {P R : Int} {gaps : List Int} (h : WOk P gaps) : Ev (fun k => spec_l09Size.f k P R gaps) (prodG gaps * P) := by
  unfold spec_l09Size.f
  have h1 := h.h1
  have hp := h.hp
  simpa using size_l h gaps.length 0 P (by omega) (by simp [Int.mul_comm]) (by omega)

theorem spec_l0 {P R : Int} {gaps : List Int} (h : WOk P gaps) (N : Nat) (hN : (N : Int) = prodG gaps * P) (res : List Bool) (d : Nat) : ∀ (q : Nat) (o : List Bool), q + d = N → o.length = N → (o.take q = (List.range q).map fun i => wholeN P gaps (i : Nat)) →
    Ev (fun k => spec_l09Safe.l1 k ((List.range N).map fun i => wholeN P gaps (i : Nat)) true P R gaps) res → Ev (fun k => spec_l09Safe.l0 k o (N : Int) (q : Int) P R gaps) res := by
  have hm := h.hm
  have hp := h.hp
  have h1 := h.h1
  have h6 := h.h6
  induction d with
  | zero =>
    intro q o hq ho ht hE
    refine Ev.step (fun k => by rw [spec_l09Safe.l0]) ?_
    refine Ev.neg (by omega) ?_
    rw [List.take_of_length_le (by omega)] at ht
    rw [ht, show q = N by omega]; exact hE
  | succ d ih =>
    intro q o hq ho ht hE
    have hw : wrap64 ((q : Int) + 1) = ((q + 1 : Nat) : Int) := by rw [wrap64_id (by omega) (by omega)]; omega
    have hn0 : (0 : Int) ≤ (q : Int) := Int.natCast_nonneg _
    have hn' : (q : Int) < prodG gaps * P := by omega
    obtain ⟨a, b, c, e⟩ := tdiv_facts h hn0 hn'
    obtain ⟨e1, e2⟩ := stN_ev gaps h.hg (by omega) _ a (by omega)
    have hst := state_ev h1 h6 (q : Int) hn0 (by omega) (by rw [← hp]; exact e1)
    rw [← hp] at hst
    refine Ev.step (fun k => by rw [spec_l09Safe.l0]) ?_
    rw [hw, Int.toNat_natCast]
    refine Ev.pos (by omega) (Ev.bind hst (Ev.pos c (Ev.pos (by rw [e2.length]; omega) (Ev.pos (by omega) (Ev.pos hn0 (Ev.pos (by omega) ?_))))))
    refine ih (q + 1) _ (by omega) (by simpa using ho) ?_ hE
    rw [List.range_succ, List.map_append, ← ht, List.take_succ_eq_append_getElem (by simp; omega)]
    simp [List.take_set_of_le, wholeN]

/-- The safe states. -/
theorem safe_both {P R : Int} {gaps : List Int} (h : WOk P gaps) : ∃ S : List Bool, (S.length : Int) = prodG gaps * P ∧ Ev (fun k => impl_watchOf.f k P R gaps) S ∧ Ev (fun k => spec_l09Safe.f k P R gaps) S := by
  have hm := h.hm
  have hp := h.hp
  have h1 := h.h1
  have h6 := h.h6
  have hpos := prodG_pos h.hg
  have hT : 0 ≤ prodG gaps * P := Int.mul_nonneg (by omega) (by omega)
  obtain ⟨N, hN⟩ := Int.eq_ofNat_of_zero_le hT
  obtain ⟨r, r0, r1, r2⟩ := both_l1 (R := R) h N hN.symm N ((List.range N).map fun i => wholeN P gaps (i : Nat)) (by simp) (by have := List.countP_le_length (p := id) (l := (List.range N).map fun i => wholeN P gaps (i : Nat)); simpa using this)
  refine ⟨r, by omega, ?_, ?_⟩
  · unfold impl_watchOf.f
    refine Ev.bind (states_ev gaps h.hg (by omega)) ?_
    rw [wrap64_id (x := prodG gaps * P) (by omega) (by omega)]
    have h0 := of_l0 (R := R) h N 0 (by omega)
    rw [Nat.zero_add] at h0
    exact Ev.bind (by simpa using h0) r1
  · unfold spec_l09Safe.f
    refine Ev.bind (size_ev h) (Ev.pos hT (Ev.pos (by omega) (Ev.bindc rfl ?_)))
    rw [hN, Int.toNat_natCast, List.length_replicate]
    exact spec_l0 h N hN.symm r N 0 _ (by omega) (by simp) (by simp) r2
end Go.Proofs.Ytoakdilhljnjfaa.Pure
/- slices.IndexFunc, slices.ContainsFunc and impl.areAll over int64: what they answer for a function value that tells a predicate. -/
namespace Go.Proofs.Ytoakdilhljnjfaa.Q
open Go.RowKit Go.Proofs.YtoakdilhljnjfaaW.PrintWords Go.Proofs.YtoakdilhljnjfaaW.PrintLast Go.Proofs.YtoakdilhljnjfaaW.PrintMore
set_option linter.unusedVariables false
set_option linter.unusedSimpArgs false

set_option maxHeartbeats 800000 in
set_option maxRecDepth 100000 in
theorem IndexFunc.any (F : FuncId) (cap : Array Value) (p : Int → Bool) (A0 : Option Addr) (c0 : Nat) (l0 : List Int) (w0 w : World) (hB : Below w0.heap.size w0 w)
    (hr : Kd.C (Kd.int .i64) w0 A0 l0.length l0) (hl : l0.length ≤ maxLen) (hf : Tells w0 F cap l0 p) :
    Calls Try.prog 124 #[.slice A0 l0.length c0, .func (.func F) #[] cap] w fun e w' => e = .returned (.int .i64 (findIdx p l0 0)) ∧ Below w0.heap.size w0 w' := by
  have HR := Aside0.mk hr
  have HF := Aside0.mk hf
  have HB0 := Aside0.mk hB
  unfold maxLen at hl
  clear hr hf hB
  go_enter Try.func124, Try.ntmps124
  go_wp2
  go_loopw [8] (fun v wr => ∃ k : Nat, k ≤ l0.length ∧ v = .int .i64 k ∧ Aside0 (findIdx p (l0.drop k) k = findIdx p l0 0) ∧ Aside0 (Below w0.heap.size w0 wr)) (fun v _ => l0.length - (intOf v).toNat)
  case atStart => exact ⟨0, Nat.zero_le _, rfl, ⟨rfl⟩, HB0⟩
  case round =>
    clear HB0
    obtain ⟨k, hk, rfl, HE, HB⟩ := hrel
    by_cases hlt : k < l0.length
    · have hd := Aside0.mk (findIdx_drop p l0 k hlt k)
      obtain ⟨ad, rfl, hx⟩ := Kd.at_int HR.out (k : Int) (by omega) (by omega)
      have hm := Aside0.mk (rd_mem l0 k hlt)
      replace hx := (HB.out.cell (World.block_lt_of_cell? w0 _ hx)).trans hx
      rw [Int.toNat_natCast] at hx
      by_cases hp : p (rd l0 k) = true
      · have hres := Aside0.mk (HE.out.symm.trans (hd.out.trans (if_pos hp)))
        have hc := Aside0.mk (HF.out.out (rd l0 k) hm.out _ HB.out)
        rw [hp] at hc
        clear hp
        go_wp2_with (refine goesV (some 16) rfl rfl HF.out.ok #[.int .i64 (rd l0 k)] rfl rfl (by (try simp only [List.map_toArray, List.map_cons, List.map_nil]); first | done | rfl) ?_; refine hc.out.mono ?_; rintro e w' ⟨rfl, hb⟩; have HB' := Aside0.mk (below_more HB.out hb); clear hb; refine ⟨_, rfl, ?_⟩)
        go_ret
        exact ⟨ret_int hres.out.symm, HB'.out⟩
      · have hp' : p (rd l0 k) = false := by simpa using hp
        have hres := Aside0.mk (HE.out.symm.trans (hd.out.trans (if_neg hp)))
        have hc := Aside0.mk (HF.out.out (rd l0 k) hm.out _ HB.out)
        rw [hp'] at hc
        clear hp hp'
        go_wp2_with (refine goesV (some 16) rfl rfl HF.out.ok #[.int .i64 (rd l0 k)] rfl rfl (by (try simp only [List.map_toArray, List.map_cons, List.map_nil]); first | done | rfl) ?_; refine hc.out.mono ?_; rintro e w' ⟨rfl, hb⟩; have HB' := Aside0.mk (below_more HB.out hb); clear hb; refine ⟨_, rfl, ?_⟩)
        go_roundw
        case rel => exact ⟨k + 1, by omega, by go_num, ⟨hres.out.symm⟩, HB'⟩
        case measure => simp [intOf]; omega
    · have hres : findIdx p l0 0 = -1 := by rw [← HE.out, List.drop_eq_nil_of_le (by omega)]; rfl
      have Hres := Aside0.mk hres
      clear hres
      have hge : l0.length ≤ k := by omega
      have hge' : decide (k < l0.length) = false := by simpa using hge
      go_wp2
      go_ret
      exact ⟨ret_int Hres.out.symm, HB.out⟩

set_option maxHeartbeats 800000 in
set_option maxRecDepth 100000 in
theorem ContainsFunc.any (F : FuncId) (cap : Array Value) (p : Int → Bool) (A0 : Option Addr) (c0 : Nat) (l0 : List Int) (w0 w : World) (hB : Below w0.heap.size w0 w)
    (hr : Kd.C (Kd.int .i64) w0 A0 l0.length l0) (hl : l0.length ≤ maxLen) (hf : Tells w0 F cap l0 p) :
    Calls Try.prog 112 #[.slice A0 l0.length c0, .func (.func F) #[] cap] w fun e w' => e = .returned (.bool (l0.any p)) ∧ Below w0.heap.size w0 w' := by
  have H := Aside0.mk (IndexFunc.any F cap p A0 c0 l0 w0 w hB hr hl hf)
  have hi := Aside0.mk (findIdx_neg p l0 0 (by omega))
  clear hr hf hB
  have hd : decide (0 ≤ findIdx p l0 0) = l0.any p := by
    have := hi.out
    by_cases h : l0.any p = true
    · rw [h]; exact decide_eq_true (this.2 h)
    · rw [Bool.not_eq_true] at h
      rw [h]; exact decide_eq_false (fun h' => by have := this.1 h'; rw [h] at this; cases this)
  have Hd := Aside0.mk hd
  clear hd
  go_enter Try.func112, Try.ntmps112
  go_wp2_with (go_at_call 124; refine H.out.mono ?_; rintro e w' ⟨rfl, hb⟩; have HB := Aside0.mk hb; clear hb)
  go_ret
  exact ⟨ret_bool Hd.out, HB.out⟩

/-- The function value that areAll hands on: it turns the answer round. -/
theorem areAll1.tells (F : FuncId) (cap : Array Value) (p : Int → Bool) (l0 : List Int) (w0 w : World) (hB : Below w0.heap.size w0 w) (hf : Tells w0 F cap l0 p) (b T : Nat) (fz : Nat × Nat)
    (hb : w.heap[b]? = some (.cells #[.func (.func F) #[] cap] T fz)) : Tells w 113 #[.pointer (some ⟨b, 0, none⟩)] l0 (fun x => !p x) := by
  refine ⟨⟨⟨Try.f113, by kernel_rfl, rfl, rfl⟩⟩, fun x hx W hW => ?_⟩
  have HF := Aside0.mk hf
  have HC := Aside0.mk (hf.out x hx W (below_more hB hW))
  have hcell : W.cell? ⟨b, 0, none⟩ = some (.func (.func F) #[] cap) := by
    have hlt : b < w.heap.size := (Array.getElem?_eq_some_iff.1 hb).1
    rw [hW.cell (p := ⟨b, 0, none⟩) hlt]
    simp [World.cell?, hb]
  clear hf hB hW hb
  go_enter Try.func113, Try.ntmps113
  go_wp2_with (refine goesV (some 6) rfl rfl HF.out.ok #[.int .i64 x] rfl rfl (by (try simp only [List.map_toArray, List.map_cons, List.map_nil]); first | done | rfl) ?_; refine HC.out.mono ?_; rintro e w' ⟨rfl, hb⟩; have HB' := Aside0.mk hb; clear hb; refine ⟨_, rfl, ?_⟩)
  go_ret
  exact ⟨rfl, HB'.out⟩

theorem any_not (p : Int → Bool) (l : List Int) : (!l.any fun x => !p x) = l.all p := by
  induction l with
  | nil => rfl
  | cons x l ih => simp only [List.any_cons, List.all_cons, Bool.not_or, Bool.not_not, ih]

set_option maxHeartbeats 800000 in
set_option maxRecDepth 100000 in
theorem areAll.any (F : FuncId) (cap : Array Value) (p : Int → Bool) (A0 : Option Addr) (c0 : Nat) (l0 : List Int) (w : World)
    (hr : Kd.C (Kd.int .i64) w A0 l0.length l0) (hl : l0.length ≤ maxLen) (hf : Tells w F cap l0 p) :
    Calls Try.prog 86 #[.slice A0 l0.length c0, .func (.func F) #[] cap] w fun e w' => e = .returned (.bool (l0.all p)) ∧ Below w.heap.size w w' := by
  have hB1 : Below w.heap.size w (w.alloc (.cells #[.func (.func F) #[] cap] 92 (0, 0))) := (Below.refl _ _).alloc (Nat.le_refl _) _
  have hb1 : (w.alloc (.cells #[.func (.func F) #[] cap] 92 (0, 0))).heap[w.heap.size]? = some (.cells #[.func (.func F) #[] cap] 92 (0, 0)) := Array.getElem?_push_size
  have HT := Aside0.mk (areAll1.tells F cap p l0 w _ hB1 hf w.heap.size 92 (0, 0) hb1)
  have H := Aside0.mk (ContainsFunc.any _ _ _ A0 c0 l0 _ _ (Below.refl _ _) (Kd.C_below hr hB1) hl HT.out)
  have HB1 := Aside0.mk hB1
  have Hn := Aside0.mk (any_not p l0)
  have hmf : ∀ (fn : Fn) (first cap : Array Value) (w : World), (Instr.makeFunc fn first cap).run Try.prog w = .ok (.func fn first cap) w := fun _ _ _ _ => rfl
  clear hr hf hB1 hb1
  go_enter Try.func86, Try.ntmps86
  go_wp2_with (go_at_call 112; refine H.out.mono ?_; rintro e w' ⟨rfl, hb⟩; have HB := Aside0.mk hb; clear hb)
  go_ret
  exact ⟨ret_bool Hn.out, below_more HB1.out HB.out⟩
end Go.Proofs.Ytoakdilhljnjfaa.Q
-- written by wip/tools/printx.py (this session's) out of the translation; Lean checks it
namespace Go.Proofs.Ytoakdilhljnjfaa.Q
open Go.RowKit Go.Proofs.YtoakdilhljnjfaaW.PrintWords Go.Proofs.YtoakdilhljnjfaaW.PrintLast Go.Proofs.YtoakdilhljnjfaaW.PrintMore
attribute [local go_sem] max2_int min2_int max_two min_two max_three min_three max_four min_four   -- for this text's walks alone
set_option linter.unusedVariables false
set_option linter.unusedSimpArgs false

/-! ### impl_isMany: function 85 -/
def impl_isMany.f (a0 : Int) : Option (Bool) := (impl_within.f a0 1 8).bind fun t183 => (some t183)
set_option maxHeartbeats 8000000 in
set_option maxRecDepth 100000 in
theorem impl_isMany.calls (a0 : Int) (r : Bool) (w : World) (h : impl_isMany.f a0 = some r) :
    Calls Try.prog 85 #[.int .i64 a0] w fun e w' => e = .returned (.bool r) ∧ Drawn0 w w' := by
  have H : ((impl_within.f a0 1 8).bind fun t183 => (some t183)) = some r := h
  clear h
  replace H := Option.bind_eq_some_iff.mp H
  obtain ⟨t183, A20, H⟩ := H
  replace H : (some t183) = some r := H
  have A2 := Aside0.mk A20
  clear A20
  obtain rfl := Option.some.inj H
  go_enter Try.func85, Try.ntmps85
  go_wp2_with (first | ((with_reducible refine gate_callee (f := 48) rfl ?_); refine goesL_ (some 4) rfl rfl Try.func48 (by kernel_rfl) rfl #[.int .i64 a0, .int .i64 1, .int .i64 8] rfl (by (try simp only [List.map_toArray, List.map_cons, List.map_nil]); first | done | rfl | (simp only [List.length_drop, List.length_take]; rfl)) ?_; (with_reducible refine (impl_within.calls a0 1 8 t183 _ A2.out).mono ?_); rintro e w' ⟨rfl, ⟨nd, rfl⟩⟩; refine ⟨_, rfl, ?_⟩))
  go_ret
  exact ⟨by first | rfl | (simp; done) | (simp [*]; done), by repeat (first | exact Drawn0.refl _ | apply Drawn0.step)⟩

end Go.Proofs.Ytoakdilhljnjfaa.Q
-- written by wip/tools/printx.py (this session's) out of the translation; Lean checks it
namespace Go.Proofs.Ytoakdilhljnjfaa.Q
open Go.RowKit Go.Proofs.YtoakdilhljnjfaaW.PrintWords Go.Proofs.YtoakdilhljnjfaaW.PrintLast Go.Proofs.YtoakdilhljnjfaaW.PrintMore
attribute [local go_sem] max2_int min2_int max_two min_two max_three min_three max_four min_four   -- for this text's walks alone
set_option linter.unusedVariables false
set_option linter.unusedSimpArgs false

/-! ### impl_total: function 88 -/
def impl_total.l0 : Nat → Int → List Int → Int → Int → Option (Int)
  | 0, _, _, _, _ => none
  | k + 1, x3, x6, x7, x8 => if x8 < x7 then (if 0 ≤ x8 then (if x8 < (x6.length : Int) then (impl_total.l0 k (wrap64 (x3 + (rd x6 x8))) x6 x7 (wrap64 (x8 + 1))) else (none)) else (none)) else (some x3)
def impl_total.f (k : Nat) (l0 : List Int) : Option (Int) := impl_total.l0 k 0 l0 (l0.length : Int) 0
theorem impl_total.mono_l : ∀ k, (∀ y0 y1 y2 y3, LeO (impl_total.l0 k y0 y1 y2 y3) (impl_total.l0 (k + 1) y0 y1 y2 y3))
  | 0 => fun _ _ _ _ r h => by simp [impl_total.l0] at h
  | k + 1 => by
    have ih0 := impl_total.mono_l k
    · intro y0 y1 y2 y3
      unfold impl_total.l0
      repeat' first
      | (with_reducible exact ih0 _ _ _ _)
      | (with_reducible exact LeO.refl _)
      | (with_reducible exact LeO.none _)
      | (with_reducible refine LeO.ite ?_ ?_)
      | (with_reducible refine LeO.bind ?_ (fun _ => ?_))
      | exact ih0 _ _ _ _
      | exact LeO.none _
      | refine LeO.ite ?_ ?_
      | refine LeO.bind ?_ (fun _ => ?_)
theorem impl_total.mono : ∀ a0 k, LeO (impl_total.f k a0) (impl_total.f (k + 1) a0) := by
  intro a0 k
  have ih0 := impl_total.mono_l k
  unfold impl_total.f
  repeat' first
      | (with_reducible exact ih0 _ _ _ _)
      | (with_reducible exact LeO.refl _)
      | (with_reducible exact LeO.none _)
      | (with_reducible refine LeO.ite ?_ ?_)
      | (with_reducible refine LeO.bind ?_ (fun _ => ?_))
      | exact ih0 _ _ _ _
      | exact LeO.none _
      | refine LeO.ite ?_ ?_
      | refine LeO.bind ?_ (fun _ => ?_)
set_option maxHeartbeats 8000000 in
set_option maxRecDepth 100000 in
theorem impl_total.calls (k : Nat) (A0 : Option Addr) (c0 : Nat) (l0 : List Int) (r : Int) (w : World) (hr0 : Kd.C (Kd.int .i64) w A0 l0.length l0) (hc0 : l0.length ≤ c0) (h : impl_total.f k l0 = some r) :
    Calls Try.prog 88 #[.slice A0 l0.length c0] w fun e w' => e = .returned (.int .i64 r) ∧ Drawn0 w w' := by
  have HR0 := Aside0.mk hr0
  have HC0 := Aside0.mk hc0
  clear hr0 hc0
  have H : (impl_total.l0 k 0 l0 (l0.length : Int) 0) = some r := h
  clear h
  have H' := Aside0.mk H
  clear H
  go_enter Try.func88, Try.ntmps88
  go_wp2
  go_loopg [3, 8] k (fun kq v3 v8 w' => ∃ (x3_1 : Int) (x8_1 : Int), v3 = .int .i64 x3_1 ∧ v8 = .int .i64 x8_1 ∧ Aside0 (impl_total.l0 kq x3_1 l0 (l0.length : Int) x8_1 = some r) ∧ Aside0 (kq ≤ k) ∧ Drawn0 w w')
  case atStart => exact ⟨(0), (0), (by first | rfl | (simp; done) | (simp [*]; done)), (by first | rfl | (simp; done) | (simp [*]; done)), H', ⟨Nat.le_refl _⟩, by repeat (first | exact Drawn0.refl _ | apply Drawn0.step)⟩
  case round =>
    clear H'
    obtain ⟨x3_1, x8_1, rfl, rfl, HA, HK1, ⟨m1, rfl⟩⟩ := hrel
    cases gk with
    | zero => exact absurd HA.out (by simp [impl_total.l0])
    | succ k1 =>
      have H := HA.out
      clear HA
      simp only [impl_total.l0] at H
      by_cases c2 : x8_1 < (l0.length : Int)
      · rw [if_pos c2] at H
        have c2b0 : decide (x8_1 < (l0.length : Int)) = true := decide_eq_true c2
        clear c2
        by_cases c3 : 0 ≤ x8_1
        · rw [if_pos c3] at H
          have c3b0 : decide (0 ≤ x8_1) = true := decide_eq_true c3
          clear c3
          by_cases c4 : x8_1 < (l0.length : Int)
          · rw [if_pos c4] at H
            have c4b0 : decide (x8_1 < (l0.length : Int)) = true := decide_eq_true c4
            clear c4
            have H' := Aside0.mk H
            clear H
            have p184 : 0 ≤ (x8_1 : Int) := of_decide_eq_true (by first | (with_reducible assumption) | assumption)
            have q184 : x8_1 < (l0.length : Int) := of_decide_eq_true (by first | (with_reducible assumption) | assumption)
            obtain ⟨ad184, e184, hx184_0⟩ := Kd.at_int HR0.out x8_1 p184 q184
            cases e184
            replace p184 := eq_true p184
            replace q184 := eq_true q184
            go_wp2
            go_roundg k1
            case measure => have := HK1.out; omega
            case rel => exact ⟨(wrap64 (x3_1 + (rd l0 x8_1))), (wrap64 (x8_1 + 1)), (by first | rfl | (simp; done) | (simp [*]; done)), (by first | rfl | (simp; done) | (simp [*]; done)), H', ⟨by have := HK1.out; omega⟩, by repeat (first | exact Drawn0.refl _ | apply Drawn0.step)⟩
          · rw [if_neg c4] at H
            exact absurd H (by simp)
        · rw [if_neg c3] at H
          exact absurd H (by simp)
      · rw [if_neg c2] at H
        have c2b0 : decide (x8_1 < (l0.length : Int)) = false := decide_eq_false c2
        clear c2
        obtain rfl := Option.some.inj H
        go_wp2
        go_ret
        exact ⟨by first | rfl | (simp; done) | (simp [*]; done), by repeat (first | exact Drawn0.refl _ | apply Drawn0.step)⟩

end Go.Proofs.Ytoakdilhljnjfaa.Q
/- impl.areWeights: it comes to what its parts come to. -/
namespace Go.Proofs.Ytoakdilhljnjfaa.Q
open Go.RowKit Go.Proofs.YtoakdilhljnjfaaW.PrintWords Go.Proofs.YtoakdilhljnjfaaW.PrintLast Go.Proofs.YtoakdilhljnjfaaW.PrintMore
set_option linter.unusedVariables false
set_option linter.unusedSimpArgs false

def isIn (lo hi x : Int) : Bool := decide (lo ≤ x ∧ x ≤ hi)
theorem within_isIn (x lo hi : Int) : impl_within.f x lo hi = some (isIn lo hi x) := by
  unfold impl_within.f isIn
  by_cases h : lo ≤ x <;> simp [h]

theorem areWeights1.tells (l0 : List Int) (w : World) : Tells w 87 #[] l0 (isIn 0 100) := by
  refine ⟨⟨⟨Try.f87, by kernel_rfl, rfl, rfl⟩⟩, fun x hx W hW => ?_⟩
  have H := Aside0.mk (impl_within.calls x 0 100 _ W (within_isIn x 0 100))
  go_enter Try.func87, Try.ntmps87
  go_wp2_with (go_at_call 48; refine H.out.mono ?_; rintro e w' ⟨rfl, ⟨nd, rfl⟩⟩)
  go_ret
  exact ⟨rfl, pw_below_drewN (Below.refl _ _) _⟩

def impl_areWeights.f (k : Nat) (l0 : List Int) : Option Bool :=
  (impl_isMany.f l0.length).bind fun b1 => if b1 = true then (if l0.all (isIn 0 100) = true then (impl_total.f k l0).bind fun t => some (decide (t > 0)) else some false) else some false
theorem impl_areWeights.mono : ∀ a0 k, LeO (impl_areWeights.f k a0) (impl_areWeights.f (k + 1) a0) := by
  intro a0 k
  unfold impl_areWeights.f
  refine LeO.bind (LeO.refl _) fun _ => LeO.ite (LeO.ite (LeO.bind (impl_total.mono _ _) fun _ => LeO.refl _) (LeO.refl _)) (LeO.refl _)

set_option maxHeartbeats 1600000 in
set_option maxRecDepth 100000 in
theorem impl_areWeights.calls (k : Nat) (A0 : Option Addr) (c0 : Nat) (l0 : List Int) (r : Bool) (w : World) (hr0 : Kd.C (Kd.int .i64) w A0 l0.length l0) (hc0 : l0.length ≤ c0) (h : impl_areWeights.f k l0 = some r) :
    Calls Try.prog 46 #[.slice A0 l0.length c0] w fun e w' => e = .returned (.bool r) ∧ Below w.heap.size w w' := by
  have HR0 := Aside0.mk hr0
  have HC0 := Aside0.mk hc0
  clear hr0 hc0
  unfold impl_areWeights.f at h
  obtain ⟨b1, h1, h⟩ := Option.bind_eq_some_iff.mp h
  have hA : ∀ n, Aside0 (Calls Try.prog 45 #[.slice A0 l0.length c0] (w.drewN n) fun e w' => e = .returned (.int .i64 l0.length) ∧ Drawn0 (w.drewN n) w') := fun n => ⟨impl_length_int64.calls A0 c0 l0 _ _ (Kd.C_drewN HR0.out _) HC0.out rfl⟩
  cases b1 with
  | false =>
    have h2 : r = false := by simpa using h.symm
    subst h2
    have H1 := Aside0.mk h1
    clear h h1
    go_enter Try.func46, Try.ntmps46
    go_wp2_with (first | (go_at_call 45; refine (impl_length_int64.calls A0 c0 l0 _ _ HR0.out HC0.out rfl).mono ?_; rintro e w' ⟨rfl, ⟨nd, rfl⟩⟩) | (go_at_call 85; refine (impl_isMany.calls _ _ _ H1.out).mono ?_; rintro e w' ⟨rfl, ⟨nd, rfl⟩⟩))
    go_ret
    exact ⟨rfl, by repeat (first | exact Below.refl _ _ | apply pw_below_drewN)⟩
  | true =>
    rw [if_pos rfl] at h
    have H1 := Aside0.mk h1
    clear h1
    cases hall : l0.all (isIn 0 100) with
    | false =>
      rw [hall] at h
      have h2 : r = false := by simpa using h.symm
      subst h2
      have HA := Aside0.mk (areAll.any 87 #[] (isIn 0 100) A0 c0 l0)
      have HL := Aside0.mk hall
      clear h hall
      go_enter Try.func46, Try.ntmps46
      go_wp2_with (first | (go_at_call 45; refine (impl_length_int64.calls A0 c0 l0 _ _ HR0.out HC0.out rfl).mono ?_; rintro e w' ⟨rfl, ⟨nd, rfl⟩⟩) | (go_at_call 85; refine (impl_isMany.calls _ _ _ H1.out).mono ?_; rintro e w' ⟨rfl, ⟨nd, rfl⟩⟩) | (go_at_call 86; refine (HA.out _ (by repeat (first | exact HR0.out | apply Kd.C_drewN)) (Kd.C_max HR0.out) (areWeights1.tells _ _)).mono ?_; rw [HL.out]; rintro e w' ⟨rfl, hb⟩; have HB := Aside0.mk hb; clear hb))
      go_ret
      exact ⟨rfl, below_more (by repeat (first | exact Below.refl _ _ | apply pw_below_drewN)) HB.out⟩
    | true =>
      rw [if_pos hall] at h
      obtain ⟨t, h2, h⟩ := Option.bind_eq_some_iff.mp h
      obtain rfl := Option.some.inj h
      have HA := Aside0.mk (areAll.any 87 #[] (isIn 0 100) A0 c0 l0)
      have HL := Aside0.mk hall
      have HT := Aside0.mk h2
      clear h hall h2
      go_enter Try.func46, Try.ntmps46
      go_wp2_with (first | (go_at_call 45; refine (impl_length_int64.calls A0 c0 l0 _ _ HR0.out HC0.out rfl).mono ?_; rintro e w' ⟨rfl, ⟨nd, rfl⟩⟩) | (go_at_call 85; refine (impl_isMany.calls _ _ _ H1.out).mono ?_; rintro e w' ⟨rfl, ⟨nd, rfl⟩⟩) | (go_at_call 86; refine (HA.out _ (by repeat (first | exact HR0.out | apply Kd.C_drewN)) (Kd.C_max HR0.out) (areWeights1.tells _ _)).mono ?_; rw [HL.out]; rintro e w' ⟨rfl, hb⟩; have HB := Aside0.mk (below_more (w0 := w) (by repeat (first | exact Below.refl _ _ | apply pw_below_drewN)) hb); clear hb) | (go_at_call 88; refine (impl_total.calls k A0 c0 l0 t _ (Kd.C_below HR0.out HB.out) HC0.out HT.out).mono ?_; rintro e w' ⟨rfl, ⟨nd, rfl⟩⟩))
      go_ret
      exact ⟨rfl, by repeat (first | exact HB.out | apply pw_below_drewN)⟩
end Go.Proofs.Ytoakdilhljnjfaa.Q
/- impl.IsTasks: it comes to what its parts come to. -/
namespace Go.Proofs.Ytoakdilhljnjfaa.Q
open Go.RowKit Go.Proofs.YtoakdilhljnjfaaW.PrintWords Go.Proofs.YtoakdilhljnjfaaW.PrintLast Go.Proofs.YtoakdilhljnjfaaW.PrintMore
set_option linter.unusedVariables false
set_option linter.unusedSimpArgs false

theorem isTasks1.tells (l0_0 : List Int) (w : World) : Tells w 132 #[] l0_0 (isIn 1 40) := by
  refine ⟨⟨⟨Try.f132, by kernel_rfl, rfl, rfl⟩⟩, fun x hx W hW => ?_⟩
  have H := Aside0.mk (impl_within.calls x 1 40 _ W (within_isIn x 1 40))
  go_enter Try.func132, Try.ntmps132
  go_wp2_with (go_at_call 48; refine H.out.mono ?_; rintro e w' ⟨rfl, ⟨nd, rfl⟩⟩)
  go_ret
  exact ⟨rfl, pw_below_drewN (Below.refl _ _) _⟩

def impl_IsTasks.f (l0_0 : List Int) : Option Bool := some (isIn 1 8 l0_0.length && l0_0.all (isIn 1 40))

set_option maxHeartbeats 1600000 in
set_option maxRecDepth 100000 in
theorem impl_IsTasks.calls (A0_0 : Option Addr) (c0_0 : Nat) (l0_0 : List Int) (r : Bool) (w : World) (hr0 : Kd.C (Kd.int .i64) w A0_0 l0_0.length l0_0) (hc0 : l0_0.length ≤ c0_0) (h : impl_IsTasks.f l0_0 = some r) :
    Calls Try.prog 127 #[.agg #[.slice A0_0 l0_0.length c0_0]] w fun e w' => e = .returned (.bool r) ∧ Below w.heap.size w w' := by
  have HR0 := Aside0.mk hr0
  have HC0 := Aside0.mk hc0
  have hu := Try.underlying67
  clear hr0 hc0
  obtain rfl := Option.some.inj h
  clear h
  cases h1 : isIn 1 8 l0_0.length with
  | false =>
    go_enter Try.func127, Try.ntmps127
    go_wp2_with (first | ((with_reducible refine gate_dst (N := 1) rfl ?_); refine box_event ?hg (N := 1) ?hd (cs := #[.slice A0_0 l0_0.length c0_0]) (t := 67) ?hr ?_; (case hd => rfl); (case hg => rfl); (case hr => first | (go_simp; done) | (go_simp; rfl)); intro b hg w1 hbox hb; have HB := Aside0.mk hb; have KB := Aside0.mk hbox; clear hg hbox hb; have cb0 : w1.cell? ⟨b, 0, none⟩ = some (.slice A0_0 l0_0.length c0_0) := (blk_cell KB.out 0).trans rfl) | (go_at_call 45; refine (impl_length_int64.calls A0_0 c0_0 l0_0 _ _ (Kd.C_below HR0.out HB.out) HC0.out rfl).mono ?_; rintro e w' ⟨rfl, ⟨nd, rfl⟩⟩) | (go_at_call 48; refine (impl_within.calls _ 1 8 _ _ (within_isIn _ 1 8)).mono ?_; rintro e w' ⟨rfl, ⟨nd2, rfl⟩⟩; have cb1 : (w1.drewN (nd + nd2)).cell? ⟨b, 0, none⟩ = some (.slice A0_0 l0_0.length c0_0) := cb0) | (go_at_call 86; refine (areAll.any 132 #[] (isIn 1 40) A0_0 c0_0 l0_0 _ (by repeat (first | exact Kd.C_below HR0.out HB.out | apply Kd.C_drewN)) (Kd.C_max HR0.out) (isTasks1.tells _ _)).mono ?_; rintro e w' ⟨rfl, hb⟩; have HB3 := Aside0.mk (below_more (w0 := w) (by repeat (first | exact HB.out | apply pw_below_drewN)) hb); clear hb))
    go_ret
    exact ⟨rfl, by repeat (first | exact HB.out | apply pw_below_drewN)⟩
  | true =>
    go_enter Try.func127, Try.ntmps127
    go_wp2_with (first | ((with_reducible refine gate_dst (N := 1) rfl ?_); refine box_event ?hg (N := 1) ?hd (cs := #[.slice A0_0 l0_0.length c0_0]) (t := 67) ?hr ?_; (case hd => rfl); (case hg => rfl); (case hr => first | (go_simp; done) | (go_simp; rfl)); intro b hg w1 hbox hb; have HB := Aside0.mk hb; have KB := Aside0.mk hbox; clear hg hbox hb; have cb0 : w1.cell? ⟨b, 0, none⟩ = some (.slice A0_0 l0_0.length c0_0) := (blk_cell KB.out 0).trans rfl) | (go_at_call 45; refine (impl_length_int64.calls A0_0 c0_0 l0_0 _ _ (Kd.C_below HR0.out HB.out) HC0.out rfl).mono ?_; rintro e w' ⟨rfl, ⟨nd, rfl⟩⟩) | (go_at_call 48; refine (impl_within.calls _ 1 8 _ _ (within_isIn _ 1 8)).mono ?_; rintro e w' ⟨rfl, ⟨nd2, rfl⟩⟩; have cb1 : (w1.drewN (nd + nd2)).cell? ⟨b, 0, none⟩ = some (.slice A0_0 l0_0.length c0_0) := cb0) | (go_at_call 86; refine (areAll.any 132 #[] (isIn 1 40) A0_0 c0_0 l0_0 _ (by repeat (first | exact Kd.C_below HR0.out HB.out | apply Kd.C_drewN)) (Kd.C_max HR0.out) (isTasks1.tells _ _)).mono ?_; rintro e w' ⟨rfl, hb⟩; have HB3 := Aside0.mk (below_more (w0 := w) (by repeat (first | exact HB.out | apply pw_below_drewN)) hb); clear hb))
    go_ret
    exact ⟨rfl, HB3.out⟩
end Go.Proofs.Ytoakdilhljnjfaa.Q
-- written by wip/tools/printx.py (this session's) out of the translation; Lean checks it
namespace Go.Proofs.Ytoakdilhljnjfaa.Q
open Go.RowKit Go.Proofs.YtoakdilhljnjfaaW.PrintWords Go.Proofs.YtoakdilhljnjfaaW.PrintLast Go.Proofs.YtoakdilhljnjfaaW.PrintMore
attribute [local go_sem] max2_int min2_int max_two min_two max_three min_three max_four min_four   -- for this text's walks alone
set_option linter.unusedVariables false
set_option linter.unusedSimpArgs false

/-! ### impl_bothCode: function 118 -/
def impl_bothCode.j0 : Nat → Bool → Bool → Int → Int → List Int → Option (Int)
  | 0, _, _, _, _, _ => none
  | k + 1, x2, x7, x432000, x432001, x433000 => if x7 = true then (some 1) else (if x2 = true then ((impl_Tasks_many.f x433000).bind fun t435 => (if t435 = x432000 then (some 0) else (some 2))) else (some 2))
def impl_bothCode.f (k : Nat) (a0_0 : Int) (a0_1 : Int) (l1_0 : List Int) (a2 : Bool) : Option (Int) := (impl_IsGround.f a0_0 a0_1).bind fun t433 => (if t433 = true then ((impl_IsTasks.f l1_0).bind fun t434 => (impl_bothCode.j0 k a2 (!t434) a0_0 a0_1 l1_0)) else (impl_bothCode.j0 k a2 true a0_0 a0_1 l1_0))
theorem impl_bothCode.mono_l : ∀ k, (∀ y0 y1 y2 y3 y4, LeO (impl_bothCode.j0 k y0 y1 y2 y3 y4) (impl_bothCode.j0 (k + 1) y0 y1 y2 y3 y4))
  | 0 => fun _ _ _ _ _ r h => by simp [impl_bothCode.j0] at h
  | k + 1 => by
    have ih0 := impl_bothCode.mono_l k
    · intro y0 y1 y2 y3 y4
      unfold impl_bothCode.j0
      repeat' first
      | (with_reducible exact ih0 _ _ _ _ _)
      | (with_reducible exact LeO.refl _)
      | (with_reducible exact LeO.none _)
      | (with_reducible refine LeO.ite ?_ ?_)
      | (with_reducible refine LeO.bind ?_ (fun _ => ?_))
      | exact ih0 _ _ _ _ _
      | exact LeO.none _
      | refine LeO.ite ?_ ?_
      | refine LeO.bind ?_ (fun _ => ?_)
theorem impl_bothCode.mono : ∀ a0 a1 a2 a3 k, LeO (impl_bothCode.f k a0 a1 a2 a3) (impl_bothCode.f (k + 1) a0 a1 a2 a3) := by
  intro a0 a1 a2 a3 k
  have ih0 := impl_bothCode.mono_l k
  unfold impl_bothCode.f
  repeat' first
      | (with_reducible exact ih0 _ _ _ _ _)
      | (with_reducible exact LeO.refl _)
      | (with_reducible exact LeO.none _)
      | (with_reducible refine LeO.ite ?_ ?_)
      | (with_reducible refine LeO.bind ?_ (fun _ => ?_))
      | exact ih0 _ _ _ _ _
      | exact LeO.none _
      | refine LeO.ite ?_ ?_
      | refine LeO.bind ?_ (fun _ => ?_)
def impl_bothCode.T3 : Bool × List (List Nat × List Nat) := (true, [([], []), ([0], [0]), ([1], [1]), ([2], [2]), ([3, 2, 2], [2, 3]), ([2], [2]), ([5, 2], [2, 5]), ([4, 6, 2], [2, 4, 6]), ([2, 7], [2, 7]), ([8, 4], [8])])
def impl_bothCode.B3 : List Nat := [0, 1, 3, 7, 15, 7, 39, 127, 255, 511]
theorem impl_bothCode.tab3 : rtab .any (opsOf Try.f118 3) = impl_bothCode.T3 := by kernel_rfl
theorem impl_bothCode.bits3 : waitsOk impl_bothCode.T3.2 impl_bothCode.B3 = true := by kernel_rfl
set_option maxHeartbeats 8000000 in
set_option maxRecDepth 100000 in
theorem impl_bothCode.calls (k : Nat) (a0_0 : Int) (a0_1 : Int) (A1_0 : Option Addr) (c1_0 : Nat) (l1_0 : List Int) (a2 : Bool) (r : Int) (w : World) (hr1_0 : Kd.C (Kd.int .i64) w A1_0 l1_0.length l1_0) (hc1_0 : l1_0.length ≤ c1_0) (h : impl_bothCode.f k a0_0 a0_1 l1_0 a2 = some r) :
    Calls Try.prog 118 #[.agg #[.int .i64 a0_0, .int .i64 a0_1], .agg #[.slice A1_0 l1_0.length c1_0], .bool a2] w fun e w' => e = .returned (.int .i64 r) ∧ Below w.heap.size w w' := by
  have hu42 := Try.underlying42
  have hu67 := Try.underlying67
  have HR1_0 := Aside0.mk hr1_0
  have HC1_0 := Aside0.mk hc1_0
  clear hr1_0 hc1_0
  have HB := Aside0.mk (Below.refl w.heap.size w)
  have H : ((impl_IsGround.f a0_0 a0_1).bind fun t433 => (if t433 = true then ((impl_IsTasks.f l1_0).bind fun t434 => (impl_bothCode.j0 k a2 (!t434) a0_0 a0_1 l1_0)) else (impl_bothCode.j0 k a2 true a0_0 a0_1 l1_0))) = some r := h
  clear h
  have HC4 := Aside0.mk H
  clear H
  go_enter Try.func118, Try.ntmps118
  go_upto_region 1 with (first | ((with_reducible refine gate_dst (N := 3) rfl ?_); refine box_event ?hg (N := 3) ?hd (cs := #[.int .i64 a0_0, .int .i64 a0_1]) (t := 42) ?hr ?_; (case hd => rfl); (case hg => rfl); (case hr => first | (go_simp; done) | (go_simp; rfl)); intro gb431 hg w5 hbox hb; have n0_ := Aside0.mk (below_step (by repeat (first | (with_reducible first | exact HB.out | apply below_alloc | apply pw_below_drewN | apply below_drew1) | exact HB.out)) hb); have n1_ := Aside0.mk (hbox); have n2_ := Aside0.mk ((by rw [hg]; exact (below_size (by repeat (first | (with_reducible first | exact HB.out | apply below_alloc | apply pw_below_drewN | apply below_drew1) | exact HB.out))) : w.heap.size ≤ gb431)); have n3_ := Aside0.mk ((by rw [hg]; exact (below_size (by repeat (first | (with_reducible first | exact HB.out | apply below_alloc | apply pw_below_drewN | apply below_drew1) | exact HB.out))) : w.heap.size ≤ gb431)); clear HB; have HB := n0_; have BK431 := n1_; have GW431 := n2_; have GE431 := n3_; clear n0_ n1_ n2_ n3_; clear hb hbox hg) | ((with_reducible refine gate_dst (N := 4) rfl ?_); refine box_event ?hg (N := 4) ?hd (cs := #[.slice A1_0 l1_0.length c1_0]) (t := 67) ?hr ?_; (case hd => rfl); (case hg => rfl); (case hr => first | (go_simp; done) | (go_simp; rfl)); intro gb432 hg w6 hbox hb; have n0_ := Aside0.mk (blk_below (g := gb431) (o := .cells #[.int .i64 a0_0, .int .i64 a0_1] 42 (0, 0)) (by (with_reducible repeat (first | refine blk_drewN ?_ _ | refine blk_drew ?_ | refine blk_alloc ?_ _)); exact BK431.out) hb); have n1_ := Aside0.mk (below_step (by repeat (first | (with_reducible first | exact HB.out | apply below_alloc | apply pw_below_drewN | apply below_drew1 | refine below_set ?_ GE431.out) | exact HB.out)) hb); have n2_ := Aside0.mk (hbox); have n3_ := Aside0.mk ((by rw [hg]; exact (below_size (by repeat (first | (with_reducible first | exact HB.out | apply below_alloc | apply pw_below_drewN | apply below_drew1 | refine below_set ?_ GE431.out) | exact HB.out))) : w.heap.size ≤ gb432)); have n4_ := Aside0.mk ((by rw [hg]; exact (below_size (by repeat (first | (with_reducible first | exact HB.out | apply below_alloc | apply pw_below_drewN | apply below_drew1 | refine below_set ?_ GE431.out) | exact HB.out))) : w.heap.size ≤ gb432)); have n5_ := Aside0.mk ((by rw [hg]; exact Nat.ne_of_lt (blk_lt (g := gb431) (o := .cells #[.int .i64 a0_0, .int .i64 a0_1] 42 (0, 0)) (by (with_reducible repeat (first | refine blk_drewN ?_ _ | refine blk_drew ?_ | refine blk_alloc ?_ _)); exact BK431.out)) : gb431 ≠ gb432)); have n6_ := Aside0.mk ((by rw [hg]; exact Nat.ne_of_gt (blk_lt (g := gb431) (o := .cells #[.int .i64 a0_0, .int .i64 a0_1] 42 (0, 0)) (by (with_reducible repeat (first | refine blk_drewN ?_ _ | refine blk_drew ?_ | refine blk_alloc ?_ _)); exact BK431.out)) : gb432 ≠ gb431)); clear BK431; clear HB; have BK431 := n0_; have HB := n1_; have BK432 := n2_; have GW432 := n3_; have GE432 := n4_; have NB431_432 := n5_; have NB432_431 := n6_; clear n0_ n1_ n2_ n3_ n4_ n5_ n6_; clear hb hbox hg))
  (try simp only [Act.put, List.setIfInBounds_toArray, List.set_cons_zero, List.set_cons_succ])
  go_cut [7] (fun v7 wc => ∃ (kq : Nat) (x7_3 : Bool), v7 = .bool x7_3 ∧ Aside0 (impl_bothCode.j0 kq a2 x7_3 a0_0 a0_1 l1_0 = some r) ∧ Aside0 (kq ≤ k) ∧ Aside0 (wc.heap[gb431]? = some (.cells #[.int .i64 a0_0, .int .i64 a0_1] 42 (0, 0))) ∧ Aside0 (wc.heap[gb432]? = some (.cells #[(.slice A1_0 l1_0.length c1_0)] 67 (0, 0))) ∧ Aside0 (Below w.heap.size w wc))
  case first =>
    have H := HC4.out
    clear HC4
    replace H := Option.bind_eq_some_iff.mp H
    obtain ⟨t433, A70, H⟩ := H
    replace H : (if t433 = true then ((impl_IsTasks.f l1_0).bind fun t434 => (impl_bothCode.j0 k a2 (!t434) a0_0 a0_1 l1_0)) else (impl_bothCode.j0 k a2 true a0_0 a0_1 l1_0)) = some r := H
    have A7 := Aside0.mk A70
    clear A70
    by_cases c8 : t433 = true
    · subst c8
      have H1 : ((impl_IsTasks.f l1_0).bind fun t434 => (impl_bothCode.j0 k a2 (!t434) a0_0 a0_1 l1_0)) = some r := by rw [if_pos rfl] at H; exact H
      clear H
      have H := H1
      clear H1
      replace H := Option.bind_eq_some_iff.mp H
      obtain ⟨t434, A90, H⟩ := H
      replace H : (impl_bothCode.j0 k a2 (!t434) a0_0 a0_1 l1_0) = some r := H
      have A9 := Aside0.mk A90
      clear A90
      have H' := Aside0.mk H
      clear H
      have hnb10 := NB431_432.out
      have hnc10 := NB432_431.out
      have hcz11_0 : w6.cell? ⟨gb431, 0, none⟩ = some (.int .i64 a0_0) := (blk_cell BK431.out 0).trans rfl
      have hcz11_1 : w6.cell? ⟨gb431, 1, none⟩ = some (.int .i64 a0_1) := (blk_cell BK431.out 1).trans rfl
      have hfz11_0 := blk_frozen BK431.out 0
      have hfz11_1 := blk_frozen BK431.out 1
      go_wp2_with (first | ((with_reducible refine gate_callee (f := 100) rfl ?_); refine goesL_ (some 9) rfl rfl Try.func100 (by kernel_rfl) rfl #[.agg #[.int .i64 a0_0, .int .i64 a0_1]] rfl (by (try simp only [List.map_toArray, List.map_cons, List.map_nil]); first | done | rfl | (simp only [List.length_drop, List.length_take]; rfl)) ?_; (with_reducible refine (impl_IsGround.calls a0_0 a0_1 true _ A7.out).mono ?_); rintro e w12 ⟨rfl, hb⟩; refine ⟨_, rfl, ?_⟩; have n0_ := Aside0.mk (blk_below (g := gb431) (o := .cells #[.int .i64 a0_0, .int .i64 a0_1] 42 (0, 0)) (by (with_reducible repeat (first | refine blk_drewN ?_ _ | refine blk_drew ?_ | refine blk_alloc ?_ _)); exact BK431.out) hb); have n1_ := Aside0.mk (blk_below (g := gb432) (o := .cells #[.slice A1_0 l1_0.length c1_0] 67 (0, 0)) (by (with_reducible repeat (first | refine blk_drewN ?_ _ | refine blk_drew ?_ | refine blk_alloc ?_ _)); exact BK432.out) hb); have n2_ := Aside0.mk (below_step (by repeat (first | (with_reducible first | exact HB.out | apply below_alloc | apply pw_below_drewN | apply below_drew1 | refine below_set ?_ GE431.out | refine below_set ?_ GE432.out) | exact HB.out)) hb); clear BK431; clear BK432; clear HB; have BK431 := n0_; have BK432 := n1_; have HB := n2_; clear n0_ n1_ n2_; (try clear hb); (try clear hb2); (try clear hk); (try clear hi); have hcz13_0 : w12.cell? ⟨gb432, 0, none⟩ = some (.slice A1_0 l1_0.length c1_0) := (blk_cell BK432.out 0).trans rfl; have hfz13_0 := blk_frozen BK432.out 0) | (go_at_call 127; (with_reducible refine (impl_IsTasks.calls _ _ l1_0 t434 _ ?side1 ?side2 A9.out).mono ?_); (case side1 => repeat (first | exact (Kd.C_below HR1_0.out HB.out) | (with_reducible refine Kd.C_alloc ?_ _) | (with_reducible refine Kd.C_drewN ?_ _) | (with_reducible refine Kd.C_drew ?_))); (case side2 => exact HC1_0.out); rintro e w14 ⟨rfl, hb⟩; have n0_ := Aside0.mk (blk_below (g := gb431) (o := .cells #[.int .i64 a0_0, .int .i64 a0_1] 42 (0, 0)) (by (with_reducible repeat (first | refine blk_drewN ?_ _ | refine blk_drew ?_ | refine blk_alloc ?_ _)); exact BK431.out) hb); have n1_ := Aside0.mk (blk_below (g := gb432) (o := .cells #[.slice A1_0 l1_0.length c1_0] 67 (0, 0)) (by (with_reducible repeat (first | refine blk_drewN ?_ _ | refine blk_drew ?_ | refine blk_alloc ?_ _)); exact BK432.out) hb); have n2_ := Aside0.mk (below_step (by repeat (first | (with_reducible first | exact HB.out | apply below_alloc | apply pw_below_drewN | apply below_drew1 | refine below_set ?_ GE431.out | refine below_set ?_ GE432.out) | exact HB.out)) hb); clear BK431; clear BK432; clear HB; have BK431 := n0_; have BK432 := n1_; have HB := n2_; clear n0_ n1_ n2_; (try clear hb); (try clear hb2); (try clear hk); (try clear hi)))
      go_meet
      case rel => exact ⟨_, (!t434), (by first | rfl | (simp; done) | (simp [*]; done)), H', ⟨by first | omega | exact Nat.le_refl _⟩, ⟨by (with_reducible repeat (first | refine blk_drewN ?_ _ | refine blk_drew ?_ | refine blk_alloc ?_ _)); exact BK431.out⟩, ⟨by (with_reducible repeat (first | refine blk_drewN ?_ _ | refine blk_drew ?_ | refine blk_alloc ?_ _)); exact BK432.out⟩, ⟨by repeat (first | (with_reducible first | exact HB.out | apply below_alloc | apply pw_below_drewN | apply below_drew1 | refine below_set ?_ GE431.out | refine below_set ?_ GE432.out) | exact HB.out)⟩⟩
    · replace c8 := Bool.eq_false_iff.mpr c8
      subst c8
      have H1 : (impl_bothCode.j0 k a2 true a0_0 a0_1 l1_0) = some r := by rw [if_neg (show ¬ (false = true) by decide)] at H; exact H
      clear H
      have H := H1
      clear H1
      have H' := Aside0.mk H
      clear H
      have hnb15 := NB431_432.out
      have hnc15 := NB432_431.out
      have hcz16_0 : w6.cell? ⟨gb431, 0, none⟩ = some (.int .i64 a0_0) := (blk_cell BK431.out 0).trans rfl
      have hcz16_1 : w6.cell? ⟨gb431, 1, none⟩ = some (.int .i64 a0_1) := (blk_cell BK431.out 1).trans rfl
      have hfz16_0 := blk_frozen BK431.out 0
      have hfz16_1 := blk_frozen BK431.out 1
      go_wp2_with (first | ((with_reducible refine gate_callee (f := 100) rfl ?_); refine goesL_ (some 9) rfl rfl Try.func100 (by kernel_rfl) rfl #[.agg #[.int .i64 a0_0, .int .i64 a0_1]] rfl (by (try simp only [List.map_toArray, List.map_cons, List.map_nil]); first | done | rfl | (simp only [List.length_drop, List.length_take]; rfl)) ?_; (with_reducible refine (impl_IsGround.calls a0_0 a0_1 false _ A7.out).mono ?_); rintro e w17 ⟨rfl, hb⟩; refine ⟨_, rfl, ?_⟩; have n0_ := Aside0.mk (blk_below (g := gb431) (o := .cells #[.int .i64 a0_0, .int .i64 a0_1] 42 (0, 0)) (by (with_reducible repeat (first | refine blk_drewN ?_ _ | refine blk_drew ?_ | refine blk_alloc ?_ _)); exact BK431.out) hb); have n1_ := Aside0.mk (blk_below (g := gb432) (o := .cells #[.slice A1_0 l1_0.length c1_0] 67 (0, 0)) (by (with_reducible repeat (first | refine blk_drewN ?_ _ | refine blk_drew ?_ | refine blk_alloc ?_ _)); exact BK432.out) hb); have n2_ := Aside0.mk (below_step (by repeat (first | (with_reducible first | exact HB.out | apply below_alloc | apply pw_below_drewN | apply below_drew1 | refine below_set ?_ GE431.out | refine below_set ?_ GE432.out) | exact HB.out)) hb); clear BK431; clear BK432; clear HB; have BK431 := n0_; have BK432 := n1_; have HB := n2_; clear n0_ n1_ n2_; (try clear hb); (try clear hb2); (try clear hk); (try clear hi)))
      go_meet
      case rel => exact ⟨_, (true), (by first | rfl | (simp; done) | (simp [*]; done)), H', ⟨by first | omega | exact Nat.le_refl _⟩, ⟨by (with_reducible repeat (first | refine blk_drewN ?_ _ | refine blk_drew ?_ | refine blk_alloc ?_ _)); exact BK431.out⟩, ⟨by (with_reducible repeat (first | refine blk_drewN ?_ _ | refine blk_drew ?_ | refine blk_alloc ?_ _)); exact BK432.out⟩, ⟨by repeat (first | (with_reducible first | exact HB.out | apply below_alloc | apply pw_below_drewN | apply below_drew1 | refine below_set ?_ GE431.out | refine below_set ?_ GE432.out) | exact HB.out)⟩⟩
  case rest =>
    clear HC4
    try clear c1
    try clear p2
    try clear c8
    try clear c10
    try clear c11
    try clear c15
    try clear hcz11_0
    try clear hcz11_1
    try clear hcz13_0
    try clear hcz16_0
    try clear hcz16_1
    try clear hfz11_0
    try clear hfz11_1
    try clear hfz13_0
    try clear hfz16_0
    try clear hfz16_1
    obtain ⟨kq, x7_3, rfl, HA, HJ3, BK431, BK432, HB⟩ := hcut
    cases kq with
    | zero => exact absurd HA.out (by simp [impl_bothCode.j0])
    | succ kj3 =>
      have H := HA.out
      clear HA
      simp only [impl_bothCode.j0] at H
      by_cases c18 : x7_3 = true
      · subst c18
        have H1 : (some 1) = some r := by rw [if_pos rfl] at H; exact H
        clear H
        have H := H1
        clear H1
        obtain rfl := Option.some.inj H
        go_wp2
        go_ret
        exact ⟨by first | rfl | (simp [errW_none, errW_some] <;> rfl) | (simp [*, errW_none, errW_some] <;> rfl), by repeat (first | (with_reducible first | exact HB.out | apply below_alloc | apply pw_below_drewN | apply below_drew1 | refine below_set ?_ GE431.out | refine below_set ?_ GE432.out) | exact HB.out)⟩
      · replace c18 := Bool.eq_false_iff.mpr c18
        subst c18
        have H1 : (if a2 = true then ((impl_Tasks_many.f l1_0).bind fun t435 => (if t435 = a0_0 then (some 0) else (some 2))) else (some 2)) = some r := by rw [if_neg (show ¬ (false = true) by decide)] at H; exact H
        clear H
        have H := H1
        clear H1
        by_cases c19 : a2 = true
        · subst c19
          have H1 : ((impl_Tasks_many.f l1_0).bind fun t435 => (if t435 = a0_0 then (some 0) else (some 2))) = some r := by rw [if_pos rfl] at H; exact H
          clear H
          have H := H1
          clear H1
          replace H := Option.bind_eq_some_iff.mp H
          obtain ⟨t435, A200, H⟩ := H
          replace H : (if t435 = a0_0 then (some 0) else (some 2)) = some r := H
          have A20 := Aside0.mk A200
          clear A200
          by_cases c21 : t435 = a0_0
          · rw [if_pos c21] at H
            have c21b0 : (t435 == a0_0) = true := beq_iff_eq.mpr c21
            have c21b1 : (t435 != a0_0) = false := bne_eq_false_iff_eq.mpr c21
            clear c21
            obtain rfl := Option.some.inj H
            try go_wp2
            have n0_ := Aside0.mk (blk_drew BK431.out)
            have n1_ := Aside0.mk (blk_drew BK432.out)
            have n2_ := Aside0.mk (below_drew1 HB.out)
            clear BK431
            clear BK432
            clear HB
            have BK431 := n0_
            have BK432 := n1_
            have HB := n2_
            clear n0_ n1_ n2_
            refine start_ (n := 10) (S := fun w' => w'.cell? ⟨gb432, 0, none⟩ = some (.slice A1_0 l1_0.length c1_0) ∧ w'.cell? ⟨gb431, 0, none⟩ = some (.int .i64 a0_0) ∧ w'.cell? ⟨gb431, 1, none⟩ = some (.int .i64 a0_1)) (ds := []) #[false, false, false, false, false, false, false, false, false, false] (by kernel_rfl) rfl rfl ⟨(blk_cell BK432.out 0).trans rfl, (blk_cell BK431.out 0).trans rfl, (blk_cell BK431.out 1).trans rfl⟩ (fun hHeld => ?_); refine with_tabW impl_bothCode.tab3 impl_bothCode.bits3 (fun HT_ HW_ => ?_)
            generalize wc.drew = w22 at BK431 BK432 HB hHeld ⊢
            refine pure_ (i := 0) (N := some 17) (v := ?_) (a' := ?_) #[true, false, false, false, false, false, false, false, false, false] rfl rfl (any_of HT_.out (by kernel_rfl)) (fun _ _ _ h => h) (Or.inl ⟨by rfl, ?_⟩) ?_ ?_
            rotate_left
            · intro w'
              go_simp
              with_reducible rfl
            rotate_left
            · simp only [Act.put, List.setIfInBounds_toArray, List.set_cons_zero, List.set_cons_succ, i64_w, i32_w]
              rfl
            refine pure_ (i := 1) (N := some 18) (v := ?_) (a' := ?_) #[true, true, false, false, false, false, false, false, false, false] rfl rfl (any_of HT_.out (by kernel_rfl)) (fun _ _ _ h => h) (Or.inl ⟨by rfl, ?_⟩) ?_ ?_
            rotate_left
            · intro w'
              go_simp
              with_reducible rfl
            rotate_left
            · simp only [Act.put, List.setIfInBounds_toArray, List.set_cons_zero, List.set_cons_succ, i64_w, i32_w]
              rfl
            refine pure_ (i := 2) (N := some 19) (v := ?_) (a' := ?_) #[true, true, true, false, false, false, false, false, false, false] rfl rfl (any_of HT_.out (by kernel_rfl)) (fun _ _ _ h => h) (Or.inl ⟨by rfl, ?_⟩) ?_ ?_
            rotate_left
            · intro w'
              go_simp
              with_reducible rfl
            rotate_left
            · simp only [Act.put, List.setIfInBounds_toArray, List.set_cons_zero, List.set_cons_succ, i64_w, i32_w]
              rfl
            refine pure_ (i := 5) (N := some 22) (v := ?_) (a' := ?_) #[true, true, true, false, false, true, false, false, false, false] rfl rfl (any_of HT_.out (by kernel_rfl)) (fun _ _ _ h => h) (Or.inl ⟨by rfl, ?_⟩) ?_ ?_
            rotate_left
            · intro w'
              go_simp
              with_reducible rfl
            rotate_left
            · simp only [Act.put, List.setIfInBounds_toArray, List.set_cons_zero, List.set_cons_succ, i64_w, i32_w]
              rfl
            refine take_ (i := 3) (N := some 20) (v := ?_) (a' := ?_) #[true, true, true, true, false, true, false, false, false, false] rfl rfl (take_ofW HT_.out HW_.out (by kernel_rfl)) (fun _ _ _ h => h) (Or.inl ⟨by rfl, ?_⟩) hHeld ?_ ?_
            rotate_left
            · rintro w' ⟨s0, s1, s2⟩
              go_simp
              with_reducible rfl
            rotate_left
            · simp only [Act.put, List.setIfInBounds_toArray, List.set_cons_zero, List.set_cons_succ, i64_w, i32_w]
              rfl
            refine take_ (i := 6) (N := some 23) (v := ?_) (a' := ?_) #[true, true, true, true, false, true, true, false, false, false] rfl rfl (take_ofW HT_.out HW_.out (by kernel_rfl)) (fun _ _ _ h => h) (Or.inl ⟨by rfl, ?_⟩) hHeld ?_ ?_
            rotate_left
            · rintro w' ⟨s0, s1, s2⟩
              go_simp
              with_reducible rfl
            rotate_left
            · simp only [Act.put, List.setIfInBounds_toArray, List.set_cons_zero, List.set_cons_succ, i64_w, i32_w]
              rfl
            refine one_ (i := 4) (N := some 21) #[true, true, true, true, true, true, true, false, false, false] rfl rfl (one_of HT_.out (by kernel_rfl)) (by decide) (fun K hK => ?_)
            refine goes_ Try.func93 (by kernel_rfl) rfl #[.agg #[.slice A1_0 l1_0.length c1_0]] (by rfl) rfl rfl (by (try simp only [List.map_toArray, List.map_cons, List.map_nil]); first | done | rfl | (simp only [List.length_drop, List.length_take]; rfl)) ?_
            with_reducible refine (impl_Tasks_many.calls _ _ l1_0 t435 _ ?side1 ?side2 A20.out).mono ?_
            (case side1 => repeat (first | exact (Kd.C_below HR1_0.out HB.out) | (with_reducible refine Kd.C_alloc ?_ _) | (with_reducible refine Kd.C_drewN ?_ _) | (with_reducible refine Kd.C_drew ?_)))
            (case side2 => exact HC1_0.out)
            rintro e w23 ⟨rfl, hb⟩
            refine ⟨_, rfl, ?_⟩
            have n0_ := Aside0.mk (blk_below (g := gb431) (o := .cells #[.int .i64 a0_0, .int .i64 a0_1] 42 (0, 0)) (by (with_reducible repeat (first | refine blk_drewN ?_ _ | refine blk_drew ?_ | refine blk_alloc ?_ _)); exact BK431.out) hb)
            have n1_ := Aside0.mk (blk_below (g := gb432) (o := .cells #[.slice A1_0 l1_0.length c1_0] 67 (0, 0)) (by (with_reducible repeat (first | refine blk_drewN ?_ _ | refine blk_drew ?_ | refine blk_alloc ?_ _)); exact BK432.out) hb)
            have n2_ := Aside0.mk (below_step (by repeat (first | (with_reducible first | exact HB.out | apply below_alloc | apply pw_below_drewN | apply below_drew1 | refine below_set ?_ GE431.out | refine below_set ?_ GE432.out) | exact HB.out)) hb)
            clear BK431
            clear BK432
            clear HB
            have BK431 := n0_
            have BK432 := n1_
            have HB := n2_
            clear n0_ n1_ n2_
            (try clear hb)
            (try clear hb2)
            (try clear hk)
            (try clear hi)
            refine hK.out _ _ ⟨(blk_cell BK432.out 0).trans rfl, (blk_cell BK431.out 0).trans rfl, (blk_cell BK431.out 1).trans rfl⟩ (fun hHeld => ?_)
            clear hK K
            refine norm_ (a' := ?_) ?_ ?_
            rotate_left
            · show Act.put _ (some 21) _ = _
              simp only [Act.put, List.setIfInBounds_toArray, List.set_cons_zero, List.set_cons_succ, i64_w, i32_w]
              rfl
            refine pure_ (i := 7) (N := some 24) (v := ?_) (a' := ?_) #[true, true, true, true, true, true, true, true, false, false] rfl rfl (any_of HT_.out (by kernel_rfl)) (fun _ _ _ h => h) (Or.inl ⟨by rfl, ?_⟩) ?_ ?_
            rotate_left
            · intro w'
              go_simp
              with_reducible rfl
            rotate_left
            · simp only [Act.put, List.setIfInBounds_toArray, List.set_cons_zero, List.set_cons_succ, i64_w, i32_w]
              rfl
            refine pure_ (i := 8) (N := some 25) (v := ?_) (a' := ?_) #[true, true, true, true, true, true, true, true, true, false] rfl rfl (any_of HT_.out (by kernel_rfl)) (fun _ _ _ h => h) (Or.inl ⟨by rfl, ?_⟩) ?_ ?_
            rotate_left
            · intro w'
              go_simp
              with_reducible rfl
            rotate_left
            · simp only [Act.put, List.setIfInBounds_toArray, List.set_cons_zero, List.set_cons_succ, i64_w, i32_w]
              rfl
            refine pure_ (i := 9) (N := some 16) (v := ?_) (a' := ?_) #[true, true, true, true, true, true, true, true, true, true] rfl rfl (any_of HT_.out (by kernel_rfl)) (fun _ _ _ h => h) (Or.inl ⟨by rfl, ?_⟩) ?_ ?_
            rotate_left
            · intro w'
              go_simp
              with_reducible rfl
            rotate_left
            · simp only [Act.put, List.setIfInBounds_toArray, List.set_cons_zero, List.set_cons_succ, i64_w, i32_w]
              rfl
            refine done_ (done_of HT_.out (by kernel_rfl)) ?_
            try go_wp2
            go_ret
            exact ⟨by first | rfl | (simp [errW_none, errW_some] <;> rfl) | (simp [*, errW_none, errW_some] <;> rfl), by repeat (first | (with_reducible first | exact HB.out | apply below_alloc | apply pw_below_drewN | apply below_drew1 | refine below_set ?_ GE431.out | refine below_set ?_ GE432.out) | exact HB.out)⟩
          · rw [if_neg c21] at H
            have c21b0 : (t435 == a0_0) = false := beq_eq_false_iff_ne.mpr c21
            have c21b1 : (t435 != a0_0) = true := bne_iff_ne.mpr c21
            obtain rfl := Option.some.inj H
            try go_wp2
            have n0_ := Aside0.mk (blk_drew BK431.out)
            have n1_ := Aside0.mk (blk_drew BK432.out)
            have n2_ := Aside0.mk (below_drew1 HB.out)
            clear BK431
            clear BK432
            clear HB
            have BK431 := n0_
            have BK432 := n1_
            have HB := n2_
            clear n0_ n1_ n2_
            refine start_ (n := 10) (S := fun w' => w'.cell? ⟨gb432, 0, none⟩ = some (.slice A1_0 l1_0.length c1_0) ∧ w'.cell? ⟨gb431, 0, none⟩ = some (.int .i64 a0_0) ∧ w'.cell? ⟨gb431, 1, none⟩ = some (.int .i64 a0_1)) (ds := []) #[false, false, false, false, false, false, false, false, false, false] (by kernel_rfl) rfl rfl ⟨(blk_cell BK432.out 0).trans rfl, (blk_cell BK431.out 0).trans rfl, (blk_cell BK431.out 1).trans rfl⟩ (fun hHeld => ?_); refine with_tabW impl_bothCode.tab3 impl_bothCode.bits3 (fun HT_ HW_ => ?_)
            generalize wc.drew = w24 at BK431 BK432 HB hHeld ⊢
            refine pure_ (i := 0) (N := some 17) (v := ?_) (a' := ?_) #[true, false, false, false, false, false, false, false, false, false] rfl rfl (any_of HT_.out (by kernel_rfl)) (fun _ _ _ h => h) (Or.inl ⟨by rfl, ?_⟩) ?_ ?_
            rotate_left
            · intro w'
              go_simp
              with_reducible rfl
            rotate_left
            · simp only [Act.put, List.setIfInBounds_toArray, List.set_cons_zero, List.set_cons_succ, i64_w, i32_w]
              rfl
            refine pure_ (i := 1) (N := some 18) (v := ?_) (a' := ?_) #[true, true, false, false, false, false, false, false, false, false] rfl rfl (any_of HT_.out (by kernel_rfl)) (fun _ _ _ h => h) (Or.inl ⟨by rfl, ?_⟩) ?_ ?_
            rotate_left
            · intro w'
              go_simp
              with_reducible rfl
            rotate_left
            · simp only [Act.put, List.setIfInBounds_toArray, List.set_cons_zero, List.set_cons_succ, i64_w, i32_w]
              rfl
            refine pure_ (i := 2) (N := some 19) (v := ?_) (a' := ?_) #[true, true, true, false, false, false, false, false, false, false] rfl rfl (any_of HT_.out (by kernel_rfl)) (fun _ _ _ h => h) (Or.inl ⟨by rfl, ?_⟩) ?_ ?_
            rotate_left
            · intro w'
              go_simp
              with_reducible rfl
            rotate_left
            · simp only [Act.put, List.setIfInBounds_toArray, List.set_cons_zero, List.set_cons_succ, i64_w, i32_w]
              rfl
            refine pure_ (i := 5) (N := some 22) (v := ?_) (a' := ?_) #[true, true, true, false, false, true, false, false, false, false] rfl rfl (any_of HT_.out (by kernel_rfl)) (fun _ _ _ h => h) (Or.inl ⟨by rfl, ?_⟩) ?_ ?_
            rotate_left
            · intro w'
              go_simp
              with_reducible rfl
            rotate_left
            · simp only [Act.put, List.setIfInBounds_toArray, List.set_cons_zero, List.set_cons_succ, i64_w, i32_w]
              rfl
            refine take_ (i := 3) (N := some 20) (v := ?_) (a' := ?_) #[true, true, true, true, false, true, false, false, false, false] rfl rfl (take_ofW HT_.out HW_.out (by kernel_rfl)) (fun _ _ _ h => h) (Or.inl ⟨by rfl, ?_⟩) hHeld ?_ ?_
            rotate_left
            · rintro w' ⟨s0, s1, s2⟩
              go_simp
              with_reducible rfl
            rotate_left
            · simp only [Act.put, List.setIfInBounds_toArray, List.set_cons_zero, List.set_cons_succ, i64_w, i32_w]
              rfl
            refine take_ (i := 6) (N := some 23) (v := ?_) (a' := ?_) #[true, true, true, true, false, true, true, false, false, false] rfl rfl (take_ofW HT_.out HW_.out (by kernel_rfl)) (fun _ _ _ h => h) (Or.inl ⟨by rfl, ?_⟩) hHeld ?_ ?_
            rotate_left
            · rintro w' ⟨s0, s1, s2⟩
              go_simp
              with_reducible rfl
            rotate_left
            · simp only [Act.put, List.setIfInBounds_toArray, List.set_cons_zero, List.set_cons_succ, i64_w, i32_w]
              rfl
            refine one_ (i := 4) (N := some 21) #[true, true, true, true, true, true, true, false, false, false] rfl rfl (one_of HT_.out (by kernel_rfl)) (by decide) (fun K hK => ?_)
            refine goes_ Try.func93 (by kernel_rfl) rfl #[.agg #[.slice A1_0 l1_0.length c1_0]] (by rfl) rfl rfl (by (try simp only [List.map_toArray, List.map_cons, List.map_nil]); first | done | rfl | (simp only [List.length_drop, List.length_take]; rfl)) ?_
            with_reducible refine (impl_Tasks_many.calls _ _ l1_0 t435 _ ?side1 ?side2 A20.out).mono ?_
            (case side1 => repeat (first | exact (Kd.C_below HR1_0.out HB.out) | (with_reducible refine Kd.C_alloc ?_ _) | (with_reducible refine Kd.C_drewN ?_ _) | (with_reducible refine Kd.C_drew ?_)))
            (case side2 => exact HC1_0.out)
            rintro e w25 ⟨rfl, hb⟩
            refine ⟨_, rfl, ?_⟩
            have n0_ := Aside0.mk (blk_below (g := gb431) (o := .cells #[.int .i64 a0_0, .int .i64 a0_1] 42 (0, 0)) (by (with_reducible repeat (first | refine blk_drewN ?_ _ | refine blk_drew ?_ | refine blk_alloc ?_ _)); exact BK431.out) hb)
            have n1_ := Aside0.mk (blk_below (g := gb432) (o := .cells #[.slice A1_0 l1_0.length c1_0] 67 (0, 0)) (by (with_reducible repeat (first | refine blk_drewN ?_ _ | refine blk_drew ?_ | refine blk_alloc ?_ _)); exact BK432.out) hb)
            have n2_ := Aside0.mk (below_step (by repeat (first | (with_reducible first | exact HB.out | apply below_alloc | apply pw_below_drewN | apply below_drew1 | refine below_set ?_ GE431.out | refine below_set ?_ GE432.out) | exact HB.out)) hb)
            clear BK431
            clear BK432
            clear HB
            have BK431 := n0_
            have BK432 := n1_
            have HB := n2_
            clear n0_ n1_ n2_
            (try clear hb)
            (try clear hb2)
            (try clear hk)
            (try clear hi)
            refine hK.out _ _ ⟨(blk_cell BK432.out 0).trans rfl, (blk_cell BK431.out 0).trans rfl, (blk_cell BK431.out 1).trans rfl⟩ (fun hHeld => ?_)
            clear hK K
            refine norm_ (a' := ?_) ?_ ?_
            rotate_left
            · show Act.put _ (some 21) _ = _
              simp only [Act.put, List.setIfInBounds_toArray, List.set_cons_zero, List.set_cons_succ, i64_w, i32_w]
              rfl
            refine pure_ (i := 7) (N := some 24) (v := ?_) (a' := ?_) #[true, true, true, true, true, true, true, true, false, false] rfl rfl (any_of HT_.out (by kernel_rfl)) (fun _ _ _ h => h) (Or.inl ⟨by rfl, ?_⟩) ?_ ?_
            rotate_left
            · intro w'
              go_simp
              with_reducible rfl
            rotate_left
            · simp only [Act.put, List.setIfInBounds_toArray, List.set_cons_zero, List.set_cons_succ, i64_w, i32_w]
              rfl
            refine pure_ (i := 8) (N := some 25) (v := ?_) (a' := ?_) #[true, true, true, true, true, true, true, true, true, false] rfl rfl (any_of HT_.out (by kernel_rfl)) (fun _ _ _ h => h) (Or.inl ⟨by rfl, ?_⟩) ?_ ?_
            rotate_left
            · intro w'
              go_simp
              with_reducible rfl
            rotate_left
            · simp only [Act.put, List.setIfInBounds_toArray, List.set_cons_zero, List.set_cons_succ, i64_w, i32_w]
              rfl
            refine pure_ (i := 9) (N := some 16) (v := ?_) (a' := ?_) #[true, true, true, true, true, true, true, true, true, true] rfl rfl (any_of HT_.out (by kernel_rfl)) (fun _ _ _ h => h) (Or.inl ⟨by rfl, ?_⟩) ?_ ?_
            rotate_left
            · intro w'
              go_simp
              with_reducible rfl
            rotate_left
            · simp only [Act.put, List.setIfInBounds_toArray, List.set_cons_zero, List.set_cons_succ, i64_w, i32_w]
              rfl
            refine done_ (done_of HT_.out (by kernel_rfl)) ?_
            try go_wp2
            go_ret
            exact ⟨by first | rfl | (simp [errW_none, errW_some] <;> rfl) | (simp [*, errW_none, errW_some] <;> rfl), by repeat (first | (with_reducible first | exact HB.out | apply below_alloc | apply pw_below_drewN | apply below_drew1 | refine below_set ?_ GE431.out | refine below_set ?_ GE432.out) | exact HB.out)⟩
        · replace c19 := Bool.eq_false_iff.mpr c19
          subst c19
          have H1 : (some 2) = some r := by rw [if_neg (show ¬ (false = true) by decide)] at H; exact H
          clear H
          have H := H1
          clear H1
          obtain rfl := Option.some.inj H
          try go_wp2
          have n0_ := Aside0.mk (blk_drew BK431.out)
          have n1_ := Aside0.mk (blk_drew BK432.out)
          have n2_ := Aside0.mk (below_drew1 HB.out)
          clear BK431
          clear BK432
          clear HB
          have BK431 := n0_
          have BK432 := n1_
          have HB := n2_
          clear n0_ n1_ n2_
          refine start_ (n := 10) (S := fun w' => True) (ds := []) #[false, false, false, false, false, false, false, false, false, false] (by kernel_rfl) rfl rfl trivial (fun hHeld => ?_); refine with_tabW impl_bothCode.tab3 impl_bothCode.bits3 (fun HT_ HW_ => ?_)
          generalize wc.drew = w26 at BK431 BK432 HB hHeld ⊢
          refine pure_ (i := 0) (N := some 17) (v := ?_) (a' := ?_) #[true, false, false, false, false, false, false, false, false, false] rfl rfl (any_of HT_.out (by kernel_rfl)) (fun _ _ _ h => h) (Or.inl ⟨by rfl, ?_⟩) ?_ ?_
          rotate_left
          · intro w'
            go_simp
            with_reducible rfl
          rotate_left
          · simp only [Act.put, List.setIfInBounds_toArray, List.set_cons_zero, List.set_cons_succ, i64_w, i32_w]
            rfl
          refine pure_ (i := 1) (N := some 18) (v := ?_) (a' := ?_) #[true, true, false, false, false, false, false, false, false, false] rfl rfl (any_of HT_.out (by kernel_rfl)) (fun _ _ _ h => h) (Or.inl ⟨by rfl, ?_⟩) ?_ ?_
          rotate_left
          · intro w'
            go_simp
            with_reducible rfl
          rotate_left
          · simp only [Act.put, List.setIfInBounds_toArray, List.set_cons_zero, List.set_cons_succ, i64_w, i32_w]
            rfl
          refine pure_ (i := 2) (N := some 19) (v := ?_) (a' := ?_) #[true, true, true, false, false, false, false, false, false, false] rfl rfl (any_of HT_.out (by kernel_rfl)) (fun _ _ _ h => h) (Or.inl ⟨by rfl, ?_⟩) ?_ ?_
          rotate_left
          · intro w'
            go_simp
            with_reducible rfl
          rotate_left
          · simp only [Act.put, List.setIfInBounds_toArray, List.set_cons_zero, List.set_cons_succ, i64_w, i32_w]
            rfl
          refine pure_ (i := 3) (N := some 20) (v := undef) (a' := ?_) #[true, true, true, true, false, false, false, false, false, false] rfl rfl (any_of HT_.out (by kernel_rfl)) (fun _ _ _ h => h) (Or.inr ⟨by rfl, rfl⟩) ?_ ?_
          rotate_left
          · simp only [Act.put, List.setIfInBounds_toArray, List.set_cons_zero, List.set_cons_succ, i64_w, i32_w]
            rfl
          refine pure_ (i := 4) (N := some 21) (v := undef) (a' := ?_) #[true, true, true, true, true, false, false, false, false, false] rfl rfl (any_of HT_.out (by kernel_rfl)) (fun _ _ _ h => h) (Or.inr ⟨by rfl, rfl⟩) ?_ ?_
          rotate_left
          · simp only [Act.put, List.setIfInBounds_toArray, List.set_cons_zero, List.set_cons_succ, i64_w, i32_w]
            rfl
          refine pure_ (i := 5) (N := some 22) (v := undef) (a' := ?_) #[true, true, true, true, true, true, false, false, false, false] rfl rfl (any_of HT_.out (by kernel_rfl)) (fun _ _ _ h => h) (Or.inr ⟨by rfl, rfl⟩) ?_ ?_
          rotate_left
          · simp only [Act.put, List.setIfInBounds_toArray, List.set_cons_zero, List.set_cons_succ, i64_w, i32_w]
            rfl
          refine pure_ (i := 6) (N := some 23) (v := undef) (a' := ?_) #[true, true, true, true, true, true, true, false, false, false] rfl rfl (any_of HT_.out (by kernel_rfl)) (fun _ _ _ h => h) (Or.inr ⟨by rfl, rfl⟩) ?_ ?_
          rotate_left
          · simp only [Act.put, List.setIfInBounds_toArray, List.set_cons_zero, List.set_cons_succ, i64_w, i32_w]
            rfl
          refine pure_ (i := 7) (N := some 24) (v := undef) (a' := ?_) #[true, true, true, true, true, true, true, true, false, false] rfl rfl (any_of HT_.out (by kernel_rfl)) (fun _ _ _ h => h) (Or.inr ⟨by rfl, rfl⟩) ?_ ?_
          rotate_left
          · simp only [Act.put, List.setIfInBounds_toArray, List.set_cons_zero, List.set_cons_succ, i64_w, i32_w]
            rfl
          refine pure_ (i := 8) (N := some 25) (v := ?_) (a' := ?_) #[true, true, true, true, true, true, true, true, true, false] rfl rfl (any_of HT_.out (by kernel_rfl)) (fun _ _ _ h => h) (Or.inl ⟨by rfl, ?_⟩) ?_ ?_
          rotate_left
          · intro w'
            go_simp
            with_reducible rfl
          rotate_left
          · simp only [Act.put, List.setIfInBounds_toArray, List.set_cons_zero, List.set_cons_succ, i64_w, i32_w]
            rfl
          refine pure_ (i := 9) (N := some 16) (v := ?_) (a' := ?_) #[true, true, true, true, true, true, true, true, true, true] rfl rfl (any_of HT_.out (by kernel_rfl)) (fun _ _ _ h => h) (Or.inl ⟨by rfl, ?_⟩) ?_ ?_
          rotate_left
          · intro w'
            go_simp
            with_reducible rfl
          rotate_left
          · simp only [Act.put, List.setIfInBounds_toArray, List.set_cons_zero, List.set_cons_succ, i64_w, i32_w]
            rfl
          refine done_ (done_of HT_.out (by kernel_rfl)) ?_
          try go_wp2
          go_ret
          exact ⟨by first | rfl | (simp [errW_none, errW_some] <;> rfl) | (simp [*, errW_none, errW_some] <;> rfl), by repeat (first | (with_reducible first | exact HB.out | apply below_alloc | apply pw_below_drewN | apply below_drew1 | refine below_set ?_ GE431.out | refine below_set ?_ GE432.out) | exact HB.out)⟩

end Go.Proofs.Ytoakdilhljnjfaa.Q
/- impl.watched and impl.CanWatch: they come to what their parts come to. -/
namespace Go.Proofs.Ytoakdilhljnjfaa.Q
open Go.RowKit Go.Proofs.YtoakdilhljnjfaaW.PrintWords Go.Proofs.YtoakdilhljnjfaaW.PrintLast Go.Proofs.YtoakdilhljnjfaaW.PrintMore
set_option linter.unusedVariables false
set_option linter.unusedSimpArgs false

/-- What impl.watched comes to: the states that are safe, or a code. -/
def impl_watched.f (k : Nat) (P R : Int) (gaps : List Int) : Option (List Bool ⊕ Int) :=
  (impl_bothCode.f k P R gaps true).bind fun code => if code = 0 then ((impl_Tasks_states.f k gaps).bind fun s => if 20000 < wrap64 (P * s) then some (.inr 3) else (impl_watchOf.f k P R gaps).bind fun safe => some (.inl safe)) else some (.inr code)
theorem impl_watched.mono : ∀ a0 a1 a2 k, LeO (impl_watched.f k a0 a1 a2) (impl_watched.f (k + 1) a0 a1 a2) := by
  intro a0 a1 a2 k
  unfold impl_watched.f
  exact LeO.bind (impl_bothCode.mono _ _ _ _ _) fun _ => LeO.ite (LeO.bind (impl_Tasks_states.mono _ _) fun _ => LeO.ite (LeO.refl _) (LeO.bind (impl_watchOf.mono _ _ _ _) fun _ => LeO.refl _)) (LeO.refl _)
def WRes (w : World) (P R : Int) (A2 : Option Addr) (c2 : Nat) (gaps : List Int) : List Bool ⊕ Int → Ending → World → Prop
  | .inr code, e, w' => (code ≠ 0 ∧ e = .returned (.tuple #[.pointer none, .int .i64 code])) ∧ Below w.heap.size w w'
  | .inl r, e, w' => ∃ gw nv A4 c4, e = .returned (.tuple #[.pointer (some ⟨gw, 0, none⟩), .int .i64 0]) ∧ WBlk w' gw P R A2 c2 gaps nv (.slice A4 r.length c4) ∧ Kd.C Kd.bool w' A4 r.length r ∧ Below w.heap.size w w'
theorem WRes.code {w : World} {P R : Int} {A2 : Option Addr} {c2 : Nat} {gaps : List Int} {c : Int} {e : Ending} {w' : World} (h : (c ≠ 0 ∧ e = .returned (.tuple #[.pointer none, .int .i64 c])) ∧ Below w.heap.size w w') : WRes w P R A2 c2 gaps (.inr c) e w' := h
theorem WRes.safe {w : World} {P R : Int} {A2 : Option Addr} {c2 : Nat} {gaps : List Int} {r : List Bool} {e : Ending} {w' : World} (h : ∃ gw nv A4 c4, e = .returned (.tuple #[.pointer (some ⟨gw, 0, none⟩), .int .i64 0]) ∧ WBlk w' gw P R A2 c2 gaps nv (.slice A4 r.length c4) ∧ Kd.C Kd.bool w' A4 r.length r ∧ Below w.heap.size w w') : WRes w P R A2 c2 gaps (.inl r) e w' := h

set_option maxHeartbeats 3200000 in
set_option maxRecDepth 100000 in
theorem impl_watched.calls (k : Nat) (P R : Int) (A2 : Option Addr) (c2 : Nat) (gaps : List Int) (r : List Bool ⊕ Int) (w : World) (hr : Kd.C (Kd.int .i64) w A2 gaps.length gaps) (hc : gaps.length ≤ c2) (h : impl_watched.f k P R gaps = some r) :
    Calls Try.prog 101 #[.agg #[.int .i64 P, .int .i64 R], .agg #[.slice A2 gaps.length c2]] w fun e w' => WRes w P R A2 c2 gaps r e w' := by
  have hu1 := Try.underlying67
  have hu2 := Try.underlying42
  have HR := Aside0.mk hr
  have HC := Aside0.mk hc
  unfold impl_watched.f at h
  obtain ⟨code, e0, h⟩ := Option.bind_eq_some_iff.mp h
  have E0 := Aside0.mk e0
  clear hr hc e0
  by_cases h0 : code = 0
  · subst h0
    rw [if_pos rfl] at h
    obtain ⟨s, e1, h⟩ := Option.bind_eq_some_iff.mp h
    have E1 := Aside0.mk e1
    clear e1
    by_cases hl : 20000 < wrap64 (P * s)
    · rw [if_pos hl] at h
      obtain rfl := Option.some.inj h
      have hld : decide (20000 < wrap64 (P * s)) = true := decide_eq_true hl
      clear h hl
      go_enter Try.func101, Try.ntmps101
      go_wp2_with (first | ((with_reducible refine gate_dst (N := 2) rfl ?_); refine box_event ?hg (N := 2) ?hd (cs := #[.int .i64 P, .int .i64 R]) (t := 42) ?hr ?_; (case hd => rfl); (case hg => rfl); (case hr => first | (go_simp; done) | (go_simp; rfl)); intro b2 hg w1 hbox hb; have HB1 := Aside0.mk hb; have KB2 := Aside0.mk hbox; clear hg hbox hb) | ((with_reducible refine gate_dst (N := 3) rfl ?_); refine box_event ?hg (N := 3) ?hd (cs := #[.slice A2 gaps.length c2]) (t := 67) ?hr ?_; (case hd => rfl); (case hg => rfl); (case hr => first | (go_simp; done) | (go_simp; rfl)); intro b3 hg w2 hbox hb; have HB2 := Aside0.mk (below_more HB1.out hb); have KB3 := Aside0.mk hbox; have KB2' := Aside0.mk (blk_below KB2.out hb); clear KB2 HB1 hg hbox hb; have KB2 := KB2'; clear KB2'; have c20 : w2.cell? ⟨b2, 0, none⟩ = some (.int .i64 P) := (blk_cell KB2.out 0).trans rfl; have c21 : w2.cell? ⟨b2, 1, none⟩ = some (.int .i64 R) := (blk_cell KB2.out 1).trans rfl; have c30 : w2.cell? ⟨b3, 0, none⟩ = some (.slice A2 gaps.length c2) := (blk_cell KB3.out 0).trans rfl) | (go_at_call 118; refine (impl_bothCode.calls k P R A2 c2 gaps true _ _ (Kd.C_below HR.out HB2.out) HC.out E0.out).mono ?_; rintro e w3 ⟨rfl, hb⟩; have HB3 := Aside0.mk (below_more HB2.out hb); have KB23 := Aside0.mk (blk_below KB2.out hb); have KB33 := Aside0.mk (blk_below KB3.out hb); clear hb c20 c21 c30))
      refine start_ (n := 6) (S := fun w' => w'.cell? ⟨b2, 0, none⟩ = some (.int .i64 P) ∧ w'.cell? ⟨b3, 0, none⟩ = some (.slice A2 gaps.length c2)) (ds := []) #[false, false, false, false, false, false] (by kernel_rfl) rfl rfl ⟨(blk_cell KB23.out 0).trans rfl, (blk_cell KB33.out 0).trans rfl⟩ (fun hHeld => ?_)
      refine pure_ (i := 0) (N := some 13) (v := ?_) (a' := ?_) #[true, false, false, false, false, false] rfl rfl (by kernel_rfl) (fun _ _ _ h => h) (Or.inl ⟨by rfl, ?_⟩) ?_ ?_
      rotate_left
      · intro w'
        go_simp
        with_reducible rfl
      rotate_left
      · simp only [Act.put, List.setIfInBounds_toArray, List.set_cons_zero, List.set_cons_succ, i64_w, i32_w]
        rfl
      refine take_ (i := 1) (N := some 14) (v := ?_) (a' := ?_) #[true, true, false, false, false, false] rfl rfl (by kernel_rfl) (fun _ _ _ h => h) (Or.inl ⟨by rfl, ?_⟩) hHeld ?_ ?_
      rotate_left
      · rintro w' ⟨s0, s1⟩
        go_simp
        with_reducible rfl
      rotate_left
      · simp only [Act.put, List.setIfInBounds_toArray, List.set_cons_zero, List.set_cons_succ, i64_w, i32_w]
        rfl
      refine take_ (i := 2) (N := some 15) (v := ?_) (a' := ?_) #[true, true, true, false, false, false] rfl rfl (by kernel_rfl) (fun _ _ _ h => h) (Or.inl ⟨by rfl, ?_⟩) hHeld ?_ ?_
      rotate_left
      · rintro w' ⟨s0, s1⟩
        go_simp
        with_reducible rfl
      rotate_left
      · simp only [Act.put, List.setIfInBounds_toArray, List.set_cons_zero, List.set_cons_succ, i64_w, i32_w]
        rfl
      refine one_ (i := 3) (N := some 16) #[true, true, true, true, false, false] rfl rfl (by kernel_rfl) (by decide) (fun K hK => ?_)
      refine goes_ Try.func119 (by kernel_rfl) rfl #[.agg #[.slice A2 gaps.length c2]] (by rfl) rfl rfl (by simp only [List.map_toArray, List.map_cons, List.map_nil]; rfl) ?_
      with_reducible refine (impl_Tasks_states.calls k A2 c2 gaps s _ (Kd.C_drew (Kd.C_below HR.out HB3.out)) HC.out E1.out).mono ?_
      rintro e w5 ⟨rfl, hb⟩
      refine ⟨_, rfl, ?_⟩
      have HB5 := Aside0.mk (below_more HB3.out.drew hb)
      have KB25 := Aside0.mk (blk_below (blk_drew KB23.out) hb)
      have KB35 := Aside0.mk (blk_below (blk_drew KB33.out) hb)
      clear hb
      refine hK.out _ _ ⟨(blk_cell KB25.out 0).trans rfl, (blk_cell KB35.out 0).trans rfl⟩ (fun hHeld => ?_)
      clear hK K
      refine norm_ (a' := ?_) ?_ ?_
      rotate_left
      · show Act.put _ (some 16) _ = _
        simp only [Act.put, List.setIfInBounds_toArray, List.set_cons_zero, List.set_cons_succ, i64_w, i32_w]
        rfl
      refine pure_ (i := 4) (N := some 17) (v := ?_) (a' := ?_) #[true, true, true, true, true, false] rfl rfl (by kernel_rfl) (fun _ _ _ h => h) (Or.inl ⟨by rfl, ?_⟩) ?_ ?_
      rotate_left
      · intro w'
        go_simp
        with_reducible rfl
      rotate_left
      · simp only [Act.put, List.setIfInBounds_toArray, List.set_cons_zero, List.set_cons_succ, i64_w, i32_w]
        rfl
      refine pure_ (i := 5) (N := some 18) (v := ?_) (a' := ?_) #[true, true, true, true, true, true] rfl rfl (by kernel_rfl) (fun _ _ _ h => h) (Or.inl ⟨by rfl, ?_⟩) ?_ ?_
      rotate_left
      · intro w'
        go_simp
        with_reducible rfl
      rotate_left
      · simp only [Act.put, List.setIfInBounds_toArray, List.set_cons_zero, List.set_cons_succ, i64_w, i32_w]
        rfl
      refine done_ (by kernel_rfl) ?_
      go_wp2
      go_ret2
      exact WRes.code ⟨⟨by decide, rfl⟩, HB5.out⟩
    · rw [if_neg hl] at h
      obtain ⟨safe, e2, h⟩ := Option.bind_eq_some_iff.mp h
      obtain rfl := Option.some.inj h
      have E2 := Aside0.mk e2
      have hld : decide (20000 < wrap64 (P * s)) = false := decide_eq_false hl
      clear h hl e2
      go_enter Try.func101, Try.ntmps101
      go_wp2_with (first | ((with_reducible refine gate_dst (N := 2) rfl ?_); refine box_event ?hg (N := 2) ?hd (cs := #[.int .i64 P, .int .i64 R]) (t := 42) ?hr ?_; (case hd => rfl); (case hg => rfl); (case hr => first | (go_simp; done) | (go_simp; rfl)); intro b2 hg w1 hbox hb; have HB1 := Aside0.mk hb; have KB2 := Aside0.mk hbox; clear hg hbox hb) | ((with_reducible refine gate_dst (N := 3) rfl ?_); refine box_event ?hg (N := 3) ?hd (cs := #[.slice A2 gaps.length c2]) (t := 67) ?hr ?_; (case hd => rfl); (case hg => rfl); (case hr => first | (go_simp; done) | (go_simp; rfl)); intro b3 hg w2 hbox hb; have HB2 := Aside0.mk (below_more HB1.out hb); have KB3 := Aside0.mk hbox; have KB2' := Aside0.mk (blk_below KB2.out hb); clear KB2 HB1 hg hbox hb; have KB2 := KB2'; clear KB2'; have c20 : w2.cell? ⟨b2, 0, none⟩ = some (.int .i64 P) := (blk_cell KB2.out 0).trans rfl; have c21 : w2.cell? ⟨b2, 1, none⟩ = some (.int .i64 R) := (blk_cell KB2.out 1).trans rfl; have c30 : w2.cell? ⟨b3, 0, none⟩ = some (.slice A2 gaps.length c2) := (blk_cell KB3.out 0).trans rfl) | (go_at_call 118; refine (impl_bothCode.calls k P R A2 c2 gaps true _ _ (Kd.C_below HR.out HB2.out) HC.out E0.out).mono ?_; rintro e w3 ⟨rfl, hb⟩; have HB3 := Aside0.mk (below_more HB2.out hb); have KB23 := Aside0.mk (blk_below KB2.out hb); have KB33 := Aside0.mk (blk_below KB3.out hb); clear hb c20 c21 c30))
      refine start_ (n := 6) (S := fun w' => w'.cell? ⟨b2, 0, none⟩ = some (.int .i64 P) ∧ w'.cell? ⟨b3, 0, none⟩ = some (.slice A2 gaps.length c2)) (ds := []) #[false, false, false, false, false, false] (by kernel_rfl) rfl rfl ⟨(blk_cell KB23.out 0).trans rfl, (blk_cell KB33.out 0).trans rfl⟩ (fun hHeld => ?_)
      refine pure_ (i := 0) (N := some 13) (v := ?_) (a' := ?_) #[true, false, false, false, false, false] rfl rfl (by kernel_rfl) (fun _ _ _ h => h) (Or.inl ⟨by rfl, ?_⟩) ?_ ?_
      rotate_left
      · intro w'
        go_simp
        with_reducible rfl
      rotate_left
      · simp only [Act.put, List.setIfInBounds_toArray, List.set_cons_zero, List.set_cons_succ, i64_w, i32_w]
        rfl
      refine take_ (i := 1) (N := some 14) (v := ?_) (a' := ?_) #[true, true, false, false, false, false] rfl rfl (by kernel_rfl) (fun _ _ _ h => h) (Or.inl ⟨by rfl, ?_⟩) hHeld ?_ ?_
      rotate_left
      · rintro w' ⟨s0, s1⟩
        go_simp
        with_reducible rfl
      rotate_left
      · simp only [Act.put, List.setIfInBounds_toArray, List.set_cons_zero, List.set_cons_succ, i64_w, i32_w]
        rfl
      refine take_ (i := 2) (N := some 15) (v := ?_) (a' := ?_) #[true, true, true, false, false, false] rfl rfl (by kernel_rfl) (fun _ _ _ h => h) (Or.inl ⟨by rfl, ?_⟩) hHeld ?_ ?_
      rotate_left
      · rintro w' ⟨s0, s1⟩
        go_simp
        with_reducible rfl
      rotate_left
      · simp only [Act.put, List.setIfInBounds_toArray, List.set_cons_zero, List.set_cons_succ, i64_w, i32_w]
        rfl
      refine one_ (i := 3) (N := some 16) #[true, true, true, true, false, false] rfl rfl (by kernel_rfl) (by decide) (fun K hK => ?_)
      refine goes_ Try.func119 (by kernel_rfl) rfl #[.agg #[.slice A2 gaps.length c2]] (by rfl) rfl rfl (by simp only [List.map_toArray, List.map_cons, List.map_nil]; rfl) ?_
      with_reducible refine (impl_Tasks_states.calls k A2 c2 gaps s _ (Kd.C_drew (Kd.C_below HR.out HB3.out)) HC.out E1.out).mono ?_
      rintro e w5 ⟨rfl, hb⟩
      refine ⟨_, rfl, ?_⟩
      have HB5 := Aside0.mk (below_more HB3.out.drew hb)
      have KB25 := Aside0.mk (blk_below (blk_drew KB23.out) hb)
      have KB35 := Aside0.mk (blk_below (blk_drew KB33.out) hb)
      clear hb
      refine hK.out _ _ ⟨(blk_cell KB25.out 0).trans rfl, (blk_cell KB35.out 0).trans rfl⟩ (fun hHeld => ?_)
      clear hK K
      refine norm_ (a' := ?_) ?_ ?_
      rotate_left
      · show Act.put _ (some 16) _ = _
        simp only [Act.put, List.setIfInBounds_toArray, List.set_cons_zero, List.set_cons_succ, i64_w, i32_w]
        rfl
      refine pure_ (i := 4) (N := some 17) (v := ?_) (a' := ?_) #[true, true, true, true, true, false] rfl rfl (by kernel_rfl) (fun _ _ _ h => h) (Or.inl ⟨by rfl, ?_⟩) ?_ ?_
      rotate_left
      · intro w'
        go_simp
        with_reducible rfl
      rotate_left
      · simp only [Act.put, List.setIfInBounds_toArray, List.set_cons_zero, List.set_cons_succ, i64_w, i32_w]
        rfl
      refine pure_ (i := 5) (N := some 18) (v := ?_) (a' := ?_) #[true, true, true, true, true, true] rfl rfl (by kernel_rfl) (fun _ _ _ h => h) (Or.inl ⟨by rfl, ?_⟩) ?_ ?_
      rotate_left
      · intro w'
        go_simp
        with_reducible rfl
      rotate_left
      · simp only [Act.put, List.setIfInBounds_toArray, List.set_cons_zero, List.set_cons_succ, i64_w, i32_w]
        rfl
      refine done_ (by kernel_rfl) ?_
      have d20 : w5.cell? ⟨b2, 0, none⟩ = some (.int .i64 P) := (blk_cell KB25.out 0).trans rfl
      have d21 : w5.cell? ⟨b2, 1, none⟩ = some (.int .i64 R) := (blk_cell KB25.out 1).trans rfl
      have d30 : w5.cell? ⟨b3, 0, none⟩ = some (.slice A2 gaps.length c2) := (blk_cell KB35.out 0).trans rfl
      go_wp2_with (first | (go_at_call 120; refine (impl_watchOf.calls k P R A2 c2 gaps safe _ (Kd.C_below HR.out HB5.out) HC.out E2.out).mono ?_; rintro e w6 ⟨gw, nv, A4, c4, rfl, hw, hcs, hb⟩; have HW := Aside0.mk hw; have HCS := Aside0.mk hcs; have HB6 := Aside0.mk (below_more HB5.out hb); clear hw hcs hb d20 d21 d30))
      go_ret2
      exact WRes.safe ⟨gw, _, A4, c4, rfl, HW.out, HCS.out, HB6.out⟩
  · rw [if_neg h0] at h
    obtain rfl := Option.some.inj h
    have h0b : (code != 0) = true := by simp [h0]
    have H0 := Aside0.mk h0
    clear h h0
    go_enter Try.func101, Try.ntmps101
    go_wp2_with (first | ((with_reducible refine gate_dst (N := 2) rfl ?_); refine box_event ?hg (N := 2) ?hd (cs := #[.int .i64 P, .int .i64 R]) (t := 42) ?hr ?_; (case hd => rfl); (case hg => rfl); (case hr => first | (go_simp; done) | (go_simp; rfl)); intro b2 hg w1 hbox hb; have HB1 := Aside0.mk hb; have KB2 := Aside0.mk hbox; clear hg hbox hb) | ((with_reducible refine gate_dst (N := 3) rfl ?_); refine box_event ?hg (N := 3) ?hd (cs := #[.slice A2 gaps.length c2]) (t := 67) ?hr ?_; (case hd => rfl); (case hg => rfl); (case hr => first | (go_simp; done) | (go_simp; rfl)); intro b3 hg w2 hbox hb; have HB2 := Aside0.mk (below_more HB1.out hb); have KB3 := Aside0.mk hbox; have KB2' := Aside0.mk (blk_below KB2.out hb); clear KB2 HB1 hg hbox hb; have KB2 := KB2'; clear KB2'; have c20 : w2.cell? ⟨b2, 0, none⟩ = some (.int .i64 P) := (blk_cell KB2.out 0).trans rfl; have c21 : w2.cell? ⟨b2, 1, none⟩ = some (.int .i64 R) := (blk_cell KB2.out 1).trans rfl; have c30 : w2.cell? ⟨b3, 0, none⟩ = some (.slice A2 gaps.length c2) := (blk_cell KB3.out 0).trans rfl) | (go_at_call 118; refine (impl_bothCode.calls k P R A2 c2 gaps true _ _ (Kd.C_below HR.out HB2.out) HC.out E0.out).mono ?_; rintro e w3 ⟨rfl, hb⟩; have HB3 := Aside0.mk (below_more HB2.out hb); have KB23 := Aside0.mk (blk_below KB2.out hb); have KB33 := Aside0.mk (blk_below KB3.out hb); clear hb c20 c21 c30))
    go_ret2
    exact WRes.code ⟨⟨H0.out, rfl⟩, HB3.out⟩

def impl_CanWatch.f (k : Nat) (P R : Int) (gaps : List Int) : Option (Bool × Int) :=
  (impl_watched.f k P R gaps).bind fun x => match x with
    | .inr code => some (false, code)
    | .inl safe => (impl_watch_start.f k P gaps safe).bind fun at_ => some (decide (0 ≤ at_), 0)
theorem impl_CanWatch.mono : ∀ a0 a1 a2 k, LeO (impl_CanWatch.f k a0 a1 a2) (impl_CanWatch.f (k + 1) a0 a1 a2) := by
  intro a0 a1 a2 k
  unfold impl_CanWatch.f
  refine LeO.bind (impl_watched.mono _ _ _ _) fun x => ?_
  cases x with
  | inr code => exact LeO.refl _
  | inl safe => exact LeO.bind (impl_watch_start.mono_l _ _ _ _ _) fun _ => LeO.refl _

set_option maxHeartbeats 1600000 in
set_option maxRecDepth 100000 in
theorem impl_CanWatch.calls (k : Nat) (a0_0 : Int) (a0_1 : Int) (A1_0 : Option Addr) (c1_0 : Nat) (l1_0 : List Int) (r1 : Bool) (r2 : Int) (w : World) (hr1_0 : Kd.C (Kd.int .i64) w A1_0 l1_0.length l1_0) (hc1_0 : l1_0.length ≤ c1_0) (h : impl_CanWatch.f k a0_0 a0_1 l1_0 = some (r1, r2)) :
    Calls Try.prog 64 #[.agg #[.int .i64 a0_0, .int .i64 a0_1], .agg #[.slice A1_0 l1_0.length c1_0]] w fun e w' => e = .returned (.tuple #[.bool r1, .int .i64 r2]) ∧ Below w.heap.size w w' := by
  have hu1 := Try.underlying67
  have hu2 := Try.underlying42
  obtain ⟨P, rfl⟩ : ∃ P, P = a0_0 := ⟨_, rfl⟩
  obtain ⟨R, rfl⟩ : ∃ R, R = a0_1 := ⟨_, rfl⟩
  obtain ⟨A2, rfl⟩ : ∃ A2, A2 = A1_0 := ⟨_, rfl⟩
  obtain ⟨c2, rfl⟩ : ∃ c2, c2 = c1_0 := ⟨_, rfl⟩
  obtain ⟨gaps, rfl⟩ : ∃ gaps, gaps = l1_0 := ⟨_, rfl⟩
  have HR := Aside0.mk hr1_0
  have HC := Aside0.mk hc1_0
  clear hr1_0 hc1_0
  unfold impl_CanWatch.f at h
  obtain ⟨x, e0, h⟩ := Option.bind_eq_some_iff.mp h
  have E0 := Aside0.mk e0
  clear e0
  cases x with
  | inr code =>
    obtain ⟨rfl, rfl⟩ : false = r1 ∧ code = r2 := by simpa using h
    clear h
    go_enter Try.func64, Try.ntmps64
    go_wp2_with (first | ((with_reducible refine gate_dst (N := 2) rfl ?_); refine box_event ?hg (N := 2) ?hd (cs := #[.int .i64 P, .int .i64 R]) (t := 42) ?hr ?_; (case hd => rfl); (case hg => rfl); (case hr => first | (go_simp; done) | (go_simp; rfl)); intro b2 hg w1 hbox hb; have HB1 := Aside0.mk hb; have KB2 := Aside0.mk hbox; clear hg hbox hb) | ((with_reducible refine gate_dst (N := 3) rfl ?_); refine box_event ?hg (N := 3) ?hd (cs := #[.slice A2 gaps.length c2]) (t := 67) ?hr ?_; (case hd => rfl); (case hg => rfl); (case hr => first | (go_simp; done) | (go_simp; rfl)); intro b3 hg w2 hbox hb; have HB2 := Aside0.mk (below_more HB1.out hb); have KB3 := Aside0.mk hbox; have KB2' := Aside0.mk (blk_below KB2.out hb); clear KB2 HB1 hg hbox hb; have KB2 := KB2'; clear KB2'; have c20 : w2.cell? ⟨b2, 0, none⟩ = some (.int .i64 P) := (blk_cell KB2.out 0).trans rfl; have c21 : w2.cell? ⟨b2, 1, none⟩ = some (.int .i64 R) := (blk_cell KB2.out 1).trans rfl; have c30 : w2.cell? ⟨b3, 0, none⟩ = some (.slice A2 gaps.length c2) := (blk_cell KB3.out 0).trans rfl) | (go_at_call 101; refine (impl_watched.calls k P R A2 c2 gaps _ _ (Kd.C_below HR.out HB2.out) HC.out E0.out).mono ?_; rintro e w3 hres; obtain ⟨⟨hne, rfl⟩, hb⟩ := hres; have HB3 := Aside0.mk (below_more HB2.out hb); have hnb : (code != 0) = true := (by simp [hne]); clear hb c20 c21 c30))
    go_ret2
    exact ⟨rfl, HB3.out⟩
  | inl safe =>
    obtain ⟨at_, e1, h⟩ := Option.bind_eq_some_iff.mp h
    obtain ⟨rfl, rfl⟩ : decide (0 ≤ at_) = r1 ∧ 0 = r2 := by simpa using h
    have E1 := Aside0.mk e1
    clear h e1
    go_enter Try.func64, Try.ntmps64
    go_wp2_with (first | ((with_reducible refine gate_dst (N := 2) rfl ?_); refine box_event ?hg (N := 2) ?hd (cs := #[.int .i64 P, .int .i64 R]) (t := 42) ?hr ?_; (case hd => rfl); (case hg => rfl); (case hr => first | (go_simp; done) | (go_simp; rfl)); intro b2 hg w1 hbox hb; have HB1 := Aside0.mk hb; have KB2 := Aside0.mk hbox; clear hg hbox hb) | ((with_reducible refine gate_dst (N := 3) rfl ?_); refine box_event ?hg (N := 3) ?hd (cs := #[.slice A2 gaps.length c2]) (t := 67) ?hr ?_; (case hd => rfl); (case hg => rfl); (case hr => first | (go_simp; done) | (go_simp; rfl)); intro b3 hg w2 hbox hb; have HB2 := Aside0.mk (below_more HB1.out hb); have KB3 := Aside0.mk hbox; have KB2' := Aside0.mk (blk_below KB2.out hb); clear KB2 HB1 hg hbox hb; have KB2 := KB2'; clear KB2'; have c20 : w2.cell? ⟨b2, 0, none⟩ = some (.int .i64 P) := (blk_cell KB2.out 0).trans rfl; have c21 : w2.cell? ⟨b2, 1, none⟩ = some (.int .i64 R) := (blk_cell KB2.out 1).trans rfl; have c30 : w2.cell? ⟨b3, 0, none⟩ = some (.slice A2 gaps.length c2) := (blk_cell KB3.out 0).trans rfl) | (go_at_call 101; refine (impl_watched.calls k P R A2 c2 gaps _ _ (Kd.C_below HR.out HB2.out) HC.out E0.out).mono ?_; rintro e w3 hres; obtain ⟨gw, nv, A4, c4, rfl, hw, hcs, hb⟩ := hres; have HW := Aside0.mk hw; have HCS := Aside0.mk hcs; have HB3 := Aside0.mk (below_more HB2.out hb); clear hw hcs hb c20 c21 c30) | (go_at_call 102; refine (impl_watch_start.calls k gw P R A2 c2 gaps nv A4 c4 safe at_ _ HW.out (Kd.C_below HR.out HB3.out) HC.out HCS.out E1.out).mono ?_; rintro e w4 ⟨rfl, hb⟩; have HB4 := Aside0.mk (below_more HB3.out hb); clear hb))
    go_ret2
    exact ⟨rfl, HB4.out⟩
end Go.Proofs.Ytoakdilhljnjfaa.Q
/- Plain laws of watchers' states: the state to begin with. -/
namespace Go.Proofs.Ytoakdilhljnjfaa.Pure
open Go.RowKit Go.Proofs.Ytoakdilhljnjfaa.Q Go.Proofs.YtoakdilhljnjfaaW.PrintWords Go.Proofs.YtoakdilhljnjfaaW.PrintLast Go.Proofs.YtoakdilhljnjfaaW.PrintMore
set_option linter.unusedVariables false
set_option linter.unusedSimpArgs false

theorem whole_ev {P : Int} {gaps : List Int} (h : WOk P gaps) (j : Int) (hj : 0 ≤ j ∧ j < P) : Ev (fun k => impl_watch_whole.f k P gaps j) (numFrom 0 gaps gaps * P + j) := by
  have hm := h.hm
  have hp := h.hp
  have h6 := h.h6
  have hpos := prodG_pos h.hg
  have h8 := prodG_8 h.hg (by omega)
  obtain ⟨b1, b2, b3, b4⟩ := num_bound h (OkS.self h.hg) hj
  have he : numFrom 0 gaps gaps = prodG gaps - 1 := by rw [numFrom_self]; omega
  unfold impl_watch_whole.f
  refine Ev.bind (states_ev gaps h.hg (by omega)) ?_
  rw [wrap64_id (x := prodG gaps - 1) (by omega) (by omega), ← he, wrap64_id (x := numFrom 0 gaps gaps * P) (by omega) (by omega), wrap64_id (x := numFrom 0 gaps gaps * P + j) (by omega) (by omega)]
  exact Ev.now _
theorem begin_both {P R : Int} {gaps : List Int} (h : WOk P gaps) (S : List Bool) (hS : (S.length : Int) = prodG gaps * P) (d : Nat) : ∀ (j : Nat), ((j + d : Nat) : Int) = P → ∃ r, Ev (fun k => impl_watch_start.l k P gaps S (j : Int)) r ∧ Ev (fun k => spec_l09Begin.l0 k S (j : Int) P R gaps) r := by
  have hp := h.hp
  have h6 := h.h6
  induction d with
  | zero =>
    intro j hj
    refine ⟨-1, Ev.step (fun k => by rw [impl_watch_start.l]) ?_, Ev.step (fun k => by rw [spec_l09Begin.l0]) ?_⟩
    · exact Ev.neg (by omega) (Ev.now _)
    · exact Ev.neg (by omega) (Ev.now _)
  | succ d ih =>
    intro j hj
    have hw : wrap64 ((j : Int) + 1) = ((j + 1 : Nat) : Int) := by rw [wrap64_id (by omega) (by omega)]; omega
    have hjp : (0 : Int) ≤ (j : Int) ∧ (j : Int) < P := by omega
    obtain ⟨b1, b2, b3, b4⟩ := num_bound h (OkS.self h.hg) hjp
    cases hs : rdOf false S (numFrom 0 gaps gaps * P + j) with
    | true =>
      refine ⟨numFrom 0 gaps gaps * P + j, Ev.step (fun k => by rw [impl_watch_start.l]) ?_, Ev.step (fun k => by rw [spec_l09Begin.l0]) ?_⟩
      · exact Ev.pos hjp.2 (Ev.bind (whole_ev h j hjp) (Ev.pos b3 (Ev.pos (by omega) (Ev.pos hs (Ev.now _)))))
      · exact Ev.pos hjp.2 (Ev.bind (spec_number_ev h (OkS.self h.hg) j hjp) (Ev.pos b3 (Ev.pos (by omega) (Ev.pos hs (Ev.now _)))))
    | false =>
      obtain ⟨r, r1, r2⟩ := ih (j + 1) (by omega)
      refine ⟨r, Ev.step (fun k => by rw [impl_watch_start.l]) ?_, Ev.step (fun k => by rw [spec_l09Begin.l0]) ?_⟩
      · rw [hw]
        exact Ev.pos hjp.2 (Ev.bind (whole_ev h j hjp) (Ev.pos b3 (Ev.pos (by omega) (Ev.neg (by rw [hs]; decide) r1))))
      · rw [hw]
        exact Ev.pos hjp.2 (Ev.bind (spec_number_ev h (OkS.self h.hg) j hjp) (Ev.pos b3 (Ev.pos (by omega) (Ev.neg (by rw [hs]; decide) r2))))

theorem isTasks_v (gaps : List Int) (hg : OkG gaps) (h1 : 1 ≤ gaps.length) (h8 : gaps.length ≤ 8) : impl_IsTasks.f gaps = some true := by
  unfold impl_IsTasks.f isIn
  simp
  exact ⟨⟨by omega, by omega⟩, fun g hg' => hg g hg'⟩
/-- CanWatch, and what the reference asks in its place. -/
theorem canWatch_both {P R : Int} {gaps : List Int} (h : WOk P gaps) (hR : isGroundB P R = true) : ∃ (S : List Bool) (at_ : Int), Ev (fun k => impl_CanWatch.f k P R gaps) (decide (0 ≤ at_), 0) ∧ Ev (fun k => spec_l09Safe.f k P R gaps) S ∧ Ev (fun k => spec_l09Begin.f k P R gaps S) at_ := by
  have hm := h.hm
  have hp := h.hp
  have h1 := h.h1
  have h6 := h.h6
  have hpos := prodG_pos h.hg
  have hT : 0 ≤ prodG gaps * P := Int.mul_nonneg (by omega) (by omega)
  obtain ⟨S, hS, s1, s2⟩ := safe_both (R := R) h
  obtain ⟨r, r1, r2⟩ := begin_both (R := R) h S hS P.toNat 0 (by omega)
  refine ⟨S, r, ?_, s2, by unfold spec_l09Begin.f; exact r2⟩
  unfold impl_CanWatch.f
  refine Ev.bind (a := .inl S) ?_ ?_
  · unfold impl_watched.f
    refine Ev.bind (a := 0) ?_ (Ev.pos rfl (Ev.bind (states_ev gaps h.hg (by omega)) ?_))
    · unfold impl_bothCode.f
      refine Ev.bindc (by rw [isGround_v, hR]) (Ev.pos rfl (Ev.bindc (isTasks_v gaps h.hg h1 (by omega)) ?_))
      refine Ev.step (fun k => by rw [impl_bothCode.j0]) ?_
      exact Ev.neg (by decide) (Ev.pos rfl (Ev.bindc (a := (gaps.length : Int)) rfl (Ev.pos hp.symm (Ev.now _))))
    · rw [Int.mul_comm P, wrap64_id (x := prodG gaps * P) (by omega) (by omega)]
      exact Ev.neg (by omega) (Ev.bind s1 (Ev.now _))
  · exact Ev.bind (by unfold impl_watch_start.f; exact r1) (Ev.now _)
end Go.Proofs.Ytoakdilhljnjfaa.Pure
-- written by wip/tools/printx.py (this session's) out of the translation; Lean checks it
namespace Go.Proofs.Ytoakdilhljnjfaa.Q
open Go.RowKit Go.Proofs.YtoakdilhljnjfaaW.PrintWords Go.Proofs.YtoakdilhljnjfaaW.PrintLast Go.Proofs.YtoakdilhljnjfaaW.PrintMore
attribute [local go_sem] max2_int min2_int max_two min_two max_three min_three max_four min_four   -- for this text's walks alone
set_option linter.unusedVariables false
set_option linter.unusedSimpArgs false

/-! ### spec_l09Equal: function 60 -/
def spec_l09Equal.l0 : Nat → Int → Int → Int → Int → List Int → Option (List Int)
  | 0, _, _, _, _, _ => none
  | k + 1, x1, x6, x323000, x323001, x328000 => if x6 < x323000 then (if x328000.length < 17592186044416 then (spec_l09Equal.l0 k x1 (wrap64 (x6 + 1)) x323000 x323001 (x328000 ++ [x1])) else (none)) else (some x328000)
def spec_l09Equal.f (k : Nat) (a0_0 : Int) (a0_1 : Int) (a1 : Int) : Option (List Int) := spec_l09Equal.l0 k a1 0 a0_0 a0_1 (([] : List Int))
theorem spec_l09Equal.mono_l : ∀ k, (∀ y0 y1 y2 y3 y4, LeO (spec_l09Equal.l0 k y0 y1 y2 y3 y4) (spec_l09Equal.l0 (k + 1) y0 y1 y2 y3 y4))
  | 0 => fun _ _ _ _ _ r h => by simp [spec_l09Equal.l0] at h
  | k + 1 => by
    have ih0 := spec_l09Equal.mono_l k
    · intro y0 y1 y2 y3 y4
      unfold spec_l09Equal.l0
      repeat' first
      | (with_reducible exact ih0 _ _ _ _ _)
      | (with_reducible exact LeO.refl _)
      | (with_reducible exact LeO.none _)
      | (with_reducible refine LeO.ite ?_ ?_)
      | (with_reducible refine LeO.bind ?_ (fun _ => ?_))
      | exact ih0 _ _ _ _ _
      | exact LeO.none _
      | refine LeO.ite ?_ ?_
      | refine LeO.bind ?_ (fun _ => ?_)
theorem spec_l09Equal.mono : ∀ a0 a1 a2 k, LeO (spec_l09Equal.f k a0 a1 a2) (spec_l09Equal.f (k + 1) a0 a1 a2) := by
  intro a0 a1 a2 k
  have ih0 := spec_l09Equal.mono_l k
  unfold spec_l09Equal.f
  repeat' first
      | (with_reducible exact ih0 _ _ _ _ _)
      | (with_reducible exact LeO.refl _)
      | (with_reducible exact LeO.none _)
      | (with_reducible refine LeO.ite ?_ ?_)
      | (with_reducible refine LeO.bind ?_ (fun _ => ?_))
      | exact ih0 _ _ _ _ _
      | exact LeO.none _
      | refine LeO.ite ?_ ?_
      | refine LeO.bind ?_ (fun _ => ?_)
set_option maxHeartbeats 8000000 in
set_option maxRecDepth 100000 in
theorem spec_l09Equal.calls (k : Nat) (a0_0 : Int) (a0_1 : Int) (a1 : Int) (r : List Int) (w : World) (h : spec_l09Equal.f k a0_0 a0_1 a1 = some r) :
    Calls Try.prog 60 #[.agg #[.int .i64 a0_0, .int .i64 a0_1], .int .i64 a1] w fun e w' => ∃ v0_ : Value, e = .returned (.agg #[v0_]) ∧ Kd.R (Kd.int .i64) 2 w' w.heap.size (fun _ => True) v0_ r ∧ Below w.heap.size w w' := by
  have hu42 := Try.underlying42
  have hu67 := Try.underlying67
  have HB := Aside0.mk (Below.refl w.heap.size w)
  have H : (spec_l09Equal.l0 k a1 0 a0_0 a0_1 (([] : List Int))) = some r := h
  clear h
  obtain ⟨y324, hy324⟩ : ∃ y_ : List Int, y_ = (([] : List Int)) := ⟨_, rfl⟩
  replace H : (spec_l09Equal.l0 k a1 0 a0_0 a0_1 y324) = some r := by first | (rw [hy324]; with_reducible exact H) | (have H2_ := (Option.bind_some _ _).symm.trans H; rw [hy324]; with_reducible exact H2_) | (have H2_ := (Option.bind_some _ _).symm.trans H; with_reducible exact H2_) | with_reducible exact H | (rw [hy324]; exact H) | exact H
  have Ny324 := Aside0.mk hy324
  clear hy324
  have H' := Aside0.mk H
  clear H
  go_enter Try.func60, Try.ntmps60
  go_wp2_with (first | ((with_reducible refine gate_dst (N := 2) rfl ?_); refine box_event ?hg (N := 2) ?hd (cs := #[.int .i64 a0_0, .int .i64 a0_1]) (t := 42) ?hr ?_; (case hd => rfl); (case hg => rfl); (case hr => first | (go_simp; done) | (go_simp; rfl)); intro gb322 hg w3 hbox hb; have n0_ := Aside0.mk (below_step (by repeat (first | (with_reducible first | exact HB.out | apply below_alloc | apply pw_below_drewN | apply below_drew1) | exact HB.out)) hb); have n1_ := Aside0.mk (hbox); have n2_ := Aside0.mk ((by rw [hg]; exact (below_size (by repeat (first | (with_reducible first | exact HB.out | apply below_alloc | apply pw_below_drewN | apply below_drew1) | exact HB.out))) : w.heap.size ≤ gb322)); have n3_ := Aside0.mk ((by rw [hg]; exact (below_size (by repeat (first | (with_reducible first | exact HB.out | apply below_alloc | apply pw_below_drewN | apply below_drew1) | exact HB.out))) : w.heap.size ≤ gb322)); clear HB; have HB := n0_; have BK322 := n1_; have GW322 := n2_; have GE322 := n3_; clear n0_ n1_ n2_ n3_; clear hb hbox hg) | ((with_reducible refine gate_dst (N := 4) rfl ?_); refine box_event ?hg (N := 4) ?hd (cs := #[.slice none 0 0]) (t := 67) ?hr ?_; (case hd => rfl); (case hg => rfl); (case hr => first | (go_simp; done) | (go_simp; rfl)); intro gb323 hg w4 hbox hb; have n0_ := Aside0.mk (blk_below (g := gb322) (o := .cells #[.int .i64 a0_0, .int .i64 a0_1] 42 (0, 0)) (by (with_reducible repeat (first | refine blk_drewN ?_ _ | refine blk_drew ?_ | refine blk_alloc ?_ _)); exact BK322.out) hb); have n1_ := Aside0.mk (below_step (by repeat (first | (with_reducible first | exact HB.out | apply below_alloc | apply pw_below_drewN | apply below_drew1 | refine below_set ?_ GE322.out) | exact HB.out)) hb); have n2_ := Aside0.mk (hbox); have n3_ := Aside0.mk ((by rw [hg]; exact (below_size (by repeat (first | (with_reducible first | exact HB.out | apply below_alloc | apply pw_below_drewN | apply below_drew1 | refine below_set ?_ GE322.out) | exact HB.out))) : w.heap.size ≤ gb323)); have n4_ := Aside0.mk ((by rw [hg]; exact (below_size (by repeat (first | (with_reducible first | exact HB.out | apply below_alloc | apply pw_below_drewN | apply below_drew1 | refine below_set ?_ GE322.out) | exact HB.out))) : w.heap.size ≤ gb323)); have n5_ := Aside0.mk ((by rw [hg]; exact Nat.ne_of_lt (blk_lt (g := gb322) (o := .cells #[.int .i64 a0_0, .int .i64 a0_1] 42 (0, 0)) (by (with_reducible repeat (first | refine blk_drewN ?_ _ | refine blk_drew ?_ | refine blk_alloc ?_ _)); exact BK322.out)) : gb322 ≠ gb323)); have n6_ := Aside0.mk ((by rw [hg]; exact Nat.ne_of_gt (blk_lt (g := gb322) (o := .cells #[.int .i64 a0_0, .int .i64 a0_1] 42 (0, 0)) (by (with_reducible repeat (first | refine blk_drewN ?_ _ | refine blk_drew ?_ | refine blk_alloc ?_ _)); exact BK322.out)) : gb323 ≠ gb322)); clear BK322; clear HB; have BK322 := n0_; have HB := n1_; have BK323 := n2_; have GW323 := n3_; have GE323 := n4_; have NB322_323 := n5_; have NB323_322 := n6_; clear n0_ n1_ n2_ n3_ n4_ n5_ n6_; clear hb hbox hg) | ((with_reducible refine gate_dst (N := 7) rfl ?_); refine Kd.R_lit (Kd.int .i64) _ 2 ?hg (N := 7) ?hd (xs := ([] : List Int)) (inner := []) (ok := fun _ => True) (okp := fun _ => True) ?hr ?hp (fun _ hk => hk) trivial (Below.refl _ _) (Nat.le_refl _) (by simp) ?_; (case hd => rfl); (case hg => rfl); (case hr => first | (go_simp; done) | (go_simp; rfl)); (case hp => exact (Reps.none _ _)); intro v325 w5 ho6 hb hg_ hnew_; clear hg_ hnew_; (first | rw [← Ny324.out] at ho6 | (simp only [Int.reduceToNat] at ho6; rw [← Ny324.out] at ho6)); have n0_ := Aside0.mk (Kd.R_lower ho6 (below_size (by repeat (first | (with_reducible first | exact HB.out | apply below_alloc | apply pw_below_drewN | apply below_drew1 | refine below_set ?_ GE322.out | refine below_set ?_ GE323.out) | exact HB.out)))); have n1_ := Aside0.mk (blk_below (g := gb322) (o := .cells #[.int .i64 a0_0, .int .i64 a0_1] 42 (0, 0)) (by (with_reducible repeat (first | refine blk_drewN ?_ _ | refine blk_drew ?_ | refine blk_alloc ?_ _)); exact BK322.out) hb); have n2_ := Aside0.mk (blk_below (g := gb323) (o := .cells #[.slice none 0 0] 67 (0, 0)) (by (with_reducible repeat (first | refine blk_drewN ?_ _ | refine blk_drew ?_ | refine blk_alloc ?_ _)); exact BK323.out) hb); have n3_ := Aside0.mk (below_step (by repeat (first | (with_reducible first | exact HB.out | apply below_alloc | apply pw_below_drewN | apply below_drew1 | refine below_set ?_ GE322.out | refine below_set ?_ GE323.out) | exact HB.out)) hb); clear BK322; clear BK323; clear HB; have HO326 := n0_; have BK322 := n1_; have BK323 := n2_; have HB := n3_; clear n0_ n1_ n2_ n3_; clear hb ho6; obtain ⟨Ao7, co7, eo7⟩ := Kd.R_slice HO326.out; subst eo7) | ((with_reducible refine gate_dst (N := 5) rfl ?_); refine box_event ?hg (N := 5) ?hd (cs := #[.slice none 0 0]) (t := 67) ?hr ?_; (case hd => rfl); (case hg => rfl); (case hr => first | (go_simp; done) | (go_simp; rfl)); intro gb327 hg w8 hbox hb; have n0_ := Aside0.mk (Kd.R_below (by (with_reducible repeat (first | apply Kd.R_alloc | apply Kd.R_drewN | apply Kd.R_drew)); exact HO326.out) hb); have n1_ := Aside0.mk (blk_below (g := gb322) (o := .cells #[.int .i64 a0_0, .int .i64 a0_1] 42 (0, 0)) (by (with_reducible repeat (first | refine blk_drewN ?_ _ | refine blk_drew ?_ | refine blk_alloc ?_ _)); exact BK322.out) hb); have n2_ := Aside0.mk (blk_below (g := gb323) (o := .cells #[.slice none 0 0] 67 (0, 0)) (by (with_reducible repeat (first | refine blk_drewN ?_ _ | refine blk_drew ?_ | refine blk_alloc ?_ _)); exact BK323.out) hb); have n3_ := Aside0.mk (below_step (by repeat (first | (with_reducible first | exact HB.out | apply below_alloc | apply pw_below_drewN | apply below_drew1 | refine below_set ?_ GE322.out | refine below_set ?_ GE323.out) | exact HB.out)) hb); have n4_ := Aside0.mk (hbox); have n5_ := Aside0.mk ((by rw [hg]; exact (below_size (by repeat (first | (with_reducible first | exact HB.out | apply below_alloc | apply pw_below_drewN | apply below_drew1 | refine below_set ?_ GE322.out | refine below_set ?_ GE323.out) | exact HB.out))) : w.heap.size ≤ gb327)); have n6_ := Aside0.mk ((by rw [hg]; exact (below_size (by repeat (first | (with_reducible first | exact HB.out | apply below_alloc | apply pw_below_drewN | apply below_drew1 | refine below_set ?_ GE322.out | refine below_set ?_ GE323.out) | exact HB.out))) : w.heap.size ≤ gb327)); have n7_ := Aside0.mk ((by rw [hg]; exact Nat.ne_of_lt (blk_lt (g := gb322) (o := .cells #[.int .i64 a0_0, .int .i64 a0_1] 42 (0, 0)) (by (with_reducible repeat (first | refine blk_drewN ?_ _ | refine blk_drew ?_ | refine blk_alloc ?_ _)); exact BK322.out)) : gb322 ≠ gb327)); have n8_ := Aside0.mk ((by rw [hg]; exact Nat.ne_of_gt (blk_lt (g := gb322) (o := .cells #[.int .i64 a0_0, .int .i64 a0_1] 42 (0, 0)) (by (with_reducible repeat (first | refine blk_drewN ?_ _ | refine blk_drew ?_ | refine blk_alloc ?_ _)); exact BK322.out)) : gb327 ≠ gb322)); have n9_ := Aside0.mk ((by rw [hg]; exact Nat.ne_of_lt (blk_lt (g := gb323) (o := .cells #[.slice none 0 0] 67 (0, 0)) (by (with_reducible repeat (first | refine blk_drewN ?_ _ | refine blk_drew ?_ | refine blk_alloc ?_ _)); exact BK323.out)) : gb323 ≠ gb327)); have n10_ := Aside0.mk ((by rw [hg]; exact Nat.ne_of_gt (blk_lt (g := gb323) (o := .cells #[.slice none 0 0] 67 (0, 0)) (by (with_reducible repeat (first | refine blk_drewN ?_ _ | refine blk_drew ?_ | refine blk_alloc ?_ _)); exact BK323.out)) : gb327 ≠ gb323)); clear HO326; clear BK322; clear BK323; clear HB; have HO326 := n0_; have BK322 := n1_; have BK323 := n2_; have HB := n3_; have BK327 := n4_; have GW327 := n5_; have GE327 := n6_; have NB322_327 := n7_; have NB327_322 := n8_; have NB323_327 := n9_; have NB327_323 := n10_; clear n0_ n1_ n2_ n3_ n4_ n5_ n6_ n7_ n8_ n9_ n10_; clear hb hbox hg; have hnb9 := NB327_322.out; have hnc9 := NB322_327.out; have hnb10 := NB327_323.out; have hnc10 := NB323_327.out; have hcz11_0 : w8.cell? ⟨gb327, 0, none⟩ = some (.slice none 0 0) := (blk_cell BK327.out 0).trans rfl; have hfz11_0 := blk_frozen BK327.out 0))
  go_loopg [6] k (fun kq v6 w' => ∃ (x6_1 : Int) (x328000_1 : List Int) (u328000 : Value), v6 = .int .i64 x6_1 ∧ Aside0 (spec_l09Equal.l0 kq a1 x6_1 a0_0 a0_1 x328000_1 = some r) ∧ Aside0 (kq ≤ k) ∧ Aside0 (Kd.R (Kd.int .i64) 2 w' w.heap.size (fun _ => True) u328000 x328000_1) ∧ Aside0 (w'.heap[gb322]? = some (.cells #[.int .i64 a0_0, .int .i64 a0_1] 42 (0, 0))) ∧ Aside0 (w'.heap[gb323]? = some (.cells #[(.slice none 0 0)] 67 (0, 0))) ∧ Aside0 (w'.heap[gb327]? = some (.cells #[u328000] 67 (0, 0))) ∧ Aside0 (Below w.heap.size w w'))
  case atStart => exact ⟨(0), (y324), (.slice Ao7 y324.length co7), (by first | rfl | (simp; done) | (simp [*]; done)), H', ⟨Nat.le_refl _⟩, ⟨by (with_reducible repeat (first | apply Kd.R_alloc | apply Kd.R_drewN | apply Kd.R_drew)); exact Kd.R_mono (Kd.R_far (p := ⟨gb327, 0, none⟩) (Kd.R_types HO326.out BK327.out (by decide)) (fun _ hk => hk.2) (.slice Ao7 y324.length co7)) (fun _ hk => trivial)⟩, ⟨by (with_reducible repeat (first | refine blk_drewN ?_ _ | refine blk_drew ?_ | refine blk_alloc ?_ _)); refine blk_far ?_ NB322_327.out _; (with_reducible repeat (first | refine blk_drewN ?_ _ | refine blk_drew ?_ | refine blk_alloc ?_ _)); exact BK322.out⟩, ⟨by (with_reducible repeat (first | refine blk_drewN ?_ _ | refine blk_drew ?_ | refine blk_alloc ?_ _)); refine blk_far ?_ NB323_327.out _; (with_reducible repeat (first | refine blk_drewN ?_ _ | refine blk_drew ?_ | refine blk_alloc ?_ _)); exact BK323.out⟩, ⟨by (with_reducible repeat (first | refine blk_drewN ?_ _ | refine blk_drew ?_ | refine blk_alloc ?_ _)); refine blk_put (cs := #[.slice none 0 0]) ?_ 0 _ rfl; (with_reducible repeat (first | refine blk_drewN ?_ _ | refine blk_drew ?_ | refine blk_alloc ?_ _)); exact BK327.out⟩, ⟨by repeat (first | (with_reducible first | exact HB.out | apply below_alloc | apply pw_below_drewN | apply below_drew1 | refine below_set ?_ GE322.out | refine below_set ?_ GE323.out | refine below_set ?_ GE327.out) | exact HB.out)⟩⟩
  case round =>
    clear H'
    try clear c1
    try clear p2
    try clear c6
    try clear c9
    try clear c10
    try clear hcz11_0
    try clear hfz11_0
    obtain ⟨x6_1, x328000_1, u328000, rfl, HA, HK1, HO_328000, BK322, BK323, BK327, HB⟩ := hrel
    cases gk with
    | zero => exact absurd HA.out (by simp [spec_l09Equal.l0])
    | succ k1 =>
      have H := HA.out
      clear HA
      simp only [spec_l09Equal.l0] at H
      by_cases c12 : x6_1 < a0_0
      · rw [if_pos c12] at H
        have c12b0 : decide (x6_1 < a0_0) = true := decide_eq_true c12
        clear c12
        by_cases c13 : x328000_1.length < 17592186044416
        · rw [if_pos c13] at H
          have LMc13 := Aside0.mk c13
          clear c13
          obtain ⟨y328, hy328⟩ : ∃ y_ : List Int, y_ = (x328000_1 ++ [a1]) := ⟨_, rfl⟩
          replace H : (spec_l09Equal.l0 k1 a1 (wrap64 (x6_1 + 1)) a0_0 a0_1 y328) = some r := by first | (rw [hy328]; with_reducible exact H) | (have H2_ := (Option.bind_some _ _).symm.trans H; rw [hy328]; with_reducible exact H2_) | (have H2_ := (Option.bind_some _ _).symm.trans H; with_reducible exact H2_) | with_reducible exact H | (rw [hy328]; exact H) | exact H
          have Ny328 := Aside0.mk hy328
          clear hy328
          have H' := Aside0.mk H
          clear H
          have hnb14 := NB322_323.out
          have hnc14 := NB323_322.out
          have hnb15 := NB322_327.out
          have hnc15 := NB327_322.out
          have hcz16_0 : wr.cell? ⟨gb322, 0, none⟩ = some (.int .i64 a0_0) := (blk_cell BK322.out 0).trans rfl
          have hcz16_1 : wr.cell? ⟨gb322, 1, none⟩ = some (.int .i64 a0_1) := (blk_cell BK322.out 1).trans rfl
          have hfz16_0 := blk_frozen BK322.out 0
          have hfz16_1 := blk_frozen BK322.out 1
          have hnb17 := NB327_323.out
          have hnc17 := NB323_327.out
          have hcz18_0 : wr.cell? ⟨gb327, 0, none⟩ = some (u328000) := (blk_cell BK327.out 0).trans rfl
          have hfz18_0 := blk_frozen BK327.out 0
          go_wp2_with (first | ((with_reducible refine gate_builtin (b := .append) (xs := #[.tmp 16, .tmp 18]) rfl ?_); at_builtin; refine Kd.R_append (Kd.int .i64) (w0 := w) w.heap.size rfl (.tmp 16) (.tmp 18) 22 2 (.int .i64 0) 8 rfl Try.underlying22 info2 rfl (by decide) (by omega) u328000 x328000_1 a1 [.int .i64 a1] (fun _ => True) (fun _ => False) rfl rfl ?aP (fun _ hk => hk.elim) ?aF ?aO ?aB ?aS ?aL ?_; (case aP => exact rfl); (case aB => exact (by repeat (first | (with_reducible first | exact HB.out | apply below_alloc | apply pw_below_drewN | apply below_drew1 | refine below_set ?_ GE322.out | refine below_set ?_ GE323.out | refine below_set ?_ GE327.out) | exact HB.out))); (case aF => exact (fun _ _ => trivial)); (case aO => exact (by (with_reducible repeat (first | apply Kd.R_alloc | apply Kd.R_drewN | apply Kd.R_drew)); exact HO_328000.out)); (case aS => exact (below_size (by repeat (first | (with_reducible first | exact HB.out | apply below_alloc | apply pw_below_drewN | apply below_drew1 | refine below_set ?_ GE322.out | refine below_set ?_ GE323.out | refine below_set ?_ GE327.out) | exact HB.out)))); (case aL => have := LMc13.out; omega); intro v329 w19 ho hb hg hat; rw [← Ny328.out] at ho; have n0_ := Aside0.mk (blk_grown (g := gb322) (o := .cells #[.int .i64 a0_0, .int .i64 a0_1] 42 (0, 0)) (by (with_reducible repeat (first | refine blk_drewN ?_ _ | refine blk_drew ?_ | refine blk_alloc ?_ _)); exact BK322.out) hg (Kd.R_ne HO_328000.out BK322.out (by decide))); have n1_ := Aside0.mk (blk_grown (g := gb323) (o := .cells #[.slice none 0 0] 67 (0, 0)) (by (with_reducible repeat (first | refine blk_drewN ?_ _ | refine blk_drew ?_ | refine blk_alloc ?_ _)); exact BK323.out) hg (Kd.R_ne HO_328000.out BK323.out (by decide))); have n2_ := Aside0.mk (blk_grown (g := gb327) (o := .cells #[u328000] 67 (0, 0)) (by (with_reducible repeat (first | refine blk_drewN ?_ _ | refine blk_drew ?_ | refine blk_alloc ?_ _)); exact BK327.out) hg (Kd.R_ne HO_328000.out BK327.out (by decide))); have n3_ := Aside0.mk (hb); have n4_ := Aside0.mk (ho); clear BK322; clear BK323; clear BK327; clear HB; clear HO_328000; have BK322 := n0_; have BK323 := n1_; have BK327 := n2_; have HB := n3_; have HO330 := n4_; clear n0_ n1_ n2_ n3_ n4_; clear ho hb hg hat; obtain ⟨Ao20, co20, eo20⟩ := Kd.R_slice HO330.out; subst eo20; have hcz21_0 : w19.cell? ⟨gb327, 0, none⟩ = some (u328000) := (blk_cell BK327.out 0).trans rfl; have hfz21_0 := blk_frozen BK327.out 0))
          go_roundg k1
          case measure => have := HK1.out; omega
          case rel => exact ⟨(wrap64 (x6_1 + 1)), (y328), (.slice Ao20 y328.length co20), (by first | rfl | (simp; done) | (simp [*]; done)), H', ⟨by have := HK1.out; omega⟩, ⟨by (with_reducible repeat (first | apply Kd.R_alloc | apply Kd.R_drewN | apply Kd.R_drew)); exact Kd.R_mono (Kd.R_far (p := ⟨gb327, 0, none⟩) (Kd.R_types HO330.out BK327.out (by decide)) (fun _ hk => hk.2) (.slice Ao20 y328.length co20)) (fun _ hk => trivial)⟩, ⟨by (with_reducible repeat (first | refine blk_drewN ?_ _ | refine blk_drew ?_ | refine blk_alloc ?_ _)); refine blk_far ?_ NB322_327.out _; (with_reducible repeat (first | refine blk_drewN ?_ _ | refine blk_drew ?_ | refine blk_alloc ?_ _)); exact BK322.out⟩, ⟨by (with_reducible repeat (first | refine blk_drewN ?_ _ | refine blk_drew ?_ | refine blk_alloc ?_ _)); refine blk_far ?_ NB323_327.out _; (with_reducible repeat (first | refine blk_drewN ?_ _ | refine blk_drew ?_ | refine blk_alloc ?_ _)); exact BK323.out⟩, ⟨by (with_reducible repeat (first | refine blk_drewN ?_ _ | refine blk_drew ?_ | refine blk_alloc ?_ _)); refine blk_put (cs := #[u328000]) ?_ 0 _ rfl; (with_reducible repeat (first | refine blk_drewN ?_ _ | refine blk_drew ?_ | refine blk_alloc ?_ _)); exact BK327.out⟩, ⟨by repeat (first | (with_reducible first | exact HB.out | apply below_alloc | apply pw_below_drewN | apply below_drew1 | refine below_set ?_ GE322.out | refine below_set ?_ GE323.out | refine below_set ?_ GE327.out) | exact HB.out)⟩⟩
        · rw [if_neg c13] at H
          exact absurd H (by simp)
      · rw [if_neg c12] at H
        have c12b0 : decide (x6_1 < a0_0) = false := decide_eq_false c12
        clear c12
        obtain rfl := Option.some.inj H
        have hnb22 := NB322_323.out
        have hnc22 := NB323_322.out
        have hnb23 := NB322_327.out
        have hnc23 := NB327_322.out
        have hcz24_0 : wr.cell? ⟨gb322, 0, none⟩ = some (.int .i64 a0_0) := (blk_cell BK322.out 0).trans rfl
        have hcz24_1 : wr.cell? ⟨gb322, 1, none⟩ = some (.int .i64 a0_1) := (blk_cell BK322.out 1).trans rfl
        have hfz24_0 := blk_frozen BK322.out 0
        have hfz24_1 := blk_frozen BK322.out 1
        have hnb25 := NB327_323.out
        have hnc25 := NB323_327.out
        have hcz26_0 : wr.cell? ⟨gb327, 0, none⟩ = some (u328000) := (blk_cell BK327.out 0).trans rfl
        have hfz26_0 := blk_frozen BK327.out 0
        obtain ⟨Ao27, co27, eo27⟩ := Kd.R_slice HO_328000.out
        subst eo27
        have hcz28_0 : wr.cell? ⟨gb323, 0, none⟩ = some (.slice none 0 0) := (blk_cell BK323.out 0).trans rfl
        have hfz28_0 := blk_frozen BK323.out 0
        go_wp2
        refine bodyPost_ret (results_cell_row rfl _ _ gb323 67 #[.slice Ao27 x328000_1.length co27] (0, 0) _ rfl (by (with_reducible repeat (first | refine blk_drewN ?_ _ | refine blk_drew ?_ | refine blk_alloc ?_ _)); refine blk_put (cs := #[.slice none 0 0]) ?_ 0 _ rfl; (with_reducible repeat (first | refine blk_drewN ?_ _ | refine blk_drew ?_ | refine blk_alloc ?_ _)); exact BK323.out) Try.underlying67 rfl (by kernel_rfl)) rfl ?_
        exact ⟨_, by first | rfl | (simp [errW_none, errW_some] <;> rfl) | (simp [*, errW_none, errW_some] <;> rfl), by (with_reducible repeat (first | apply Kd.R_alloc | apply Kd.R_drewN | apply Kd.R_drew)); exact Kd.R_mono (Kd.R_far (p := ⟨gb323, 0, none⟩) (Kd.R_types HO_328000.out BK323.out (by decide)) (fun _ hk => hk.2) (.slice Ao27 x328000_1.length co27)) (fun _ hk => trivial), by repeat (first | (with_reducible first | exact HB.out | apply below_alloc | apply pw_below_drewN | apply below_drew1 | refine below_set ?_ GE322.out | refine below_set ?_ GE323.out | refine below_set ?_ GE327.out) | exact HB.out)⟩

end Go.Proofs.Ytoakdilhljnjfaa.Q
