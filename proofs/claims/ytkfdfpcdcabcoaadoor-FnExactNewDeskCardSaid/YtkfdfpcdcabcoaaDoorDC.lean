/- Walks: the printed functions, and that each call comes to them (3). -/
import Derived.Test.YtkfdfpcdcabcoaaDoorX
import Derived.Test.YtkfdfpcdcabcoaaDoorDA
import Derived.Test.YtkfdfpcdcabcoaaDoorDB
namespace Go.Proofs.YtkfdfpcdcabcoaaDoor.QDesx
open Go.RowKit Go.Proofs.YtkfdfpcdcabcoaaDoorW.PrintWords Go.Proofs.YtkfdfpcdcabcoaaDoorW.PrintLast Go.Proofs.YtkfdfpcdcabcoaaDoorW.PrintMore
attribute [local go_sem] max2_int min2_int max_two min_two max_three min_three max_four min_four
set_option linter.unusedVariables false
set_option linter.unusedSimpArgs false

/-! ### spec_l07Branch: function 60 -/
def spec_l07Branch.l0 : Nat → Int → List Int → Int → List Int → List Int → List Int → Option (List Int × List Int × List Int)
 | 0, _, _, _, _, _, _ => none
 | k + 1, x1, x5, x7, x169000, x169001, x169002 => if x7 < x1 then (if x169000.length < 17592186044416 then ((some (x169000 ++ [wrap64 (x7 - 1)] : List Int)).bind fun y169 => (if x7 > 0 then (if 0 ≤ (wrap64 (x7 - 1)) then (if (wrap64 (x7 - 1)) < (x5.length : Int) then (if (rd x5 (wrap64 (x7 - 1))) = 0 then (if x169001.length < 17592186044416 then (spec_l07Branch.l0 k x1 x5 (wrap64 (x7 + 1)) y169 (x169001 ++ [(-1)]) x169002) else (none)) else (if x169001.length < 17592186044416 then (spec_l07Branch.l0 k x1 x5 (wrap64 (x7 + 1)) y169 (x169001 ++ [wrap64 (x7 - (rd x5 (wrap64 (x7 - 1))))]) x169002) else (none))) else (none)) else (none)) else (if x169001.length < 17592186044416 then (spec_l07Branch.l0 k x1 x5 (wrap64 (x7 + 1)) y169 (x169001 ++ [(-1)]) x169002) else (none)))) else (none)) else (some (x169000, x169001, x169002))
def spec_l07Branch.f (k : Nat) (l0_0 : List Int) (a1 : Int) : Option (List Int × List Int × List Int) := (spec_l06Code.f k l0_0 a1).bind fun t162 => ((spec_l06Sequence.f k l0_0 a1).bind fun t165 => (spec_l07Branch.l0 k a1 t162 0 ([] : List Int) ([] : List Int) t165))
def spec_l07Branch.T1 : Bool × List (List Nat × List Nat) := (true, [([], []), ([], []), ([0, 1], [0, 1]), ([], []), ([], []), ([3, 4, 2], [3, 4]), ([5], [5]), ([], []), ([2, 5, 0, 1, 2, 7], [2]), ([7, 6, 8, 0, 1, 2, 3, 4, 5, 6, 7, 8], [6, 7])])
def spec_l07Branch.B1 : List Nat := [0, 0, 3, 0, 0, 31, 63, 0, 191, 511]
theorem spec_l07Branch.tab1 : rtab .any (opsOf Tryd.f60 1) = spec_l07Branch.T1 := by kernel_rfl
theorem spec_l07Branch.bits1 : waitsOk spec_l07Branch.T1.2 spec_l07Branch.B1 = true := by kernel_rfl
set_option maxHeartbeats 8000000 in
set_option maxRecDepth 100000 in
theorem spec_l07Branch.calls (k : Nat) (A0_0 : Option Addr) (c0_0 : Nat) (l0_0 : List Int) (a1 : Int) (r1 : List Int) (r2 : List Int) (r3 : List Int) (w : World) (hr0_0 : Kd.C (Kd.int .i64) w A0_0 l0_0.length l0_0) (hc0_0 : l0_0.length ≤ c0_0) (h : spec_l07Branch.f k l0_0 a1 = some (r1, r2, r3)) :
  Calls Tryd.prog 60 #[.agg #[.slice A0_0 l0_0.length c0_0], .int .i64 a1] w fun e w' => ∃ v0_ v1_ v2_ : Value, e = .returned (.agg #[v0_, v1_, v2_]) ∧ Kd.R (Kd.int .i64) 2 w' w.heap.size (fun k_ => some k_ ≠ (v1_ : Value).ownBlock ∧ some k_ ≠ (v2_ : Value).ownBlock) v0_ r1 ∧ Kd.R (Kd.int .i64) 2 w' w.heap.size (fun k_ => some k_ ≠ (v0_ : Value).ownBlock ∧ some k_ ≠ (v2_ : Value).ownBlock) v1_ r2 ∧ Kd.R (Kd.int .i64) 2 w' w.heap.size (fun k_ => some k_ ≠ (v0_ : Value).ownBlock ∧ some k_ ≠ (v1_ : Value).ownBlock) v2_ r3 ∧ Below w.heap.size w w' := by
 have hu74 := Tryd.underlying74
 have hu37 := Tryd.underlying37
 have HR0_0 := Aside0.mk hr0_0
 have HC0_0 := Aside0.mk hc0_0
 clear hr0_0 hc0_0
 have HB := Aside0.mk (Below.refl w.heap.size w)
 have H : ((spec_l06Code.f k l0_0 a1).bind fun t162 => ((spec_l06Sequence.f k l0_0 a1).bind fun t165 => (spec_l07Branch.l0 k a1 t162 0 ([] : List Int) ([] : List Int) t165))) = some (r1, r2, r3) := h
 clear h
 replace H := Option.bind_eq_some_iff.mp H
 obtain ⟨t162, A30, H⟩ := H
 replace H : ((spec_l06Sequence.f k l0_0 a1).bind fun t165 => (spec_l07Branch.l0 k a1 t162 0 ([] : List Int) ([] : List Int) t165)) = some (r1, r2, r3) := H
 have A3 := Aside0.mk A30
 clear A30
 replace H := Option.bind_eq_some_iff.mp H
 obtain ⟨t165, A40, H⟩ := H
 replace H : (spec_l07Branch.l0 k a1 t162 0 ([] : List Int) ([] : List Int) t165) = some (r1, r2, r3) := H
 have A4 := Aside0.mk A40
 clear A40
 have H' := Aside0.mk H
 clear H
 go_enter Tryd.func60, Tryd.ntmps60
 try go_wp2_with (first | ((with_reducible refine gate_dst (N := 2) rfl ?_); refine box_event ?hg (N := 2) ?hd (cs := #[.slice A0_0 l0_0.length c0_0]) (t := 74) ?hr ?_; (case hd => rfl); (case hg => rfl); (case hr => first | (go_simp; done) | (go_simp; rfl)); intro gb160 hg w5 hbox hb; have BK160 := Aside0.mk (hbox); have GW160 := Aside0.mk ((by rw [hg]; exact (below_size bq) : w.heap.size ≤ gb160)); have GE160 := Aside0.mk ((by rw [hg]; exact (below_size bq) : w.heap.size ≤ gb160)); replace HB := Aside0.mk (below_step bq hb); clear hb hbox hg) | ((with_reducible refine gate_dst (N := 4) rfl ?_); refine box_event ?hg (N := 4) ?hd (cs := #[.slice none 0 0, .slice none 0 0, .slice none 0 0]) (t := 37) ?hr ?_; (case hd => rfl); (case hg => rfl); (case hr => first | (go_simp; done) | (go_simp; rfl)); intro gb161 hg w6 hbox hb; have BK161 := Aside0.mk (hbox); have GW161 := Aside0.mk ((by rw [hg]; exact (below_size bq) : w.heap.size ≤ gb161)); have GE161 := Aside0.mk ((by rw [hg]; exact (below_size bq) : w.heap.size ≤ gb161)); replace HB := Aside0.mk (below_step bq hb); have NB160_161 := Aside0.mk ((by rw [hg]; exact Nat.ne_of_lt (blk_lt (g := gb160) (o := .cells #[.slice A0_0 l0_0.length c0_0] 74 (0, 0)) (bk BK160)) : gb160 ≠ gb161)); have NB161_160 := Aside0.mk ((by rw [hg]; exact Nat.ne_of_gt (blk_lt (g := gb160) (o := .cells #[.slice A0_0 l0_0.length c0_0] 74 (0, 0)) (bk BK160)) : gb161 ≠ gb160)); replace BK160 := Aside0.mk (blk_below (g := gb160) (o := .cells #[.slice A0_0 l0_0.length c0_0] 74 (0, 0)) (bk BK160) hb); clear hb hbox hg))
 have n0_ := Aside0.mk (blk_drew BK160.out)
 have n1_ := Aside0.mk (blk_drew BK161.out)
 have n2_ := Aside0.mk (below_drew1 HB.out)
 clear BK160
 clear BK161
 clear HB
 have BK160 := n0_
 have BK161 := n1_
 have HB := n2_
 clear n0_ n1_ n2_
 refine start_ (n := 10) (S := fun w' => w'.cell? ⟨gb160, 0, none⟩ = some (.slice A0_0 l0_0.length c0_0)) (ds := []) (bA 10 0) (by kernel_rfl) rfl (by kernel_rfl) ((blk_cell BK160.out 0).trans rfl) (fun hHeld => ?_); refine with_tabW spec_l07Branch.tab1 spec_l07Branch.bits1 (fun HT_ HW_ => ?_)
 generalize w6.drew = w7 at BK160 BK161 HB hHeld ⊢
 refine pu HT_ 1 10 2 ?_
 refine pu HT_ 4 13 18 ?_
 refine tk1 HT_ HW_ hHeld 0 9 19 ?_
 refine tk1 HT_ HW_ hHeld 3 12 27 ?_
 refine join_ (σ := Value × Value × Nat) 2 (bA 10 255) (fun s_ => [(11, s_.1), (14, s_.2.1), (6, .pointer (some ⟨s_.2.2, 0, none⟩)), (15, .agg #[.slice none 0 0, .slice none 0 0, s_.2.1])]) (fun s_ w' => (w'.cell? ⟨gb160, 0, none⟩ = some (.slice A0_0 l0_0.length c0_0)) ∧ (Kd.R (Kd.int .i64) 2 w' w.heap.size (fun k_ => some k_ ≠ (s_.2.1 : Value).ownBlock) s_.1 t162) ∧ (Kd.R (Kd.int .i64) 2 w' w.heap.size (fun k_ => some k_ ≠ (s_.1 : Value).ownBlock) s_.2.1 t165) ∧ (w'.heap[gb160]? = some (.cells #[.slice A0_0 l0_0.length c0_0] 74 (0, 0))) ∧ (w'.heap[gb161]? = some (.cells #[.slice none 0 0, .slice none 0 0, .slice none 0 0] 37 (0, 0))) ∧ (w'.heap[s_.2.2]? = some (.cells #[.slice none 0 0, .slice none 0 0, .slice none 0 0] 37 (0, 0))) ∧ (w.heap.size ≤ s_.2.2) ∧ (w.heap.size ≤ s_.2.2) ∧ (gb160 ≠ s_.2.2) ∧ (s_.2.2 ≠ gb160) ∧ (gb161 ≠ s_.2.2) ∧ (s_.2.2 ≠ gb161) ∧ (Below w.heap.size w w')) ?_ ?_
 rotate_left
 ·intro hCont
  refine two_ (i := 2) (j := 7) (Ni := some 11) (Nj := some 6) (bA 10 31) (bA 10 155) rfl rfl rfl rfl (two_of HT_.out (by kernel_rfl)) (by decide) (by decide) (fun K hK => ?_) (fun K hK => ?_)
  ·skip
   refine goes_ Tryd.func78 (by kernel_rfl) rfl #[.agg #[.slice A0_0 l0_0.length c0_0], .int .i64 a1] (by rfl) rfl rfl (by (try simp only [List.map_toArray, List.map_cons, List.map_nil]); first | done | rfl | (simp only [List.length_drop, List.length_take]; rfl)) ?_
   with_reducible refine (spec_l06Code.calls k _ _ l0_0 a1 t162 _ ?side1 ?side2 A3.out).mono ?_
   (case side1 => exact kc HR0_0)
   (case side2 => exact HC0_0.out)
   rintro e w8 ⟨v163, rfl, ho0, hb⟩
   refine ⟨_, rfl, ?_⟩
   have n0_ := Aside0.mk (Kd.R_lower ho0 (below_size bq))
   have n1_ := Aside0.mk (blk_below (g := gb160) (o := .cells #[.slice A0_0 l0_0.length c0_0] 74 (0, 0)) (bk BK160) hb)
   have n2_ := Aside0.mk (blk_below (g := gb161) (o := .cells #[.slice none 0 0, .slice none 0 0, .slice none 0 0] 37 (0, 0)) (bk BK161) hb)
   have n3_ := Aside0.mk (below_step bq hb)
   clear BK160
   clear BK161
   clear HB
   have HO164 := n0_
   have BK160 := n1_
   have BK161 := n2_
   have HB := n3_
   clear n0_ n1_ n2_ n3_
   
   
   
   
   (try clear ho0)
   refine hK.out _ _ ((blk_cell BK160.out 0).trans rfl) (fun hHeld => ?_)
   clear hK K
   refine norm_ (a' := ?_) ?_ ?_
   rotate_left
   ·show Act.put _ (some 11) _ = _
    simp only [Act.put, List.setIfInBounds_toArray, List.set_cons_zero, List.set_cons_succ, i64_w, i32_w]
    rfl
   refine two_ (i := 5) (j := 7) (Ni := some 14) (Nj := some 6) (bA 10 63) (bA 10 159) rfl rfl rfl rfl (two_of HT_.out (by kernel_rfl)) (by decide) (by decide) (fun K hK => ?_) (fun K hK => ?_)
   ·skip
    refine goes_ Tryd.func92 (by kernel_rfl) rfl #[.agg #[.slice A0_0 l0_0.length c0_0], .int .i64 a1] (by rfl) rfl rfl (by (try simp only [List.map_toArray, List.map_cons, List.map_nil]); first | done | rfl | (simp only [List.length_drop, List.length_take]; rfl)) ?_
    with_reducible refine (spec_l06Sequence.calls k _ _ l0_0 a1 t165 _ ?side1 ?side2 A4.out).mono ?_
    (case side1 => exact kc HR0_0)
    (case side2 => exact HC0_0.out)
    rintro e w9 ⟨v166, rfl, ho0, hb⟩
    refine ⟨_, rfl, ?_⟩
    have n0_ := Aside0.mk (Kd.R_elder' (by (with_reducible repeat (first | apply Kd.R_alloc | apply Kd.R_drewN | apply Kd.R_drew)); exact HO164.out) (Kd.R_base ho0) hb)
    have n1_ := Aside0.mk (Kd.R_lower (Kd.R_new' ho0 (Kd.R_lt (by (with_reducible repeat (first | apply Kd.R_alloc | apply Kd.R_drewN | apply Kd.R_drew)); exact HO164.out))) (below_size bq))
    have n2_ := Aside0.mk (blk_below (g := gb160) (o := .cells #[.slice A0_0 l0_0.length c0_0] 74 (0, 0)) (bk BK160) hb)
    have n3_ := Aside0.mk (blk_below (g := gb161) (o := .cells #[.slice none 0 0, .slice none 0 0, .slice none 0 0] 37 (0, 0)) (bk BK161) hb)
    have n4_ := Aside0.mk (below_step bq hb)
    clear HO164
    clear BK160
    clear BK161
    clear HB
    have HO164 := n0_
    have HO167 := n1_
    have BK160 := n2_
    have BK161 := n3_
    have HB := n4_
    clear n0_ n1_ n2_ n3_ n4_
    
    
    
    
    (try clear ho0)
    obtain ⟨Ao10, co10, eo10⟩ := Kd.R_slice HO167.out
    (first | subst eo10 | (injection eo10 with f1_ f2_ f3_; have f4_ := f1_.symm; have f5_ := f3_.symm; clear f1_ f2_ f3_; subst f4_; subst f5_))
    refine hK.out _ _ ((blk_cell BK160.out 0).trans rfl) (fun hHeld => ?_)
    clear hK K
    refine norm_ (a' := ?_) ?_ ?_
    rotate_left
    ·show Act.put _ (some 14) _ = _
     simp only [Act.put, List.setIfInBounds_toArray, List.set_cons_zero, List.set_cons_succ, i64_w, i32_w]
     rfl
    refine pu HT_ 6 15 127 ?_
    refine one_ (i := 7) (N := some 6) (bA 10 255) rfl rfl (one_of HT_.out (by kernel_rfl)) (by decide) (fun K hK => ?_)
    refine box_step ?hg (N := 6) ?hd (cs := #[.slice none 0 0, .slice none 0 0, .slice none 0 0]) (t := 37) ?hr ?_; (case hd => rfl); (case hg => rfl); (case hr => first | (go_simp; done) | (go_simp; rfl))
    intro gb168 hg w11 hbox hb
    have n0_ := Aside0.mk (Kd.R_below (by (with_reducible repeat (first | apply Kd.R_alloc | apply Kd.R_drewN | apply Kd.R_drew)); exact HO164.out) hb)
    have n1_ := Aside0.mk (Kd.R_below (by (with_reducible repeat (first | apply Kd.R_alloc | apply Kd.R_drewN | apply Kd.R_drew)); exact HO167.out) hb)
    have n2_ := Aside0.mk (blk_below (g := gb160) (o := .cells #[.slice A0_0 l0_0.length c0_0] 74 (0, 0)) (bk BK160) hb)
    have n3_ := Aside0.mk (blk_below (g := gb161) (o := .cells #[.slice none 0 0, .slice none 0 0, .slice none 0 0] 37 (0, 0)) (bk BK161) hb)
    have n4_ := Aside0.mk (below_step bq hb)
    have n5_ := Aside0.mk (hbox)
    have n6_ := Aside0.mk ((by rw [hg]; exact (below_size bq) : w.heap.size ≤ gb168))
    have n7_ := Aside0.mk ((by rw [hg]; exact (below_size bq) : w.heap.size ≤ gb168))
    have n8_ := Aside0.mk ((by rw [hg]; exact Nat.ne_of_lt (blk_lt (g := gb160) (o := .cells #[.slice A0_0 l0_0.length c0_0] 74 (0, 0)) (bk BK160)) : gb160 ≠ gb168))
    have n9_ := Aside0.mk ((by rw [hg]; exact Nat.ne_of_gt (blk_lt (g := gb160) (o := .cells #[.slice A0_0 l0_0.length c0_0] 74 (0, 0)) (bk BK160)) : gb168 ≠ gb160))
    have n10_ := Aside0.mk ((by rw [hg]; exact Nat.ne_of_lt (blk_lt (g := gb161) (o := .cells #[.slice none 0 0, .slice none 0 0, .slice none 0 0] 37 (0, 0)) (bk BK161)) : gb161 ≠ gb168))
    have n11_ := Aside0.mk ((by rw [hg]; exact Nat.ne_of_gt (blk_lt (g := gb161) (o := .cells #[.slice none 0 0, .slice none 0 0, .slice none 0 0] 37 (0, 0)) (bk BK161)) : gb168 ≠ gb161))
    clear HO164
    clear HO167
    clear BK160
    clear BK161
    clear HB
    have HO164 := n0_
    have HO167 := n1_
    have BK160 := n2_
    have BK161 := n3_
    have HB := n4_
    have BK168 := n5_
    have GW168 := n6_
    have GE168 := n7_
    have NB160_168 := n8_
    have NB168_160 := n9_
    have NB161_168 := n10_
    have NB168_161 := n11_
    clear n0_ n1_ n2_ n3_ n4_ n5_ n6_ n7_ n8_ n9_ n10_ n11_
    clear hb hbox hg
    refine hK.out _ _ ((blk_cell BK160.out 0).trans rfl) (fun hHeld => ?_)
    clear hK K
    refine norm_ (a' := ?_) ?_ ?_
    rotate_left
    ·show Act.put _ (some 6) _ = _
     simp only [Act.put, List.setIfInBounds_toArray, List.set_cons_zero, List.set_cons_succ, i64_w, i32_w]
     rfl
    exact norm_ (by simp only [putAll, Act.put, List.setIfInBounds_toArray, List.set_cons_zero, List.set_cons_succ]) (hCont (v163, .slice Ao10 t165.length co10, gb168) _ ⟨hHeld, (by (with_reducible repeat (first | apply Kd.R_alloc | apply Kd.R_drewN | apply Kd.R_drew)); exact Kd.R_mono HO164.out (fun _ hk => hk.2)), (by (with_reducible repeat (first | apply Kd.R_alloc | apply Kd.R_drewN | apply Kd.R_drew)); exact Kd.R_mono HO167.out (fun _ hk => hk.2)), (bk BK160), (bk BK161), (bk BK168), GW168.out, GE168.out, NB160_168.out, NB168_160.out, NB161_168.out, NB168_161.out, bq⟩)
   ·skip
    refine box_step ?hg (N := 6) ?hd (cs := #[.slice none 0 0, .slice none 0 0, .slice none 0 0]) (t := 37) ?hr ?_; (case hd => rfl); (case hg => rfl); (case hr => first | (go_simp; done) | (go_simp; rfl))
    intro gb168 hg w9 hbox hb
    have n0_ := Aside0.mk (Kd.R_below (by (with_reducible repeat (first | apply Kd.R_alloc | apply Kd.R_drewN | apply Kd.R_drew)); exact HO164.out) hb)
    have n1_ := Aside0.mk (blk_below (g := gb160) (o := .cells #[.slice A0_0 l0_0.length c0_0] 74 (0, 0)) (bk BK160) hb)
    have n2_ := Aside0.mk (blk_below (g := gb161) (o := .cells #[.slice none 0 0, .slice none 0 0, .slice none 0 0] 37 (0, 0)) (bk BK161) hb)
    have n3_ := Aside0.mk (below_step bq hb)
    have n4_ := Aside0.mk (hbox)
    have n5_ := Aside0.mk ((by rw [hg]; exact (below_size bq) : w.heap.size ≤ gb168))
    have n6_ := Aside0.mk ((by rw [hg]; exact (below_size bq) : w.heap.size ≤ gb168))
    have n7_ := Aside0.mk ((by rw [hg]; exact Nat.ne_of_lt (blk_lt (g := gb160) (o := .cells #[.slice A0_0 l0_0.length c0_0] 74 (0, 0)) (bk BK160)) : gb160 ≠ gb168))
    have n8_ := Aside0.mk ((by rw [hg]; exact Nat.ne_of_gt (blk_lt (g := gb160) (o := .cells #[.slice A0_0 l0_0.length c0_0] 74 (0, 0)) (bk BK160)) : gb168 ≠ gb160))
    have n9_ := Aside0.mk ((by rw [hg]; exact Nat.ne_of_lt (blk_lt (g := gb161) (o := .cells #[.slice none 0 0, .slice none 0 0, .slice none 0 0] 37 (0, 0)) (bk BK161)) : gb161 ≠ gb168))
    have n10_ := Aside0.mk ((by rw [hg]; exact Nat.ne_of_gt (blk_lt (g := gb161) (o := .cells #[.slice none 0 0, .slice none 0 0, .slice none 0 0] 37 (0, 0)) (bk BK161)) : gb168 ≠ gb161))
    clear HO164
    clear BK160
    clear BK161
    clear HB
    have HO164 := n0_
    have BK160 := n1_
    have BK161 := n2_
    have HB := n3_
    have BK168 := n4_
    have GW168 := n5_
    have GE168 := n6_
    have NB160_168 := n7_
    have NB168_160 := n8_
    have NB161_168 := n9_
    have NB168_161 := n10_
    clear n0_ n1_ n2_ n3_ n4_ n5_ n6_ n7_ n8_ n9_ n10_
    clear hb hbox hg
    refine hK.out _ _ ((blk_cell BK160.out 0).trans rfl) (fun hHeld => ?_)
    clear hK K
    refine norm_ (a' := ?_) ?_ ?_
    rotate_left
    ·show Act.put _ (some 6) _ = _
     simp only [Act.put, List.setIfInBounds_toArray, List.set_cons_zero, List.set_cons_succ, i64_w, i32_w]
     rfl
    refine one_ (i := 5) (N := some 14) (bA 10 191) rfl rfl (one_of HT_.out (by kernel_rfl)) (by decide) (fun K hK => ?_)
    refine goes_ Tryd.func92 (by kernel_rfl) rfl #[.agg #[.slice A0_0 l0_0.length c0_0], .int .i64 a1] (by rfl) rfl rfl (by (try simp only [List.map_toArray, List.map_cons, List.map_nil]); first | done | rfl | (simp only [List.length_drop, List.length_take]; rfl)) ?_
    with_reducible refine (spec_l06Sequence.calls k _ _ l0_0 a1 t165 _ ?side1 ?side2 A4.out).mono ?_
    (case side1 => exact kc HR0_0)
    (case side2 => exact HC0_0.out)
    rintro e w10 ⟨v166, rfl, ho0, hb⟩
    refine ⟨_, rfl, ?_⟩
    have n0_ := Aside0.mk (Kd.R_elder' (by (with_reducible repeat (first | apply Kd.R_alloc | apply Kd.R_drewN | apply Kd.R_drew)); exact HO164.out) (Kd.R_base ho0) hb)
    have n1_ := Aside0.mk (Kd.R_lower (Kd.R_new' ho0 (Kd.R_lt (by (with_reducible repeat (first | apply Kd.R_alloc | apply Kd.R_drewN | apply Kd.R_drew)); exact HO164.out))) (below_size bq))
    have n2_ := Aside0.mk (blk_below (g := gb160) (o := .cells #[.slice A0_0 l0_0.length c0_0] 74 (0, 0)) (bk BK160) hb)
    have n3_ := Aside0.mk (blk_below (g := gb161) (o := .cells #[.slice none 0 0, .slice none 0 0, .slice none 0 0] 37 (0, 0)) (bk BK161) hb)
    have n4_ := Aside0.mk (blk_below (g := gb168) (o := .cells #[.slice none 0 0, .slice none 0 0, .slice none 0 0] 37 (0, 0)) (bk BK168) hb)
    have n5_ := Aside0.mk (below_step bq hb)
    clear HO164
    clear BK160
    clear BK161
    clear BK168
    clear HB
    have HO164 := n0_
    have HO167 := n1_
    have BK160 := n2_
    have BK161 := n3_
    have BK168 := n4_
    have HB := n5_
    clear n0_ n1_ n2_ n3_ n4_ n5_
    
    
    
    
    (try clear ho0)
    obtain ⟨Ao11, co11, eo11⟩ := Kd.R_slice HO167.out
    (first | subst eo11 | (injection eo11 with f1_ f2_ f3_; have f4_ := f1_.symm; have f5_ := f3_.symm; clear f1_ f2_ f3_; subst f4_; subst f5_))
    refine hK.out _ _ ((blk_cell BK160.out 0).trans rfl) (fun hHeld => ?_)
    clear hK K
    refine norm_ (a' := ?_) ?_ ?_
    rotate_left
    ·show Act.put _ (some 14) _ = _
     simp only [Act.put, List.setIfInBounds_toArray, List.set_cons_zero, List.set_cons_succ, i64_w, i32_w]
     rfl
    refine pu HT_ 6 15 255 ?_
    exact norm_ (by simp only [putAll, Act.put, List.setIfInBounds_toArray, List.set_cons_zero, List.set_cons_succ]) (hCont (v163, .slice Ao11 t165.length co11, gb168) _ ⟨hHeld, (by (with_reducible repeat (first | apply Kd.R_alloc | apply Kd.R_drewN | apply Kd.R_drew)); exact Kd.R_mono HO164.out (fun _ hk => hk.2)), (by (with_reducible repeat (first | apply Kd.R_alloc | apply Kd.R_drewN | apply Kd.R_drew)); exact Kd.R_mono HO167.out (fun _ hk => hk.2)), (bk BK160), (bk BK161), (bk BK168), GW168.out, GE168.out, NB160_168.out, NB168_160.out, NB161_168.out, NB168_161.out, bq⟩)
  ·skip
   refine box_step ?hg (N := 6) ?hd (cs := #[.slice none 0 0, .slice none 0 0, .slice none 0 0]) (t := 37) ?hr ?_; (case hd => rfl); (case hg => rfl); (case hr => first | (go_simp; done) | (go_simp; rfl))
   intro gb168 hg w8 hbox hb
   have n0_ := Aside0.mk (blk_below (g := gb160) (o := .cells #[.slice A0_0 l0_0.length c0_0] 74 (0, 0)) (bk BK160) hb)
   have n1_ := Aside0.mk (blk_below (g := gb161) (o := .cells #[.slice none 0 0, .slice none 0 0, .slice none 0 0] 37 (0, 0)) (bk BK161) hb)
   have n2_ := Aside0.mk (below_step bq hb)
   have n3_ := Aside0.mk (hbox)
   have n4_ := Aside0.mk ((by rw [hg]; exact (below_size bq) : w.heap.size ≤ gb168))
   have n5_ := Aside0.mk ((by rw [hg]; exact (below_size bq) : w.heap.size ≤ gb168))
   have n6_ := Aside0.mk ((by rw [hg]; exact Nat.ne_of_lt (blk_lt (g := gb160) (o := .cells #[.slice A0_0 l0_0.length c0_0] 74 (0, 0)) (bk BK160)) : gb160 ≠ gb168))
   have n7_ := Aside0.mk ((by rw [hg]; exact Nat.ne_of_gt (blk_lt (g := gb160) (o := .cells #[.slice A0_0 l0_0.length c0_0] 74 (0, 0)) (bk BK160)) : gb168 ≠ gb160))
   have n8_ := Aside0.mk ((by rw [hg]; exact Nat.ne_of_lt (blk_lt (g := gb161) (o := .cells #[.slice none 0 0, .slice none 0 0, .slice none 0 0] 37 (0, 0)) (bk BK161)) : gb161 ≠ gb168))
   have n9_ := Aside0.mk ((by rw [hg]; exact Nat.ne_of_gt (blk_lt (g := gb161) (o := .cells #[.slice none 0 0, .slice none 0 0, .slice none 0 0] 37 (0, 0)) (bk BK161)) : gb168 ≠ gb161))
   clear BK160
   clear BK161
   clear HB
   have BK160 := n0_
   have BK161 := n1_
   have HB := n2_
   have BK168 := n3_
   have GW168 := n4_
   have GE168 := n5_
   have NB160_168 := n6_
   have NB168_160 := n7_
   have NB161_168 := n8_
   have NB168_161 := n9_
   clear n0_ n1_ n2_ n3_ n4_ n5_ n6_ n7_ n8_ n9_
   clear hb hbox hg
   refine hK.out _ _ ((blk_cell BK160.out 0).trans rfl) (fun hHeld => ?_)
   clear hK K
   refine norm_ (a' := ?_) ?_ ?_
   rotate_left
   ·show Act.put _ (some 6) _ = _
    simp only [Act.put, List.setIfInBounds_toArray, List.set_cons_zero, List.set_cons_succ, i64_w, i32_w]
    rfl
   refine one_ (i := 2) (N := some 11) (bA 10 159) rfl rfl (one_of HT_.out (by kernel_rfl)) (by decide) (fun K hK => ?_)
   refine goes_ Tryd.func78 (by kernel_rfl) rfl #[.agg #[.slice A0_0 l0_0.length c0_0], .int .i64 a1] (by rfl) rfl rfl (by (try simp only [List.map_toArray, List.map_cons, List.map_nil]); first | done | rfl | (simp only [List.length_drop, List.length_take]; rfl)) ?_
   with_reducible refine (spec_l06Code.calls k _ _ l0_0 a1 t162 _ ?side1 ?side2 A3.out).mono ?_
   (case side1 => exact kc HR0_0)
   (case side2 => exact HC0_0.out)
   rintro e w9 ⟨v163, rfl, ho0, hb⟩
   refine ⟨_, rfl, ?_⟩
   have n0_ := Aside0.mk (Kd.R_lower ho0 (below_size bq))
   have n1_ := Aside0.mk (blk_below (g := gb160) (o := .cells #[.slice A0_0 l0_0.length c0_0] 74 (0, 0)) (bk BK160) hb)
   have n2_ := Aside0.mk (blk_below (g := gb161) (o := .cells #[.slice none 0 0, .slice none 0 0, .slice none 0 0] 37 (0, 0)) (bk BK161) hb)
   have n3_ := Aside0.mk (blk_below (g := gb168) (o := .cells #[.slice none 0 0, .slice none 0 0, .slice none 0 0] 37 (0, 0)) (bk BK168) hb)
   have n4_ := Aside0.mk (below_step bq hb)
   clear BK160
   clear BK161
   clear BK168
   clear HB
   have HO164 := n0_
   have BK160 := n1_
   have BK161 := n2_
   have BK168 := n3_
   have HB := n4_
   clear n0_ n1_ n2_ n3_ n4_
   
   
   
   
   (try clear ho0)
   refine hK.out _ _ ((blk_cell BK160.out 0).trans rfl) (fun hHeld => ?_)
   clear hK K
   refine norm_ (a' := ?_) ?_ ?_
   rotate_left
   ·show Act.put _ (some 11) _ = _
    simp only [Act.put, List.setIfInBounds_toArray, List.set_cons_zero, List.set_cons_succ, i64_w, i32_w]
    rfl
   refine one_ (i := 5) (N := some 14) (bA 10 191) rfl rfl (one_of HT_.out (by kernel_rfl)) (by decide) (fun K hK => ?_)
   refine goes_ Tryd.func92 (by kernel_rfl) rfl #[.agg #[.slice A0_0 l0_0.length c0_0], .int .i64 a1] (by rfl) rfl rfl (by (try simp only [List.map_toArray, List.map_cons, List.map_nil]); first | done | rfl | (simp only [List.length_drop, List.length_take]; rfl)) ?_
   with_reducible refine (spec_l06Sequence.calls k _ _ l0_0 a1 t165 _ ?side1 ?side2 A4.out).mono ?_
   (case side1 => exact kc HR0_0)
   (case side2 => exact HC0_0.out)
   rintro e w10 ⟨v166, rfl, ho0, hb⟩
   refine ⟨_, rfl, ?_⟩
   have n0_ := Aside0.mk (Kd.R_elder' (by (with_reducible repeat (first | apply Kd.R_alloc | apply Kd.R_drewN | apply Kd.R_drew)); exact HO164.out) (Kd.R_base ho0) hb)
   have n1_ := Aside0.mk (Kd.R_lower (Kd.R_new' ho0 (Kd.R_lt (by (with_reducible repeat (first | apply Kd.R_alloc | apply Kd.R_drewN | apply Kd.R_drew)); exact HO164.out))) (below_size bq))
   have n2_ := Aside0.mk (blk_below (g := gb160) (o := .cells #[.slice A0_0 l0_0.length c0_0] 74 (0, 0)) (bk BK160) hb)
   have n3_ := Aside0.mk (blk_below (g := gb161) (o := .cells #[.slice none 0 0, .slice none 0 0, .slice none 0 0] 37 (0, 0)) (bk BK161) hb)
   have n4_ := Aside0.mk (blk_below (g := gb168) (o := .cells #[.slice none 0 0, .slice none 0 0, .slice none 0 0] 37 (0, 0)) (bk BK168) hb)
   have n5_ := Aside0.mk (below_step bq hb)
   clear HO164
   clear BK160
   clear BK161
   clear BK168
   clear HB
   have HO164 := n0_
   have HO167 := n1_
   have BK160 := n2_
   have BK161 := n3_
   have BK168 := n4_
   have HB := n5_
   clear n0_ n1_ n2_ n3_ n4_ n5_
   
   
   
   
   (try clear ho0)
   obtain ⟨Ao11, co11, eo11⟩ := Kd.R_slice HO167.out
   (first | subst eo11 | (injection eo11 with f1_ f2_ f3_; have f4_ := f1_.symm; have f5_ := f3_.symm; clear f1_ f2_ f3_; subst f4_; subst f5_))
   refine hK.out _ _ ((blk_cell BK160.out 0).trans rfl) (fun hHeld => ?_)
   clear hK K
   refine norm_ (a' := ?_) ?_ ?_
   rotate_left
   ·show Act.put _ (some 14) _ = _
    simp only [Act.put, List.setIfInBounds_toArray, List.set_cons_zero, List.set_cons_succ, i64_w, i32_w]
    rfl
   refine pu HT_ 6 15 255 ?_
   exact norm_ (by simp only [putAll, Act.put, List.setIfInBounds_toArray, List.set_cons_zero, List.set_cons_succ]) (hCont (v163, .slice Ao11 t165.length co11, gb168) _ ⟨hHeld, (by (with_reducible repeat (first | apply Kd.R_alloc | apply Kd.R_drewN | apply Kd.R_drew)); exact Kd.R_mono HO164.out (fun _ hk => hk.2)), (by (with_reducible repeat (first | apply Kd.R_alloc | apply Kd.R_drewN | apply Kd.R_drew)); exact Kd.R_mono HO167.out (fun _ hk => hk.2)), (bk BK160), (bk BK161), (bk BK168), GW168.out, GE168.out, NB160_168.out, NB168_160.out, NB161_168.out, NB168_161.out, bq⟩)
 rintro ⟨v163, v166, gb168⟩ w12 ⟨hS_, h0_, h1_, h2_, h3_, h4_, h5_, h6_, h7_, h8_, h9_, h10_, h11_⟩
 have n0_ : Aside0 (Kd.R (Kd.int .i64) 2 w12 w.heap.size (fun k_ => some k_ ≠ (v166 : Value).ownBlock) v163 t162) := ⟨h0_⟩
 have n1_ : Aside0 (Kd.R (Kd.int .i64) 2 w12 w.heap.size (fun k_ => some k_ ≠ (v163 : Value).ownBlock) v166 t165) := ⟨h1_⟩
 have n2_ : Aside0 (w12.heap[gb160]? = some (.cells #[.slice A0_0 l0_0.length c0_0] 74 (0, 0))) := ⟨h2_⟩
 have n3_ : Aside0 (w12.heap[gb161]? = some (.cells #[.slice none 0 0, .slice none 0 0, .slice none 0 0] 37 (0, 0))) := ⟨h3_⟩
 have n4_ : Aside0 (w12.heap[gb168]? = some (.cells #[.slice none 0 0, .slice none 0 0, .slice none 0 0] 37 (0, 0))) := ⟨h4_⟩
 have n5_ : Aside0 (w.heap.size ≤ gb168) := ⟨h5_⟩
 have n6_ : Aside0 (w.heap.size ≤ gb168) := ⟨h6_⟩
 have n7_ : Aside0 (gb160 ≠ gb168) := ⟨h7_⟩
 have n8_ : Aside0 (gb168 ≠ gb160) := ⟨h8_⟩
 have n9_ : Aside0 (gb161 ≠ gb168) := ⟨h9_⟩
 have n10_ : Aside0 (gb168 ≠ gb161) := ⟨h10_⟩
 have n11_ : Aside0 (Below w.heap.size w w12) := ⟨h11_⟩
 clear BK160
 clear BK161
 clear HB
 clear h0_ h1_ h2_ h3_ h4_ h5_ h6_ h7_ h8_ h9_ h10_ h11_
 have HO164 := n0_
 have HO167 := n1_
 have BK160 := n2_
 have BK161 := n3_
 have BK168 := n4_
 have GW168 := n5_
 have GE168 := n6_
 have NB160_168 := n7_
 have NB168_160 := n8_
 have NB161_168 := n9_
 have NB168_161 := n10_
 have HB := n11_
 clear n0_ n1_ n2_ n3_ n4_ n5_ n6_ n7_ n8_ n9_ n10_ n11_
 have hHeld : w12.cell? ⟨gb160, 0, none⟩ = some (.slice A0_0 l0_0.length c0_0) := hS_
 obtain ⟨Ao13, co13, eo13⟩ := Kd.R_slice HO167.out
 (first | subst eo13 | (injection eo13 with f1_ f2_ f3_; have f4_ := f1_.symm; have f5_ := f3_.symm; clear f1_ f2_ f3_; subst f4_; subst f5_))
 refine norm_ (a' := ?_) ?_ ?_
 rotate_left
 ·simp only [putAll, Act.put, List.setIfInBounds_toArray, List.set_cons_zero, List.set_cons_succ]
  rfl
 refine pu HT_ 8 5 511 ?_
 refine one_ (i := 9) (N := none) (bA 10 1023) rfl rfl (one_of HT_.out (by kernel_rfl)) (by decide) (fun K hK => ?_)
 have hs14 : w12.cell? ⟨gb168, 0, none⟩ = some (.slice none 0 0) := (blk_cell BK168.out 0).trans rfl
 have hfs14 := blk_frozen BK168.out 0
 have hns14_0 := NB160_168.out
 have hns14_1 := NB161_168.out
 have hms14_0 := NB168_160.out
 have hms14_1 := NB168_161.out
 have hs15 : w12.cell? ⟨gb168, 1, none⟩ = some (.slice none 0 0) := (blk_cell BK168.out 1).trans rfl
 have hfs15 := blk_frozen BK168.out 1
 have hns15_0 := NB160_168.out
 have hns15_1 := NB161_168.out
 have hms15_0 := NB168_160.out
 have hms15_1 := NB168_161.out
 have hs16 : w12.cell? ⟨gb168, 2, none⟩ = some (.slice none 0 0) := (blk_cell BK168.out 2).trans rfl
 have hfs16 := blk_frozen BK168.out 2
 have hns16_0 := NB160_168.out
 have hns16_1 := NB161_168.out
 have hms16_0 := NB168_160.out
 have hms16_1 := NB168_161.out
 refine skip_ (w1 := ?_) (by rfl) rfl ?_ ?_
 rotate_left
 ·go_simp
  rfl
 refine hK.out _ _ (((cell_far (p := ⟨gb168, _, none⟩) NB160_168.out _).trans (((cell_far (p := ⟨gb168, _, none⟩) NB160_168.out _).trans (((cell_far (p := ⟨gb168, _, none⟩) NB160_168.out _).trans (hHeld))))))) (fun hHeld => ?_)
 clear hK K
 refine done_ (done_of HT_.out (by kernel_rfl)) ?_
 try go_wp2
 go_loopg [7] k (fun kq v7 w' => ∃ (x7_1 : Int) (x169000_1 : List Int) (x169001_1 : List Int) (u169000 : Value) (u169001 : Value), v7 = .int .i64 x7_1 ∧ Aside0 (spec_l07Branch.l0 kq a1 t162 x7_1 x169000_1 x169001_1 t165 = some (r1, r2, r3)) ∧ Aside0 (kq ≤ k) ∧ Aside0 (Kd.R (Kd.int .i64) 2 w' w.heap.size (fun k_ => some k_ ≠ (u169000 : Value).ownBlock ∧ some k_ ≠ (u169001 : Value).ownBlock ∧ some k_ ≠ ((.slice Ao13 t165.length co13) : Value).ownBlock) v163 t162) ∧ Aside0 (Kd.R (Kd.int .i64) 2 w' w.heap.size (fun k_ => some k_ ≠ (v163 : Value).ownBlock ∧ some k_ ≠ (u169001 : Value).ownBlock ∧ some k_ ≠ ((.slice Ao13 t165.length co13) : Value).ownBlock) u169000 x169000_1) ∧ Aside0 (Kd.R (Kd.int .i64) 2 w' w.heap.size (fun k_ => some k_ ≠ (v163 : Value).ownBlock ∧ some k_ ≠ (u169000 : Value).ownBlock ∧ some k_ ≠ ((.slice Ao13 t165.length co13) : Value).ownBlock) u169001 x169001_1) ∧ Aside0 (Kd.R (Kd.int .i64) 2 w' w.heap.size (fun k_ => some k_ ≠ (v163 : Value).ownBlock ∧ some k_ ≠ (u169000 : Value).ownBlock ∧ some k_ ≠ (u169001 : Value).ownBlock) (.slice Ao13 t165.length co13) t165) ∧ Aside0 (w'.heap[gb160]? = some (.cells #[(.slice A0_0 l0_0.length c0_0)] 74 (0, 0))) ∧ Aside0 (w'.heap[gb161]? = some (.cells #[(.slice none 0 0), (.slice none 0 0), (.slice none 0 0)] 37 (0, 0))) ∧ Aside0 (w'.heap[gb168]? = some (.cells #[u169000, u169001, (.slice Ao13 t165.length co13)] 37 (0, 0))) ∧ Aside0 (Below w.heap.size w w'))
 case atStart => exact ⟨(0), (([] : List Int)), (([] : List Int)), (.slice none 0 0), (.slice none 0 0), (by first | rfl | (simp; done) | (simp [*]; done)), H', ⟨Nat.le_refl _⟩, ⟨by (with_reducible repeat (first | apply Kd.R_alloc | apply Kd.R_drewN | apply Kd.R_drew)); exact Kd.R_mono (Kd.R_far (p := ⟨gb168, 2, none⟩) (Kd.R_far (p := ⟨gb168, 1, none⟩) (Kd.R_far (p := ⟨gb168, 0, none⟩) (Kd.R_types HO164.out BK168.out (by decide)) (fun _ hk => hk.2) (.slice none 0 0)) (fun _ hk => hk.2) (.slice none 0 0)) (fun _ hk => hk.2) (.slice Ao13 t165.length co13)) (fun _ hk => ⟨(by simp [Value.ownBlock]), ⟨(by simp [Value.ownBlock]), hk.1⟩⟩)⟩, ⟨by first | exact Kd.R_nil _ _ _ _ _ | exact Kd.N_nil _ _ _ _ _ | exact Kd.V_nil _ _ _ _ _ | exact Kd.Q_nil _ _ _ _ _ | exact Kd.S_nil _ _ _ _ _⟩, ⟨by first | exact Kd.R_nil _ _ _ _ _ | exact Kd.N_nil _ _ _ _ _ | exact Kd.V_nil _ _ _ _ _ | exact Kd.Q_nil _ _ _ _ _ | exact Kd.S_nil _ _ _ _ _⟩, ⟨by (with_reducible repeat (first | apply Kd.R_alloc | apply Kd.R_drewN | apply Kd.R_drew)); exact Kd.R_mono (Kd.R_far (p := ⟨gb168, 2, none⟩) (Kd.R_far (p := ⟨gb168, 1, none⟩) (Kd.R_far (p := ⟨gb168, 0, none⟩) (Kd.R_types HO167.out BK168.out (by decide)) (fun _ hk => hk.2) (.slice none 0 0)) (fun _ hk => hk.2) (.slice none 0 0)) (fun _ hk => hk.2) (.slice Ao13 t165.length co13)) (fun _ hk => ⟨hk.1, ⟨(by simp [Value.ownBlock]), (by simp [Value.ownBlock])⟩⟩)⟩, ⟨by (with_reducible repeat (first | refine blk_drewN ?_ _ | refine blk_drew ?_ | refine blk_alloc ?_ _)); refine blk_far ?_ NB160_168.out _; (with_reducible repeat (first | refine blk_drewN ?_ _ | refine blk_drew ?_ | refine blk_alloc ?_ _)); refine blk_far ?_ NB160_168.out _; (with_reducible repeat (first | refine blk_drewN ?_ _ | refine blk_drew ?_ | refine blk_alloc ?_ _)); refine blk_far ?_ NB160_168.out _; (with_reducible repeat (first | refine blk_drewN ?_ _ | refine blk_drew ?_ | refine blk_alloc ?_ _)); exact BK160.out⟩, ⟨by (with_reducible repeat (first | refine blk_drewN ?_ _ | refine blk_drew ?_ | refine blk_alloc ?_ _)); refine blk_far ?_ NB161_168.out _; (with_reducible repeat (first | refine blk_drewN ?_ _ | refine blk_drew ?_ | refine blk_alloc ?_ _)); refine blk_far ?_ NB161_168.out _; (with_reducible repeat (first | refine blk_drewN ?_ _ | refine blk_drew ?_ | refine blk_alloc ?_ _)); refine blk_far ?_ NB161_168.out _; (with_reducible repeat (first | refine blk_drewN ?_ _ | refine blk_drew ?_ | refine blk_alloc ?_ _)); exact BK161.out⟩, ⟨by (with_reducible repeat (first | refine blk_drewN ?_ _ | refine blk_drew ?_ | refine blk_alloc ?_ _)); refine blk_put (cs := #[.slice none 0 0, .slice none 0 0, .slice none 0 0]) ?_ 2 _ rfl; (with_reducible repeat (first | refine blk_drewN ?_ _ | refine blk_drew ?_ | refine blk_alloc ?_ _)); refine blk_put (cs := #[.slice none 0 0, .slice none 0 0, .slice none 0 0]) ?_ 1 _ rfl; (with_reducible repeat (first | refine blk_drewN ?_ _ | refine blk_drew ?_ | refine blk_alloc ?_ _)); refine blk_put (cs := #[.slice none 0 0, .slice none 0 0, .slice none 0 0]) ?_ 0 _ rfl; (with_reducible repeat (first | refine blk_drewN ?_ _ | refine blk_drew ?_ | refine blk_alloc ?_ _)); exact BK168.out⟩, ⟨bq⟩⟩
 case round =>
  clear H'
  try clear p2
  try clear c6
  try clear c7
  try clear c9
  obtain ⟨x7_1, x169000_1, x169001_1, u169000, u169001, rfl, HA, HK1, HO_5, HO_169000, HO_169001, HO_169002, BK160, BK161, BK168, HB⟩ := hrel
  cases gk with
  | zero => exact absurd HA.out (by simp [spec_l07Branch.l0])
  | succ k1 =>
   have H := HA.out
   clear HA
   simp only [spec_l07Branch.l0] at H
   by_cases c17 : x7_1 < a1
   ·rw [if_pos c17] at H
    have c17b0 : decide (x7_1 < a1) = true := decide_eq_true c17
    clear c17
    revert H
    refine ifr fun c18 H => ?_
    have LMc18 := Aside0.mk c18
    clear c18
    obtain ⟨y169, hy169⟩ : ∃ y_ : List Int, y_ = (x169000_1 ++ [wrap64 (x7_1 - 1)]) := ⟨_, rfl⟩
    replace H : (if x7_1 > 0 then (if 0 ≤ (wrap64 (x7_1 - 1)) then (if (wrap64 (x7_1 - 1)) < (t162.length : Int) then (if (rd t162 (wrap64 (x7_1 - 1))) = 0 then (if x169001_1.length < 17592186044416 then (spec_l07Branch.l0 k1 a1 t162 (wrap64 (x7_1 + 1)) y169 (x169001_1 ++ [(-1)]) t165) else (none)) else (if x169001_1.length < 17592186044416 then (spec_l07Branch.l0 k1 a1 t162 (wrap64 (x7_1 + 1)) y169 (x169001_1 ++ [wrap64 (x7_1 - (rd t162 (wrap64 (x7_1 - 1))))]) t165) else (none))) else (none)) else (none)) else (if x169001_1.length < 17592186044416 then (spec_l07Branch.l0 k1 a1 t162 (wrap64 (x7_1 + 1)) y169 (x169001_1 ++ [(-1)]) t165) else (none))) = some (r1, r2, r3) := by first | (rw [hy169]; with_reducible exact H) | (have H2_ := (Option.bind_some _ _).symm.trans H; rw [hy169]; with_reducible exact H2_) | (have H2_ := (Option.bind_some _ _).symm.trans H; with_reducible exact H2_) | with_reducible exact H | (rw [hy169]; exact H) | exact H
    have Ny169 := Aside0.mk hy169
    clear hy169
    by_cases c19 : x7_1 > 0
    ·rw [if_pos c19] at H
     have c19b0 : decide (0 < x7_1) = true := decide_eq_true c19
     clear c19
     obtain ⟨ji20, hji20⟩ : ∃ j_ : Int, (wrap64 (x7_1 - 1)) = j_ := ⟨_, rfl⟩
     replace H : (if 0 ≤ (ji20) then (if (ji20) < (t162.length : Int) then (if (rd t162 (ji20)) = 0 then (if x169001_1.length < 17592186044416 then (spec_l07Branch.l0 k1 a1 t162 (wrap64 (x7_1 + 1)) y169 (x169001_1 ++ [(-1)]) t165) else (none)) else (if x169001_1.length < 17592186044416 then (spec_l07Branch.l0 k1 a1 t162 (wrap64 (x7_1 + 1)) y169 (x169001_1 ++ [wrap64 (x7_1 - (rd t162 (ji20)))]) t165) else (none))) else (none)) else (none)) = some (r1, r2, r3) := by first | (rw [hji20] at H; exact H) | (simp only [hji20] at H ⊢; exact H)
     (try rw [hji20] at Ny169)
     (try rw [hji20] at Ny169)
     have hji20w : (IntKind.i64.wrap (x7_1 - 1)) = ji20 := (i64_w _).trans hji20
     revert H
     refine ifr fun c21 H => ?_
     have c21b0 : decide (0 ≤ (ji20)) = true := decide_eq_true c21
     clear c21
     revert H
     refine ifr fun c22 H => ?_
     have c22b0 : decide ((ji20) < (t162.length : Int)) = true := decide_eq_true c22
     clear c22
     by_cases c23 : (rd t162 (ji20)) = 0
     ·rw [if_pos c23] at H
      have c23b0 : ((rd t162 (ji20)) == 0) = true := beq_iff_eq.mpr c23
      have c23b1 : ((rd t162 (ji20)) != 0) = false := bne_eq_false_iff_eq.mpr c23
      clear c23
      revert H
      refine ifr fun c24 H => ?_
      have LMc24 := Aside0.mk c24
      clear c24
      obtain ⟨y173, hy173⟩ : ∃ y_ : List Int, y_ = (x169001_1 ++ [(-1)]) := ⟨_, rfl⟩
      replace H : (spec_l07Branch.l0 k1 a1 t162 (wrap64 (x7_1 + 1)) y169 y173 t165) = some (r1, r2, r3) := by first | (rw [hy173]; with_reducible exact H) | (have H2_ := (Option.bind_some _ _).symm.trans H; rw [hy173]; with_reducible exact H2_) | (have H2_ := (Option.bind_some _ _).symm.trans H; with_reducible exact H2_) | with_reducible exact H | (rw [hy173]; exact H) | exact H
      have Ny173 := Aside0.mk hy173
      clear hy173
      have H' := Aside0.mk H
      clear H
      have hnb25 := NB168_160.out
      have hnc25 := NB160_168.out
      have hnb26 := NB168_161.out
      have hnc26 := NB161_168.out
      have hcz27_0 := bc0 BK168
      have hcz27_1 := bc1 BK168
      have hcz27_2 : wr.cell? ⟨gb168, 2, none⟩ = some (.slice Ao13 t165.length co13) := (blk_cell BK168.out 2).trans rfl
      have hfz27_0 := blk_frozen BK168.out 0
      have hfz27_1 := blk_frozen BK168.out 1
      have hfz27_2 := blk_frozen BK168.out 2
      go_wp2_with (first | ((with_reducible refine gate_builtin (b := .append) (xs := #[.tmp 22, .tmp 25]) rfl ?_); at_builtin; refine Kd.R_append (Kd.int .i64) (w0 := w) w.heap.size rfl (.tmp 22) (.tmp 25) 35 2 (.int .i64 0) 8 rfl Tryd.underlying35 info2 rfl (by decide) (by omega) u169000 x169000_1 ji20 [.int .i64 ji20] (fun k_ => some k_ ≠ (v163 : Value).ownBlock ∧ some k_ ≠ (u169001 : Value).ownBlock ∧ some k_ ≠ (.slice Ao13 t165.length co13 : Value).ownBlock) (fun _ => False) rfl rfl ?aP (fun _ hk => hk.elim) ?aF ?aO ?aB ?aS ?aL ?_; (case aP => exact rfl); (case aB => exact bq); (case aF => exact (fun k_ hk => ⟨Kd.fresh' (Kd.R_lt (by (with_reducible repeat (first | apply Kd.R_alloc | apply Kd.R_drewN | apply Kd.R_drew)); exact HO_5.out)) k_ hk, Kd.fresh' (Kd.R_lt (by (with_reducible repeat (first | apply Kd.R_alloc | apply Kd.R_drewN | apply Kd.R_drew)); exact HO_169001.out)) k_ hk, Kd.fresh' (Kd.R_lt (by (with_reducible repeat (first | apply Kd.R_alloc | apply Kd.R_drewN | apply Kd.R_drew)); exact HO_169002.out)) k_ hk⟩)); (case aO => exact (by (with_reducible repeat (first | apply Kd.R_alloc | apply Kd.R_drewN | apply Kd.R_drew)); exact HO_169000.out)); (case aS => exact (below_size bq)); (case aL => have := LMc18.out; omega); intro v170 w28 ho hb hg hat; rw [← Ny169.out] at ho; have n0_ := Aside0.mk (Kd.R_after (ok := (fun k_ => some k_ ≠ (u169001 : Value).ownBlock ∧ some k_ ≠ (.slice Ao13 t165.length co13 : Value).ownBlock)) (by (with_reducible repeat (first | apply Kd.R_alloc | apply Kd.R_drewN | apply Kd.R_drew)); exact Kd.R_mono HO_5.out (fun _ hk => ⟨⟨hk.2.1, hk.2.2⟩, hk.1⟩)) hg hat); have n1_ := Aside0.mk (Kd.R_after (ok := (fun k_ => some k_ ≠ (v163 : Value).ownBlock ∧ some k_ ≠ (.slice Ao13 t165.length co13 : Value).ownBlock)) (by (with_reducible repeat (first | apply Kd.R_alloc | apply Kd.R_drewN | apply Kd.R_drew)); exact Kd.R_mono HO_169001.out (fun _ hk => ⟨⟨hk.1, hk.2.2⟩, hk.2.1⟩)) hg hat); have n2_ := Aside0.mk (Kd.R_after (ok := (fun k_ => some k_ ≠ (v163 : Value).ownBlock ∧ some k_ ≠ (u169001 : Value).ownBlock)) (by (with_reducible repeat (first | apply Kd.R_alloc | apply Kd.R_drewN | apply Kd.R_drew)); exact Kd.R_mono HO_169002.out (fun _ hk => ⟨⟨hk.1, hk.2.2⟩, hk.2.1⟩)) hg hat); have n3_ := Aside0.mk (blk_grown (g := gb160) (o := .cells #[.slice A0_0 l0_0.length c0_0] 74 (0, 0)) (bk BK160) hg (Kd.R_ne HO_169000.out BK160.out (by decide))); have n4_ := Aside0.mk (blk_grown (g := gb161) (o := .cells #[.slice none 0 0, .slice none 0 0, .slice none 0 0] 37 (0, 0)) (bk BK161) hg (Kd.R_ne HO_169000.out BK161.out (by decide))); have n5_ := Aside0.mk (blk_grown (g := gb168) (o := .cells #[u169000, u169001, .slice Ao13 t165.length co13] 37 (0, 0)) (bk BK168) hg (Kd.R_ne HO_169000.out BK168.out (by decide))); have n6_ := Aside0.mk (hb); have n7_ := Aside0.mk (ho); clear HO_5; clear HO_169001; clear HO_169002; clear BK160; clear BK161; clear BK168; clear HB; clear HO_169000; have HO_5 := n0_; have HO_169001 := n1_; have HO_169002 := n2_; have BK160 := n3_; have BK161 := n4_; have BK168 := n5_; have HB := n6_; have HO171 := n7_; clear n0_ n1_ n2_ n3_ n4_ n5_ n6_ n7_; clear ho hb hg hat; obtain ⟨Ao29, co29, eo29⟩ := Kd.R_slice HO171.out; subst eo29; have hcz30_0 := bc0 BK168; have hcz30_1 := bc1 BK168; have hcz30_2 : w28.cell? ⟨gb168, 2, none⟩ = some (.slice Ao13 t165.length co13) := (blk_cell BK168.out 2).trans rfl; have hfz30_0 := blk_frozen BK168.out 0; have hfz30_1 := blk_frozen BK168.out 1; have hfz30_2 := blk_frozen BK168.out 2; obtain ⟨Ao31, co31, eo31⟩ := Kd.R_slice HO_5.out; subst eo31; have p172 : 0 ≤ ((ji20) : Int) := ode; have q172 : (ji20) < (t162.length : Int) := ode; obtain ⟨ad172, e172, hx172_0⟩ := Kd.at_int (Kd.R_reads' HO_5.out).2.2 (ji20) p172 q172; cases e172; have hn172_0 : ad172.block ≠ gb168 := Kd.own_blk (Kd.R_ne HO_5.out BK168.out (by decide)); replace hx172_0 := (cell_far (p := ⟨gb168, 0, none⟩) (by first | (rw [add_block]; exact hn172_0) | (show (Addr.add _ _).block ≠ _; rw [add_block]; exact hn172_0) | exact hn172_0) (.slice Ao29 y169.length co29)).trans hx172_0; clear hn172_0; replace p172 := eq_true p172; replace q172 := eq_true q172) | ((with_reducible refine gate_builtin (b := .append) (xs := #[.tmp 46, .tmp 48]) rfl ?_); at_builtin; refine Kd.R_append (Kd.int .i64) (w0 := w) w.heap.size rfl (.tmp 46) (.tmp 48) 35 2 (.int .i64 0) 8 rfl Tryd.underlying35 info2 rfl (by decide) (by omega) u169001 x169001_1 (-1) [.int .i64 (-1)] (fun k_ => some k_ ≠ (.slice (some ad172) t162.length co31 : Value).ownBlock ∧ some k_ ≠ (.slice Ao13 t165.length co13 : Value).ownBlock ∧ some k_ ≠ (.slice Ao29 y169.length co29 : Value).ownBlock) (fun _ => False) rfl (by first | (go_simp; done) | (go_simp; rfl)) ?aP (fun _ hk => hk.elim) ?aF ?aO ?aB ?aS ?aL ?_; (case aP => exact rfl); (case aB => exact bq); (case aF => exact (fun k_ hk => ⟨Kd.fresh' (Kd.R_lt (by (with_reducible repeat (first | apply Kd.R_alloc | apply Kd.R_drewN | apply Kd.R_drew)); exact (Kd.R_mono (Kd.R_far (p := ⟨gb168, 0, none⟩) (Kd.R_types HO_5.out BK168.out (by decide)) (fun _ hk => hk.2) (.slice Ao29 y169.length co29)) (fun _ h_ => h_.1)))) k_ hk, Kd.fresh' (Kd.R_lt (by (with_reducible repeat (first | apply Kd.R_alloc | apply Kd.R_drewN | apply Kd.R_drew)); exact (Kd.R_mono (Kd.R_far (p := ⟨gb168, 0, none⟩) (Kd.R_types HO_169002.out BK168.out (by decide)) (fun _ hk => hk.2) (.slice Ao29 y169.length co29)) (fun _ h_ => h_.1)))) k_ hk, Kd.fresh' (Kd.R_lt (by (with_reducible repeat (first | apply Kd.R_alloc | apply Kd.R_drewN | apply Kd.R_drew)); exact (Kd.R_mono (Kd.R_far (p := ⟨gb168, 0, none⟩) (Kd.R_types HO171.out BK168.out (by decide)) (fun _ hk => hk.2) (.slice Ao29 y169.length co29)) (fun _ h_ => h_.1)))) k_ hk⟩)); (case aO => exact (by (with_reducible repeat (first | apply Kd.R_alloc | apply Kd.R_drewN | apply Kd.R_drew)); exact Kd.R_mono (Kd.R_far (p := ⟨gb168, 0, none⟩) (Kd.R_types HO_169001.out BK168.out (by decide)) (fun _ hk => hk.2) (.slice Ao29 y169.length co29)) (fun _ hk => ⟨hk.1.1.1, ⟨hk.1.1.2, hk.1.2⟩⟩))); (case aS => exact (below_size bq)); (case aL => have := LMc24.out; omega); intro v174 w32 ho hb hg hat; rw [← Ny173.out] at ho; have n0_ := Aside0.mk (Kd.R_after (ok := (fun k_ => some k_ ≠ (.slice Ao13 t165.length co13 : Value).ownBlock ∧ some k_ ≠ (.slice Ao29 y169.length co29 : Value).ownBlock)) (by (with_reducible repeat (first | apply Kd.R_alloc | apply Kd.R_drewN | apply Kd.R_drew)); exact Kd.R_mono (Kd.R_far (p := ⟨gb168, 0, none⟩) (Kd.R_types HO_5.out BK168.out (by decide)) (fun _ hk => hk.2) (.slice Ao29 y169.length co29)) (fun _ hk => ⟨⟨hk.1.1.2, hk.1.2⟩, hk.1.1.1⟩)) hg hat); have n1_ := Aside0.mk (Kd.R_after (ok := (fun k_ => some k_ ≠ (.slice (some ad172) t162.length co31 : Value).ownBlock ∧ some k_ ≠ (.slice Ao29 y169.length co29 : Value).ownBlock)) (by (with_reducible repeat (first | apply Kd.R_alloc | apply Kd.R_drewN | apply Kd.R_drew)); exact Kd.R_mono (Kd.R_far (p := ⟨gb168, 0, none⟩) (Kd.R_types HO_169002.out BK168.out (by decide)) (fun _ hk => hk.2) (.slice Ao29 y169.length co29)) (fun _ hk => ⟨⟨hk.1.1.1, hk.1.2⟩, hk.1.1.2⟩)) hg hat); have n2_ := Aside0.mk (blk_grown (g := gb160) (o := .cells #[.slice A0_0 l0_0.length c0_0] 74 (0, 0)) (by (with_reducible repeat (first | refine blk_drewN ?_ _ | refine blk_drew ?_ | refine blk_alloc ?_ _)); refine blk_far ?_ NB160_168.out _; (with_reducible repeat (first | refine blk_drewN ?_ _ | refine blk_drew ?_ | refine blk_alloc ?_ _)); exact BK160.out) hg (Kd.R_ne HO_169001.out BK160.out (by decide))); have n3_ := Aside0.mk (blk_grown (g := gb161) (o := .cells #[.slice none 0 0, .slice none 0 0, .slice none 0 0] 37 (0, 0)) (by (with_reducible repeat (first | refine blk_drewN ?_ _ | refine blk_drew ?_ | refine blk_alloc ?_ _)); refine blk_far ?_ NB161_168.out _; (with_reducible repeat (first | refine blk_drewN ?_ _ | refine blk_drew ?_ | refine blk_alloc ?_ _)); exact BK161.out) hg (Kd.R_ne HO_169001.out BK161.out (by decide))); have n4_ := Aside0.mk (blk_grown (g := gb168) (o := .cells #[.slice Ao29 y169.length co29, u169001, .slice Ao13 t165.length co13] 37 (0, 0)) (by (with_reducible repeat (first | refine blk_drewN ?_ _ | refine blk_drew ?_ | refine blk_alloc ?_ _)); refine blk_put (cs := #[u169000, u169001, .slice Ao13 t165.length co13]) ?_ 0 _ rfl; (with_reducible repeat (first | refine blk_drewN ?_ _ | refine blk_drew ?_ | refine blk_alloc ?_ _)); exact BK168.out) hg (Kd.R_ne HO_169001.out BK168.out (by decide))); have n5_ := Aside0.mk (Kd.R_after (ok := (fun k_ => some k_ ≠ (.slice (some ad172) t162.length co31 : Value).ownBlock ∧ some k_ ≠ (.slice Ao13 t165.length co13 : Value).ownBlock)) (by (with_reducible repeat (first | apply Kd.R_alloc | apply Kd.R_drewN | apply Kd.R_drew)); exact Kd.R_mono (Kd.R_far (p := ⟨gb168, 0, none⟩) (Kd.R_types HO171.out BK168.out (by decide)) (fun _ hk => hk.2) (.slice Ao29 y169.length co29)) (fun _ hk => ⟨⟨hk.1.1, hk.1.2.2⟩, hk.1.2.1⟩)) hg hat); have n6_ := Aside0.mk (hb); have n7_ := Aside0.mk (ho); clear HO_5; clear HO_169002; clear BK160; clear BK161; clear BK168; clear HO171; clear HB; clear HO_169001; have HO_5 := n0_; have HO_169002 := n1_; have BK160 := n2_; have BK161 := n3_; have BK168 := n4_; have HO171 := n5_; have HB := n6_; have HO175 := n7_; clear n0_ n1_ n2_ n3_ n4_ n5_ n6_ n7_; clear ho hb hg hat; obtain ⟨Ao33, co33, eo33⟩ := Kd.R_slice HO175.out; subst eo33; have hcz34_0 := bc0 BK168; have hcz34_1 := bc1 BK168; have hcz34_2 : w32.cell? ⟨gb168, 2, none⟩ = some (.slice Ao13 t165.length co13) := (blk_cell BK168.out 2).trans rfl; have hfz34_0 := blk_frozen BK168.out 0; have hfz34_1 := blk_frozen BK168.out 1; have hfz34_2 := blk_frozen BK168.out 2))
      go_roundg k1
      case measure => have := HK1.out; omega
      case rel => exact ⟨(wrap64 (x7_1 + 1)), (y169), (y173), (.slice Ao29 y169.length co29), (.slice Ao33 y173.length co33), (by first | rfl | (simp; done) | (simp [*]; done)), H', ⟨by have := HK1.out; omega⟩, ⟨by (with_reducible repeat (first | apply Kd.R_alloc | apply Kd.R_drewN | apply Kd.R_drew)); exact Kd.R_mono (Kd.R_far (p := ⟨gb168, 1, none⟩) (Kd.R_types HO_5.out BK168.out (by decide)) (fun _ hk => hk.2) (.slice Ao33 y173.length co33)) (fun _ hk => ⟨hk.1.1.2, ⟨hk.1.2, hk.1.1.1⟩⟩)⟩, ⟨by (with_reducible repeat (first | apply Kd.R_alloc | apply Kd.R_drewN | apply Kd.R_drew)); exact Kd.R_mono (Kd.R_far (p := ⟨gb168, 1, none⟩) (Kd.R_types HO171.out BK168.out (by decide)) (fun _ hk => hk.2) (.slice Ao33 y173.length co33)) (fun _ hk => ⟨hk.1.1.1, ⟨hk.1.2, hk.1.1.2⟩⟩)⟩, ⟨by (with_reducible repeat (first | apply Kd.R_alloc | apply Kd.R_drewN | apply Kd.R_drew)); exact Kd.R_mono (Kd.R_far (p := ⟨gb168, 1, none⟩) (Kd.R_types HO175.out BK168.out (by decide)) (fun _ hk => hk.2) (.slice Ao33 y173.length co33)) (fun _ hk => ⟨hk.1.1, ⟨hk.1.2.2, hk.1.2.1⟩⟩)⟩, ⟨by (with_reducible repeat (first | apply Kd.R_alloc | apply Kd.R_drewN | apply Kd.R_drew)); exact Kd.R_mono (Kd.R_far (p := ⟨gb168, 1, none⟩) (Kd.R_types HO_169002.out BK168.out (by decide)) (fun _ hk => hk.2) (.slice Ao33 y173.length co33)) (fun _ hk => ⟨hk.1.1.1, ⟨hk.1.1.2, hk.1.2⟩⟩)⟩, ⟨by (with_reducible repeat (first | refine blk_drewN ?_ _ | refine blk_drew ?_ | refine blk_alloc ?_ _)); refine blk_far ?_ NB160_168.out _; (with_reducible repeat (first | refine blk_drewN ?_ _ | refine blk_drew ?_ | refine blk_alloc ?_ _)); exact BK160.out⟩, ⟨by (with_reducible repeat (first | refine blk_drewN ?_ _ | refine blk_drew ?_ | refine blk_alloc ?_ _)); refine blk_far ?_ NB161_168.out _; (with_reducible repeat (first | refine blk_drewN ?_ _ | refine blk_drew ?_ | refine blk_alloc ?_ _)); exact BK161.out⟩, ⟨by (with_reducible repeat (first | refine blk_drewN ?_ _ | refine blk_drew ?_ | refine blk_alloc ?_ _)); refine blk_put (cs := #[.slice Ao29 y169.length co29, u169001, .slice Ao13 t165.length co13]) ?_ 1 _ rfl; (with_reducible repeat (first | refine blk_drewN ?_ _ | refine blk_drew ?_ | refine blk_alloc ?_ _)); exact BK168.out⟩, ⟨bq⟩⟩
     ·rw [if_neg c23] at H
      have c23b0 : ((rd t162 (ji20)) == 0) = false := beq_eq_false_iff_ne.mpr c23
      have c23b1 : ((rd t162 (ji20)) != 0) = true := bne_iff_ne.mpr c23
      revert H
      refine ifr fun c35 H => ?_
      have LMc35 := Aside0.mk c35
      clear c35
      obtain ⟨y177, hy177⟩ : ∃ y_ : List Int, y_ = (x169001_1 ++ [wrap64 (x7_1 - (rd t162 (ji20)))]) := ⟨_, rfl⟩
      replace H : (spec_l07Branch.l0 k1 a1 t162 (wrap64 (x7_1 + 1)) y169 y177 t165) = some (r1, r2, r3) := by first | (rw [hy177]; with_reducible exact H) | (have H2_ := (Option.bind_some _ _).symm.trans H; rw [hy177]; with_reducible exact H2_) | (have H2_ := (Option.bind_some _ _).symm.trans H; with_reducible exact H2_) | with_reducible exact H | (rw [hy177]; exact H) | exact H
      have Ny177 := Aside0.mk hy177
      clear hy177
      have H' := Aside0.mk H
      clear H
      have hnb36 := NB168_160.out
      have hnc36 := NB160_168.out
      have hnb37 := NB168_161.out
      have hnc37 := NB161_168.out
      have hcz38_0 := bc0 BK168
      have hcz38_1 := bc1 BK168
      have hcz38_2 : wr.cell? ⟨gb168, 2, none⟩ = some (.slice Ao13 t165.length co13) := (blk_cell BK168.out 2).trans rfl
      have hfz38_0 := blk_frozen BK168.out 0
      have hfz38_1 := blk_frozen BK168.out 1
      have hfz38_2 := blk_frozen BK168.out 2
      go_wp2_with (first | ((with_reducible refine gate_builtin (b := .append) (xs := #[.tmp 22, .tmp 25]) rfl ?_); at_builtin; refine Kd.R_append (Kd.int .i64) (w0 := w) w.heap.size rfl (.tmp 22) (.tmp 25) 35 2 (.int .i64 0) 8 rfl Tryd.underlying35 info2 rfl (by decide) (by omega) u169000 x169000_1 ji20 [.int .i64 ji20] (fun k_ => some k_ ≠ (v163 : Value).ownBlock ∧ some k_ ≠ (u169001 : Value).ownBlock ∧ some k_ ≠ (.slice Ao13 t165.length co13 : Value).ownBlock) (fun _ => False) rfl rfl ?aP (fun _ hk => hk.elim) ?aF ?aO ?aB ?aS ?aL ?_; (case aP => exact rfl); (case aB => exact bq); (case aF => exact (fun k_ hk => ⟨Kd.fresh' (Kd.R_lt (by (with_reducible repeat (first | apply Kd.R_alloc | apply Kd.R_drewN | apply Kd.R_drew)); exact HO_5.out)) k_ hk, Kd.fresh' (Kd.R_lt (by (with_reducible repeat (first | apply Kd.R_alloc | apply Kd.R_drewN | apply Kd.R_drew)); exact HO_169001.out)) k_ hk, Kd.fresh' (Kd.R_lt (by (with_reducible repeat (first | apply Kd.R_alloc | apply Kd.R_drewN | apply Kd.R_drew)); exact HO_169002.out)) k_ hk⟩)); (case aO => exact (by (with_reducible repeat (first | apply Kd.R_alloc | apply Kd.R_drewN | apply Kd.R_drew)); exact HO_169000.out)); (case aS => exact (below_size bq)); (case aL => have := LMc18.out; omega); intro v170 w39 ho hb hg hat; rw [← Ny169.out] at ho; have n0_ := Aside0.mk (Kd.R_after (ok := (fun k_ => some k_ ≠ (u169001 : Value).ownBlock ∧ some k_ ≠ (.slice Ao13 t165.length co13 : Value).ownBlock)) (by (with_reducible repeat (first | apply Kd.R_alloc | apply Kd.R_drewN | apply Kd.R_drew)); exact Kd.R_mono HO_5.out (fun _ hk => ⟨⟨hk.2.1, hk.2.2⟩, hk.1⟩)) hg hat); have n1_ := Aside0.mk (Kd.R_after (ok := (fun k_ => some k_ ≠ (v163 : Value).ownBlock ∧ some k_ ≠ (.slice Ao13 t165.length co13 : Value).ownBlock)) (by (with_reducible repeat (first | apply Kd.R_alloc | apply Kd.R_drewN | apply Kd.R_drew)); exact Kd.R_mono HO_169001.out (fun _ hk => ⟨⟨hk.1, hk.2.2⟩, hk.2.1⟩)) hg hat); have n2_ := Aside0.mk (Kd.R_after (ok := (fun k_ => some k_ ≠ (v163 : Value).ownBlock ∧ some k_ ≠ (u169001 : Value).ownBlock)) (by (with_reducible repeat (first | apply Kd.R_alloc | apply Kd.R_drewN | apply Kd.R_drew)); exact Kd.R_mono HO_169002.out (fun _ hk => ⟨⟨hk.1, hk.2.2⟩, hk.2.1⟩)) hg hat); have n3_ := Aside0.mk (blk_grown (g := gb160) (o := .cells #[.slice A0_0 l0_0.length c0_0] 74 (0, 0)) (bk BK160) hg (Kd.R_ne HO_169000.out BK160.out (by decide))); have n4_ := Aside0.mk (blk_grown (g := gb161) (o := .cells #[.slice none 0 0, .slice none 0 0, .slice none 0 0] 37 (0, 0)) (bk BK161) hg (Kd.R_ne HO_169000.out BK161.out (by decide))); have n5_ := Aside0.mk (blk_grown (g := gb168) (o := .cells #[u169000, u169001, .slice Ao13 t165.length co13] 37 (0, 0)) (bk BK168) hg (Kd.R_ne HO_169000.out BK168.out (by decide))); have n6_ := Aside0.mk (hb); have n7_ := Aside0.mk (ho); clear HO_5; clear HO_169001; clear HO_169002; clear BK160; clear BK161; clear BK168; clear HB; clear HO_169000; have HO_5 := n0_; have HO_169001 := n1_; have HO_169002 := n2_; have BK160 := n3_; have BK161 := n4_; have BK168 := n5_; have HB := n6_; have HO171 := n7_; clear n0_ n1_ n2_ n3_ n4_ n5_ n6_ n7_; clear ho hb hg hat; obtain ⟨Ao40, co40, eo40⟩ := Kd.R_slice HO171.out; subst eo40; have hcz41_0 := bc0 BK168; have hcz41_1 := bc1 BK168; have hcz41_2 : w39.cell? ⟨gb168, 2, none⟩ = some (.slice Ao13 t165.length co13) := (blk_cell BK168.out 2).trans rfl; have hfz41_0 := blk_frozen BK168.out 0; have hfz41_1 := blk_frozen BK168.out 1; have hfz41_2 := blk_frozen BK168.out 2; obtain ⟨Ao42, co42, eo42⟩ := Kd.R_slice HO_5.out; subst eo42; have p172 : 0 ≤ ((ji20) : Int) := ode; have q172 : (ji20) < (t162.length : Int) := ode; obtain ⟨ad172, e172, hx172_0⟩ := Kd.at_int (Kd.R_reads' HO_5.out).2.2 (ji20) p172 q172; cases e172; have hn172_0 : ad172.block ≠ gb168 := Kd.own_blk (Kd.R_ne HO_5.out BK168.out (by decide)); replace hx172_0 := (cell_far (p := ⟨gb168, 0, none⟩) (by first | (rw [add_block]; exact hn172_0) | (show (Addr.add _ _).block ≠ _; rw [add_block]; exact hn172_0) | exact hn172_0) (.slice Ao40 y169.length co40)).trans hx172_0; clear hn172_0; replace p172 := eq_true p172; replace q172 := eq_true q172; have p176 : 0 ≤ ((ji20) : Int) := ode; have q176 : (ji20) < (t162.length : Int) := ode; obtain ⟨ad176, e176, hx176_0⟩ := Kd.at_int (Kd.R_reads' HO_5.out).2.2 (ji20) p176 q176; obtain rfl : ad172 = ad176 := (by injection e176); have hn176_0 : ad172.block ≠ gb168 := Kd.own_blk (Kd.R_ne HO_5.out BK168.out (by decide)); replace hx176_0 := (cell_far (p := ⟨gb168, 0, none⟩) (by first | (rw [add_block]; exact hn176_0) | (show (Addr.add _ _).block ≠ _; rw [add_block]; exact hn176_0) | exact hn176_0) (.slice Ao40 y169.length co40)).trans hx176_0; clear hn176_0; replace p176 := eq_true p176; replace q176 := eq_true q176) | ((with_reducible refine gate_builtin (b := .append) (xs := #[.tmp 46, .tmp 48]) rfl ?_); at_builtin; refine Kd.R_append (Kd.int .i64) (w0 := w) w.heap.size rfl (.tmp 46) (.tmp 48) 35 2 (.int .i64 0) 8 rfl Tryd.underlying35 info2 rfl (by decide) (by omega) u169001 x169001_1 (wrap64 (x7_1 - (rd t162 (ji20)))) [.int .i64 (wrap64 (x7_1 - (rd t162 (ji20))))] (fun k_ => some k_ ≠ (.slice (some ad172) t162.length co42 : Value).ownBlock ∧ some k_ ≠ (.slice Ao13 t165.length co13 : Value).ownBlock ∧ some k_ ≠ (.slice Ao40 y169.length co40 : Value).ownBlock) (fun _ => False) rfl (by first | (go_simp; done) | (go_simp; rfl)) ?aP (fun _ hk => hk.elim) ?aF ?aO ?aB ?aS ?aL ?_; (case aP => exact rfl); (case aB => exact bq); (case aF => exact (fun k_ hk => ⟨Kd.fresh' (Kd.R_lt (by (with_reducible repeat (first | apply Kd.R_alloc | apply Kd.R_drewN | apply Kd.R_drew)); exact (Kd.R_mono (Kd.R_far (p := ⟨gb168, 0, none⟩) (Kd.R_types HO_5.out BK168.out (by decide)) (fun _ hk => hk.2) (.slice Ao40 y169.length co40)) (fun _ h_ => h_.1)))) k_ hk, Kd.fresh' (Kd.R_lt (by (with_reducible repeat (first | apply Kd.R_alloc | apply Kd.R_drewN | apply Kd.R_drew)); exact (Kd.R_mono (Kd.R_far (p := ⟨gb168, 0, none⟩) (Kd.R_types HO_169002.out BK168.out (by decide)) (fun _ hk => hk.2) (.slice Ao40 y169.length co40)) (fun _ h_ => h_.1)))) k_ hk, Kd.fresh' (Kd.R_lt (by (with_reducible repeat (first | apply Kd.R_alloc | apply Kd.R_drewN | apply Kd.R_drew)); exact (Kd.R_mono (Kd.R_far (p := ⟨gb168, 0, none⟩) (Kd.R_types HO171.out BK168.out (by decide)) (fun _ hk => hk.2) (.slice Ao40 y169.length co40)) (fun _ h_ => h_.1)))) k_ hk⟩)); (case aO => exact (by (with_reducible repeat (first | apply Kd.R_alloc | apply Kd.R_drewN | apply Kd.R_drew)); exact Kd.R_mono (Kd.R_far (p := ⟨gb168, 0, none⟩) (Kd.R_types HO_169001.out BK168.out (by decide)) (fun _ hk => hk.2) (.slice Ao40 y169.length co40)) (fun _ hk => ⟨hk.1.1.1, ⟨hk.1.1.2, hk.1.2⟩⟩))); (case aS => exact (below_size bq)); (case aL => have := LMc35.out; omega); intro v178 w43 ho hb hg hat; rw [← Ny177.out] at ho; have n0_ := Aside0.mk (Kd.R_after (ok := (fun k_ => some k_ ≠ (.slice Ao13 t165.length co13 : Value).ownBlock ∧ some k_ ≠ (.slice Ao40 y169.length co40 : Value).ownBlock)) (by (with_reducible repeat (first | apply Kd.R_alloc | apply Kd.R_drewN | apply Kd.R_drew)); exact Kd.R_mono (Kd.R_far (p := ⟨gb168, 0, none⟩) (Kd.R_types HO_5.out BK168.out (by decide)) (fun _ hk => hk.2) (.slice Ao40 y169.length co40)) (fun _ hk => ⟨⟨hk.1.1.2, hk.1.2⟩, hk.1.1.1⟩)) hg hat); have n1_ := Aside0.mk (Kd.R_after (ok := (fun k_ => some k_ ≠ (.slice (some ad172) t162.length co42 : Value).ownBlock ∧ some k_ ≠ (.slice Ao40 y169.length co40 : Value).ownBlock)) (by (with_reducible repeat (first | apply Kd.R_alloc | apply Kd.R_drewN | apply Kd.R_drew)); exact Kd.R_mono (Kd.R_far (p := ⟨gb168, 0, none⟩) (Kd.R_types HO_169002.out BK168.out (by decide)) (fun _ hk => hk.2) (.slice Ao40 y169.length co40)) (fun _ hk => ⟨⟨hk.1.1.1, hk.1.2⟩, hk.1.1.2⟩)) hg hat); have n2_ := Aside0.mk (blk_grown (g := gb160) (o := .cells #[.slice A0_0 l0_0.length c0_0] 74 (0, 0)) (by (with_reducible repeat (first | refine blk_drewN ?_ _ | refine blk_drew ?_ | refine blk_alloc ?_ _)); refine blk_far ?_ NB160_168.out _; (with_reducible repeat (first | refine blk_drewN ?_ _ | refine blk_drew ?_ | refine blk_alloc ?_ _)); exact BK160.out) hg (Kd.R_ne HO_169001.out BK160.out (by decide))); have n3_ := Aside0.mk (blk_grown (g := gb161) (o := .cells #[.slice none 0 0, .slice none 0 0, .slice none 0 0] 37 (0, 0)) (by (with_reducible repeat (first | refine blk_drewN ?_ _ | refine blk_drew ?_ | refine blk_alloc ?_ _)); refine blk_far ?_ NB161_168.out _; (with_reducible repeat (first | refine blk_drewN ?_ _ | refine blk_drew ?_ | refine blk_alloc ?_ _)); exact BK161.out) hg (Kd.R_ne HO_169001.out BK161.out (by decide))); have n4_ := Aside0.mk (blk_grown (g := gb168) (o := .cells #[.slice Ao40 y169.length co40, u169001, .slice Ao13 t165.length co13] 37 (0, 0)) (by (with_reducible repeat (first | refine blk_drewN ?_ _ | refine blk_drew ?_ | refine blk_alloc ?_ _)); refine blk_put (cs := #[u169000, u169001, .slice Ao13 t165.length co13]) ?_ 0 _ rfl; (with_reducible repeat (first | refine blk_drewN ?_ _ | refine blk_drew ?_ | refine blk_alloc ?_ _)); exact BK168.out) hg (Kd.R_ne HO_169001.out BK168.out (by decide))); have n5_ := Aside0.mk (Kd.R_after (ok := (fun k_ => some k_ ≠ (.slice (some ad172) t162.length co42 : Value).ownBlock ∧ some k_ ≠ (.slice Ao13 t165.length co13 : Value).ownBlock)) (by (with_reducible repeat (first | apply Kd.R_alloc | apply Kd.R_drewN | apply Kd.R_drew)); exact Kd.R_mono (Kd.R_far (p := ⟨gb168, 0, none⟩) (Kd.R_types HO171.out BK168.out (by decide)) (fun _ hk => hk.2) (.slice Ao40 y169.length co40)) (fun _ hk => ⟨⟨hk.1.1, hk.1.2.2⟩, hk.1.2.1⟩)) hg hat); have n6_ := Aside0.mk (hb); have n7_ := Aside0.mk (ho); clear HO_5; clear HO_169002; clear BK160; clear BK161; clear BK168; clear HO171; clear HB; clear HO_169001; have HO_5 := n0_; have HO_169002 := n1_; have BK160 := n2_; have BK161 := n3_; have BK168 := n4_; have HO171 := n5_; have HB := n6_; have HO179 := n7_; clear n0_ n1_ n2_ n3_ n4_ n5_ n6_ n7_; clear ho hb hg hat; obtain ⟨Ao44, co44, eo44⟩ := Kd.R_slice HO179.out; subst eo44; have hcz45_0 := bc0 BK168; have hcz45_1 := bc1 BK168; have hcz45_2 : w43.cell? ⟨gb168, 2, none⟩ = some (.slice Ao13 t165.length co13) := (blk_cell BK168.out 2).trans rfl; have hfz45_0 := blk_frozen BK168.out 0; have hfz45_1 := blk_frozen BK168.out 1; have hfz45_2 := blk_frozen BK168.out 2))
      go_roundg k1
      case measure => have := HK1.out; omega
      case rel => exact ⟨(wrap64 (x7_1 + 1)), (y169), (y177), (.slice Ao40 y169.length co40), (.slice Ao44 y177.length co44), (by first | rfl | (simp; done) | (simp [*]; done)), H', ⟨by have := HK1.out; omega⟩, ⟨by (with_reducible repeat (first | apply Kd.R_alloc | apply Kd.R_drewN | apply Kd.R_drew)); exact Kd.R_mono (Kd.R_far (p := ⟨gb168, 1, none⟩) (Kd.R_types HO_5.out BK168.out (by decide)) (fun _ hk => hk.2) (.slice Ao44 y177.length co44)) (fun _ hk => ⟨hk.1.1.2, ⟨hk.1.2, hk.1.1.1⟩⟩)⟩, ⟨by (with_reducible repeat (first | apply Kd.R_alloc | apply Kd.R_drewN | apply Kd.R_drew)); exact Kd.R_mono (Kd.R_far (p := ⟨gb168, 1, none⟩) (Kd.R_types HO171.out BK168.out (by decide)) (fun _ hk => hk.2) (.slice Ao44 y177.length co44)) (fun _ hk => ⟨hk.1.1.1, ⟨hk.1.2, hk.1.1.2⟩⟩)⟩, ⟨by (with_reducible repeat (first | apply Kd.R_alloc | apply Kd.R_drewN | apply Kd.R_drew)); exact Kd.R_mono (Kd.R_far (p := ⟨gb168, 1, none⟩) (Kd.R_types HO179.out BK168.out (by decide)) (fun _ hk => hk.2) (.slice Ao44 y177.length co44)) (fun _ hk => ⟨hk.1.1, ⟨hk.1.2.2, hk.1.2.1⟩⟩)⟩, ⟨by (with_reducible repeat (first | apply Kd.R_alloc | apply Kd.R_drewN | apply Kd.R_drew)); exact Kd.R_mono (Kd.R_far (p := ⟨gb168, 1, none⟩) (Kd.R_types HO_169002.out BK168.out (by decide)) (fun _ hk => hk.2) (.slice Ao44 y177.length co44)) (fun _ hk => ⟨hk.1.1.1, ⟨hk.1.1.2, hk.1.2⟩⟩)⟩, ⟨by (with_reducible repeat (first | refine blk_drewN ?_ _ | refine blk_drew ?_ | refine blk_alloc ?_ _)); refine blk_far ?_ NB160_168.out _; (with_reducible repeat (first | refine blk_drewN ?_ _ | refine blk_drew ?_ | refine blk_alloc ?_ _)); exact BK160.out⟩, ⟨by (with_reducible repeat (first | refine blk_drewN ?_ _ | refine blk_drew ?_ | refine blk_alloc ?_ _)); refine blk_far ?_ NB161_168.out _; (with_reducible repeat (first | refine blk_drewN ?_ _ | refine blk_drew ?_ | refine blk_alloc ?_ _)); exact BK161.out⟩, ⟨by (with_reducible repeat (first | refine blk_drewN ?_ _ | refine blk_drew ?_ | refine blk_alloc ?_ _)); refine blk_put (cs := #[.slice Ao40 y169.length co40, u169001, .slice Ao13 t165.length co13]) ?_ 1 _ rfl; (with_reducible repeat (first | refine blk_drewN ?_ _ | refine blk_drew ?_ | refine blk_alloc ?_ _)); exact BK168.out⟩, ⟨bq⟩⟩
    ·rw [if_neg c19] at H
     have c19b0 : decide (0 < x7_1) = false := decide_eq_false c19
     clear c19
     revert H
     refine ifr fun c46 H => ?_
     have LMc46 := Aside0.mk c46
     clear c46
     obtain ⟨y180, hy180⟩ : ∃ y_ : List Int, y_ = (x169001_1 ++ [(-1)]) := ⟨_, rfl⟩
     replace H : (spec_l07Branch.l0 k1 a1 t162 (wrap64 (x7_1 + 1)) y169 y180 t165) = some (r1, r2, r3) := by first | (rw [hy180]; with_reducible exact H) | (have H2_ := (Option.bind_some _ _).symm.trans H; rw [hy180]; with_reducible exact H2_) | (have H2_ := (Option.bind_some _ _).symm.trans H; with_reducible exact H2_) | with_reducible exact H | (rw [hy180]; exact H) | exact H
     have Ny180 := Aside0.mk hy180
     clear hy180
     have H' := Aside0.mk H
     clear H
     have hnb47 := NB168_160.out
     have hnc47 := NB160_168.out
     have hnb48 := NB168_161.out
     have hnc48 := NB161_168.out
     have hcz49_0 := bc0 BK168
     have hcz49_1 := bc1 BK168
     have hcz49_2 : wr.cell? ⟨gb168, 2, none⟩ = some (.slice Ao13 t165.length co13) := (blk_cell BK168.out 2).trans rfl
     have hfz49_0 := blk_frozen BK168.out 0
     have hfz49_1 := blk_frozen BK168.out 1
     have hfz49_2 := blk_frozen BK168.out 2
     go_wp2_with (first | ((with_reducible refine gate_builtin (b := .append) (xs := #[.tmp 22, .tmp 25]) rfl ?_); at_builtin; refine Kd.R_append (Kd.int .i64) (w0 := w) w.heap.size rfl (.tmp 22) (.tmp 25) 35 2 (.int .i64 0) 8 rfl Tryd.underlying35 info2 rfl (by decide) (by omega) u169000 x169000_1 (wrap64 (x7_1 - 1)) [.int .i64 (wrap64 (x7_1 - 1))] (fun k_ => some k_ ≠ (v163 : Value).ownBlock ∧ some k_ ≠ (u169001 : Value).ownBlock ∧ some k_ ≠ (.slice Ao13 t165.length co13 : Value).ownBlock) (fun _ => False) rfl rfl ?aP (fun _ hk => hk.elim) ?aF ?aO ?aB ?aS ?aL ?_; (case aP => exact rfl); (case aB => exact bq); (case aF => exact (fun k_ hk => ⟨Kd.fresh' (Kd.R_lt (by (with_reducible repeat (first | apply Kd.R_alloc | apply Kd.R_drewN | apply Kd.R_drew)); exact HO_5.out)) k_ hk, Kd.fresh' (Kd.R_lt (by (with_reducible repeat (first | apply Kd.R_alloc | apply Kd.R_drewN | apply Kd.R_drew)); exact HO_169001.out)) k_ hk, Kd.fresh' (Kd.R_lt (by (with_reducible repeat (first | apply Kd.R_alloc | apply Kd.R_drewN | apply Kd.R_drew)); exact HO_169002.out)) k_ hk⟩)); (case aO => exact (by (with_reducible repeat (first | apply Kd.R_alloc | apply Kd.R_drewN | apply Kd.R_drew)); exact HO_169000.out)); (case aS => exact (below_size bq)); (case aL => have := LMc18.out; omega); intro v170 w50 ho hb hg hat; rw [← Ny169.out] at ho; have n0_ := Aside0.mk (Kd.R_after (ok := (fun k_ => some k_ ≠ (u169001 : Value).ownBlock ∧ some k_ ≠ (.slice Ao13 t165.length co13 : Value).ownBlock)) (by (with_reducible repeat (first | apply Kd.R_alloc | apply Kd.R_drewN | apply Kd.R_drew)); exact Kd.R_mono HO_5.out (fun _ hk => ⟨⟨hk.2.1, hk.2.2⟩, hk.1⟩)) hg hat); have n1_ := Aside0.mk (Kd.R_after (ok := (fun k_ => some k_ ≠ (v163 : Value).ownBlock ∧ some k_ ≠ (.slice Ao13 t165.length co13 : Value).ownBlock)) (by (with_reducible repeat (first | apply Kd.R_alloc | apply Kd.R_drewN | apply Kd.R_drew)); exact Kd.R_mono HO_169001.out (fun _ hk => ⟨⟨hk.1, hk.2.2⟩, hk.2.1⟩)) hg hat); have n2_ := Aside0.mk (Kd.R_after (ok := (fun k_ => some k_ ≠ (v163 : Value).ownBlock ∧ some k_ ≠ (u169001 : Value).ownBlock)) (by (with_reducible repeat (first | apply Kd.R_alloc | apply Kd.R_drewN | apply Kd.R_drew)); exact Kd.R_mono HO_169002.out (fun _ hk => ⟨⟨hk.1, hk.2.2⟩, hk.2.1⟩)) hg hat); have n3_ := Aside0.mk (blk_grown (g := gb160) (o := .cells #[.slice A0_0 l0_0.length c0_0] 74 (0, 0)) (bk BK160) hg (Kd.R_ne HO_169000.out BK160.out (by decide))); have n4_ := Aside0.mk (blk_grown (g := gb161) (o := .cells #[.slice none 0 0, .slice none 0 0, .slice none 0 0] 37 (0, 0)) (bk BK161) hg (Kd.R_ne HO_169000.out BK161.out (by decide))); have n5_ := Aside0.mk (blk_grown (g := gb168) (o := .cells #[u169000, u169001, .slice Ao13 t165.length co13] 37 (0, 0)) (bk BK168) hg (Kd.R_ne HO_169000.out BK168.out (by decide))); have n6_ := Aside0.mk (hb); have n7_ := Aside0.mk (ho); clear HO_5; clear HO_169001; clear HO_169002; clear BK160; clear BK161; clear BK168; clear HB; clear HO_169000; have HO_5 := n0_; have HO_169001 := n1_; have HO_169002 := n2_; have BK160 := n3_; have BK161 := n4_; have BK168 := n5_; have HB := n6_; have HO171 := n7_; clear n0_ n1_ n2_ n3_ n4_ n5_ n6_ n7_; clear ho hb hg hat; obtain ⟨Ao51, co51, eo51⟩ := Kd.R_slice HO171.out; subst eo51; have hcz52_0 := bc0 BK168; have hcz52_1 := bc1 BK168; have hcz52_2 : w50.cell? ⟨gb168, 2, none⟩ = some (.slice Ao13 t165.length co13) := (blk_cell BK168.out 2).trans rfl; have hfz52_0 := blk_frozen BK168.out 0; have hfz52_1 := blk_frozen BK168.out 1; have hfz52_2 := blk_frozen BK168.out 2) | ((with_reducible refine gate_builtin (b := .append) (xs := #[.tmp 46, .tmp 48]) rfl ?_); at_builtin; refine Kd.R_append (Kd.int .i64) (w0 := w) w.heap.size rfl (.tmp 46) (.tmp 48) 35 2 (.int .i64 0) 8 rfl Tryd.underlying35 info2 rfl (by decide) (by omega) u169001 x169001_1 (-1) [.int .i64 (-1)] (fun k_ => some k_ ≠ (v163 : Value).ownBlock ∧ some k_ ≠ (.slice Ao13 t165.length co13 : Value).ownBlock ∧ some k_ ≠ (.slice Ao51 y169.length co51 : Value).ownBlock) (fun _ => False) rfl (by first | (go_simp; done) | (go_simp; rfl)) ?aP (fun _ hk => hk.elim) ?aF ?aO ?aB ?aS ?aL ?_; (case aP => exact rfl); (case aB => exact bq); (case aF => exact (fun k_ hk => ⟨Kd.fresh' (Kd.R_lt (by (with_reducible repeat (first | apply Kd.R_alloc | apply Kd.R_drewN | apply Kd.R_drew)); exact (Kd.R_mono (Kd.R_far (p := ⟨gb168, 0, none⟩) (Kd.R_types HO_5.out BK168.out (by decide)) (fun _ hk => hk.2) (.slice Ao51 y169.length co51)) (fun _ h_ => h_.1)))) k_ hk, Kd.fresh' (Kd.R_lt (by (with_reducible repeat (first | apply Kd.R_alloc | apply Kd.R_drewN | apply Kd.R_drew)); exact (Kd.R_mono (Kd.R_far (p := ⟨gb168, 0, none⟩) (Kd.R_types HO_169002.out BK168.out (by decide)) (fun _ hk => hk.2) (.slice Ao51 y169.length co51)) (fun _ h_ => h_.1)))) k_ hk, Kd.fresh' (Kd.R_lt (by (with_reducible repeat (first | apply Kd.R_alloc | apply Kd.R_drewN | apply Kd.R_drew)); exact (Kd.R_mono (Kd.R_far (p := ⟨gb168, 0, none⟩) (Kd.R_types HO171.out BK168.out (by decide)) (fun _ hk => hk.2) (.slice Ao51 y169.length co51)) (fun _ h_ => h_.1)))) k_ hk⟩)); (case aO => exact (by (with_reducible repeat (first | apply Kd.R_alloc | apply Kd.R_drewN | apply Kd.R_drew)); exact Kd.R_mono (Kd.R_far (p := ⟨gb168, 0, none⟩) (Kd.R_types HO_169001.out BK168.out (by decide)) (fun _ hk => hk.2) (.slice Ao51 y169.length co51)) (fun _ hk => ⟨hk.1.1.1, ⟨hk.1.1.2, hk.1.2⟩⟩))); (case aS => exact (below_size bq)); (case aL => have := LMc46.out; omega); intro v181 w53 ho hb hg hat; rw [← Ny180.out] at ho; have n0_ := Aside0.mk (Kd.R_after (ok := (fun k_ => some k_ ≠ (.slice Ao13 t165.length co13 : Value).ownBlock ∧ some k_ ≠ (.slice Ao51 y169.length co51 : Value).ownBlock)) (by (with_reducible repeat (first | apply Kd.R_alloc | apply Kd.R_drewN | apply Kd.R_drew)); exact Kd.R_mono (Kd.R_far (p := ⟨gb168, 0, none⟩) (Kd.R_types HO_5.out BK168.out (by decide)) (fun _ hk => hk.2) (.slice Ao51 y169.length co51)) (fun _ hk => ⟨⟨hk.1.1.2, hk.1.2⟩, hk.1.1.1⟩)) hg hat); have n1_ := Aside0.mk (Kd.R_after (ok := (fun k_ => some k_ ≠ (v163 : Value).ownBlock ∧ some k_ ≠ (.slice Ao51 y169.length co51 : Value).ownBlock)) (by (with_reducible repeat (first | apply Kd.R_alloc | apply Kd.R_drewN | apply Kd.R_drew)); exact Kd.R_mono (Kd.R_far (p := ⟨gb168, 0, none⟩) (Kd.R_types HO_169002.out BK168.out (by decide)) (fun _ hk => hk.2) (.slice Ao51 y169.length co51)) (fun _ hk => ⟨⟨hk.1.1.1, hk.1.2⟩, hk.1.1.2⟩)) hg hat); have n2_ := Aside0.mk (blk_grown (g := gb160) (o := .cells #[.slice A0_0 l0_0.length c0_0] 74 (0, 0)) (by (with_reducible repeat (first | refine blk_drewN ?_ _ | refine blk_drew ?_ | refine blk_alloc ?_ _)); refine blk_far ?_ NB160_168.out _; (with_reducible repeat (first | refine blk_drewN ?_ _ | refine blk_drew ?_ | refine blk_alloc ?_ _)); exact BK160.out) hg (Kd.R_ne HO_169001.out BK160.out (by decide))); have n3_ := Aside0.mk (blk_grown (g := gb161) (o := .cells #[.slice none 0 0, .slice none 0 0, .slice none 0 0] 37 (0, 0)) (by (with_reducible repeat (first | refine blk_drewN ?_ _ | refine blk_drew ?_ | refine blk_alloc ?_ _)); refine blk_far ?_ NB161_168.out _; (with_reducible repeat (first | refine blk_drewN ?_ _ | refine blk_drew ?_ | refine blk_alloc ?_ _)); exact BK161.out) hg (Kd.R_ne HO_169001.out BK161.out (by decide))); have n4_ := Aside0.mk (blk_grown (g := gb168) (o := .cells #[.slice Ao51 y169.length co51, u169001, .slice Ao13 t165.length co13] 37 (0, 0)) (by (with_reducible repeat (first | refine blk_drewN ?_ _ | refine blk_drew ?_ | refine blk_alloc ?_ _)); refine blk_put (cs := #[u169000, u169001, .slice Ao13 t165.length co13]) ?_ 0 _ rfl; (with_reducible repeat (first | refine blk_drewN ?_ _ | refine blk_drew ?_ | refine blk_alloc ?_ _)); exact BK168.out) hg (Kd.R_ne HO_169001.out BK168.out (by decide))); have n5_ := Aside0.mk (Kd.R_after (ok := (fun k_ => some k_ ≠ (v163 : Value).ownBlock ∧ some k_ ≠ (.slice Ao13 t165.length co13 : Value).ownBlock)) (by (with_reducible repeat (first | apply Kd.R_alloc | apply Kd.R_drewN | apply Kd.R_drew)); exact Kd.R_mono (Kd.R_far (p := ⟨gb168, 0, none⟩) (Kd.R_types HO171.out BK168.out (by decide)) (fun _ hk => hk.2) (.slice Ao51 y169.length co51)) (fun _ hk => ⟨⟨hk.1.1, hk.1.2.2⟩, hk.1.2.1⟩)) hg hat); have n6_ := Aside0.mk (hb); have n7_ := Aside0.mk (ho); clear HO_5; clear HO_169002; clear BK160; clear BK161; clear BK168; clear HO171; clear HB; clear HO_169001; have HO_5 := n0_; have HO_169002 := n1_; have BK160 := n2_; have BK161 := n3_; have BK168 := n4_; have HO171 := n5_; have HB := n6_; have HO182 := n7_; clear n0_ n1_ n2_ n3_ n4_ n5_ n6_ n7_; clear ho hb hg hat; obtain ⟨Ao54, co54, eo54⟩ := Kd.R_slice HO182.out; subst eo54; have hcz55_0 := bc0 BK168; have hcz55_1 := bc1 BK168; have hcz55_2 : w53.cell? ⟨gb168, 2, none⟩ = some (.slice Ao13 t165.length co13) := (blk_cell BK168.out 2).trans rfl; have hfz55_0 := blk_frozen BK168.out 0; have hfz55_1 := blk_frozen BK168.out 1; have hfz55_2 := blk_frozen BK168.out 2))
     go_roundg k1
     case measure => have := HK1.out; omega
     case rel => exact ⟨(wrap64 (x7_1 + 1)), (y169), (y180), (.slice Ao51 y169.length co51), (.slice Ao54 y180.length co54), (by first | rfl | (simp; done) | (simp [*]; done)), H', ⟨by have := HK1.out; omega⟩, ⟨by (with_reducible repeat (first | apply Kd.R_alloc | apply Kd.R_drewN | apply Kd.R_drew)); exact Kd.R_mono (Kd.R_far (p := ⟨gb168, 1, none⟩) (Kd.R_types HO_5.out BK168.out (by decide)) (fun _ hk => hk.2) (.slice Ao54 y180.length co54)) (fun _ hk => ⟨hk.1.1.2, ⟨hk.1.2, hk.1.1.1⟩⟩)⟩, ⟨by (with_reducible repeat (first | apply Kd.R_alloc | apply Kd.R_drewN | apply Kd.R_drew)); exact Kd.R_mono (Kd.R_far (p := ⟨gb168, 1, none⟩) (Kd.R_types HO171.out BK168.out (by decide)) (fun _ hk => hk.2) (.slice Ao54 y180.length co54)) (fun _ hk => ⟨hk.1.1.1, ⟨hk.1.2, hk.1.1.2⟩⟩)⟩, ⟨by (with_reducible repeat (first | apply Kd.R_alloc | apply Kd.R_drewN | apply Kd.R_drew)); exact Kd.R_mono (Kd.R_far (p := ⟨gb168, 1, none⟩) (Kd.R_types HO182.out BK168.out (by decide)) (fun _ hk => hk.2) (.slice Ao54 y180.length co54)) (fun _ hk => ⟨hk.1.1, ⟨hk.1.2.2, hk.1.2.1⟩⟩)⟩, ⟨by (with_reducible repeat (first | apply Kd.R_alloc | apply Kd.R_drewN | apply Kd.R_drew)); exact Kd.R_mono (Kd.R_far (p := ⟨gb168, 1, none⟩) (Kd.R_types HO_169002.out BK168.out (by decide)) (fun _ hk => hk.2) (.slice Ao54 y180.length co54)) (fun _ hk => ⟨hk.1.1.1, ⟨hk.1.1.2, hk.1.2⟩⟩)⟩, ⟨by (with_reducible repeat (first | refine blk_drewN ?_ _ | refine blk_drew ?_ | refine blk_alloc ?_ _)); refine blk_far ?_ NB160_168.out _; (with_reducible repeat (first | refine blk_drewN ?_ _ | refine blk_drew ?_ | refine blk_alloc ?_ _)); exact BK160.out⟩, ⟨by (with_reducible repeat (first | refine blk_drewN ?_ _ | refine blk_drew ?_ | refine blk_alloc ?_ _)); refine blk_far ?_ NB161_168.out _; (with_reducible repeat (first | refine blk_drewN ?_ _ | refine blk_drew ?_ | refine blk_alloc ?_ _)); exact BK161.out⟩, ⟨by (with_reducible repeat (first | refine blk_drewN ?_ _ | refine blk_drew ?_ | refine blk_alloc ?_ _)); refine blk_put (cs := #[.slice Ao51 y169.length co51, u169001, .slice Ao13 t165.length co13]) ?_ 1 _ rfl; (with_reducible repeat (first | refine blk_drewN ?_ _ | refine blk_drew ?_ | refine blk_alloc ?_ _)); exact BK168.out⟩, ⟨bq⟩⟩
   ·rw [if_neg c17] at H
    have c17b0 : decide (x7_1 < a1) = false := decide_eq_false c17
    clear c17
    simp only [Option.some.injEq, Prod.mk.injEq] at H
    obtain ⟨rfl, rfl, rfl⟩ := H
    have hnb56 := NB168_160.out
    have hnc56 := NB160_168.out
    have hnb57 := NB168_161.out
    have hnc57 := NB161_168.out
    have hcz58_0 := bc0 BK168
    have hcz58_1 := bc1 BK168
    have hcz58_2 : wr.cell? ⟨gb168, 2, none⟩ = some (.slice Ao13 t165.length co13) := (blk_cell BK168.out 2).trans rfl
    have hfz58_0 := blk_frozen BK168.out 0
    have hfz58_1 := blk_frozen BK168.out 1
    have hfz58_2 := blk_frozen BK168.out 2
    obtain ⟨Ao59, co59, eo59⟩ := Kd.R_slice HO_169000.out
    subst eo59
    have hnb60 := NB161_160.out
    have hnc60 := NB160_161.out
    have hcz61_0 := bc0 BK161
    have hcz61_1 := bc1 BK161
    have hcz61_2 : wr.cell? ⟨gb161, 2, none⟩ = some (.slice none 0 0) := (blk_cell BK161.out 2).trans rfl
    have hfz61_0 := blk_frozen BK161.out 0
    have hfz61_1 := blk_frozen BK161.out 1
    have hfz61_2 := blk_frozen BK161.out 2
    obtain ⟨Ao62, co62, eo62⟩ := Kd.R_slice HO_169001.out
    subst eo62
    go_wp2
    refine bodyPost_ret (results_cell_row rfl _ _ gb161 37 #[.slice Ao59 x169000_1.length co59, .slice Ao62 x169001_1.length co62, .slice Ao13 t165.length co13] (0, 0) _ rfl (by (with_reducible repeat (first | refine blk_drewN ?_ _ | refine blk_drew ?_ | refine blk_alloc ?_ _)); refine blk_put (cs := #[.slice Ao59 x169000_1.length co59, .slice Ao62 x169001_1.length co62, .slice none 0 0]) ?_ 2 _ rfl; (with_reducible repeat (first | refine blk_drewN ?_ _ | refine blk_drew ?_ | refine blk_alloc ?_ _)); refine blk_put (cs := #[.slice Ao59 x169000_1.length co59, .slice none 0 0, .slice none 0 0]) ?_ 1 _ rfl; (with_reducible repeat (first | refine blk_drewN ?_ _ | refine blk_drew ?_ | refine blk_alloc ?_ _)); refine blk_put (cs := #[.slice none 0 0, .slice none 0 0, .slice none 0 0]) ?_ 0 _ rfl; (with_reducible repeat (first | refine blk_drewN ?_ _ | refine blk_drew ?_ | refine blk_alloc ?_ _)); exact BK161.out) Tryd.underlying37 rfl (by kernel_rfl)) rfl ?_
    exact ⟨_, _, _, eq_, by (with_reducible repeat (first | apply Kd.R_alloc | apply Kd.R_drewN | apply Kd.R_drew)); exact Kd.R_mono (Kd.R_far (p := ⟨gb161, 2, none⟩) (Kd.R_far (p := ⟨gb161, 1, none⟩) (Kd.R_far (p := ⟨gb161, 0, none⟩) (Kd.R_types HO_169000.out BK161.out (by decide)) (fun _ hk => hk.2) (.slice Ao59 x169000_1.length co59)) (fun _ hk => hk.2) (.slice Ao62 x169001_1.length co62)) (fun _ hk => hk.2) (.slice Ao13 t165.length co13)) (fun _ hk => ⟨hk.1.2.1, hk.1.2.2⟩), by (with_reducible repeat (first | apply Kd.R_alloc | apply Kd.R_drewN | apply Kd.R_drew)); exact Kd.R_mono (Kd.R_far (p := ⟨gb161, 2, none⟩) (Kd.R_far (p := ⟨gb161, 1, none⟩) (Kd.R_far (p := ⟨gb161, 0, none⟩) (Kd.R_types HO_169001.out BK161.out (by decide)) (fun _ hk => hk.2) (.slice Ao59 x169000_1.length co59)) (fun _ hk => hk.2) (.slice Ao62 x169001_1.length co62)) (fun _ hk => hk.2) (.slice Ao13 t165.length co13)) (fun _ hk => ⟨hk.1.2.1, hk.1.2.2⟩), by (with_reducible repeat (first | apply Kd.R_alloc | apply Kd.R_drewN | apply Kd.R_drew)); exact Kd.R_mono (Kd.R_far (p := ⟨gb161, 2, none⟩) (Kd.R_far (p := ⟨gb161, 1, none⟩) (Kd.R_far (p := ⟨gb161, 0, none⟩) (Kd.R_types HO_169002.out BK161.out (by decide)) (fun _ hk => hk.2) (.slice Ao59 x169000_1.length co59)) (fun _ hk => hk.2) (.slice Ao62 x169001_1.length co62)) (fun _ hk => hk.2) (.slice Ao13 t165.length co13)) (fun _ hk => ⟨hk.1.2.1, hk.1.2.2⟩), bq⟩
end Go.Proofs.YtkfdfpcdcabcoaaDoor.QDesx
