/- Walks: the printed functions, and that each call comes to them (11). -/
import Derived.Test.YtkfdfpcdcabcoaaDoorX
import Derived.Test.YtkfdfpcdcabcoaaDoorDA
import Derived.Test.YtkfdfpcdcabcoaaDoorDD
import Derived.Test.YtkfdfpcdcabcoaaDoorDJ
namespace Go.Proofs.YtkfdfpcdcabcoaaDoor.QDesx
open Go.RowKit Go.Proofs.YtkfdfpcdcabcoaaDoorW.PrintWords Go.Proofs.YtkfdfpcdcabcoaaDoorW.PrintLast Go.Proofs.YtkfdfpcdcabcoaaDoorW.PrintMore
attribute [local go_sem] max2_int min2_int max_two min_two max_three min_three max_four min_four
set_option linter.unusedVariables false
set_option linter.unusedSimpArgs false

/-! ### impl_IsCluster: function 67 -/
mutual
def impl_IsCluster.j0 : Nat → Int → Bool → List Int → List Int → List Int → Option (Bool)
 | 0, _, _, _, _, _ => none
 | k + 1, x3, x28, x437000, x437001, x437002 => if x28 = true then (none) else ((impl_within.f k x437002 (-100000) 100000).bind fun t437 => (if t437 = true then (impl_IsCluster.l0 k x3 0 x437000 x437001 x437002) else (none)))
def impl_IsCluster.l0 : Nat → Int → Int → List Int → List Int → List Int → Option (Bool)
 | 0, _, _, _, _, _ => none
 | k + 1, x33, x34, x437000, x437001, x437002 => if x34 < x33 then ((impl_isPlace.f x437000 x437001 x437002 x34).bind fun t438 => (if t438 = true then (impl_IsCluster.l1 k x34 x33 x34 x34 0 x437000 x437001 x437002) else (none))) else (some true)
def impl_IsCluster.l1 : Nat → Int → Int → Int → Int → Int → List Int → List Int → List Int → Option (Bool)
 | 0, _, _, _, _, _, _, _, _ => none
 | k + 1, x4, x33, x34, x41, x42, x437000, x437001, x437002 => if x42 < x41 then (if 0 ≤ x4 then (if x4 < (x437001.length : Int) then (if (rd x437001 x4) ≥ 0 then (if 0 ≤ x42 then (if x42 < (x437001.length : Int) then (if (rd x437001 x4) = (rd x437001 x42) then (if x4 < (x437000.length : Int) then (if x42 < (x437000.length : Int) then (if (rd x437000 x4) = (rd x437000 x42) then (none) else (impl_IsCluster.l1 k x4 x33 x34 x41 (wrap64 (x42 + 1)) x437000 x437001 x437002)) else (none)) else (none)) else (impl_IsCluster.l1 k x4 x33 x34 x41 (wrap64 (x42 + 1)) x437000 x437001 x437002)) else (none)) else (none)) else (impl_IsCluster.l1 k x4 x33 x34 x41 (wrap64 (x42 + 1)) x437000 x437001 x437002)) else (none)) else (none)) else (impl_IsCluster.l0 k x33 (wrap64 (x34 + 1)) x437000 x437001 x437002)
end
def impl_IsCluster.f (k : Nat) (l0_0 : List Int) (l0_1 : List Int) (l0_2 : List Int) : Option (Bool) := if (l0_0.length : Int) < 1 then (impl_IsCluster.j0 k (l0_0.length : Int) true l0_0 l0_1 l0_2) else (if (l0_0.length : Int) > 24 then (impl_IsCluster.j0 k (l0_0.length : Int) true l0_0 l0_1 l0_2) else (if (l0_1.length : Int) = (l0_0.length : Int) then (impl_IsCluster.j0 k (l0_0.length : Int) ((l0_2.length : Int) != (l0_0.length : Int)) l0_0 l0_1 l0_2) else (impl_IsCluster.j0 k (l0_0.length : Int) true l0_0 l0_1 l0_2)))
set_option maxHeartbeats 8000000 in
set_option maxRecDepth 100000 in
theorem impl_IsCluster.calls (k : Nat) (A0_0 : Option Addr) (c0_0 : Nat) (l0_0 : List Int) (A0_1 : Option Addr) (c0_1 : Nat) (l0_1 : List Int) (A0_2 : Option Addr) (c0_2 : Nat) (l0_2 : List Int) (r : Bool) (w : World) (hr0_0 : Kd.C (Kd.int .i64) w A0_0 l0_0.length l0_0) (hc0_0 : l0_0.length ≤ c0_0) (hr0_1 : Kd.C (Kd.int .i64) w A0_1 l0_1.length l0_1) (hc0_1 : l0_1.length ≤ c0_1) (hr0_2 : Kd.C (Kd.int .i64) w A0_2 l0_2.length l0_2) (hc0_2 : l0_2.length ≤ c0_2) (h : impl_IsCluster.f k l0_0 l0_1 l0_2 = some r) :
  Calls Tryd.prog 67 #[.agg #[.slice A0_0 l0_0.length c0_0, .slice A0_1 l0_1.length c0_1, .slice A0_2 l0_2.length c0_2]] w fun e w' => e = .returned (.bool r) ∧ Below w.heap.size w w' := by
 have hu37 := Tryd.underlying37
 have HR0_0 := Aside0.mk hr0_0
 have HC0_0 := Aside0.mk hc0_0
 clear hr0_0 hc0_0
 have HR0_1 := Aside0.mk hr0_1
 have HC0_1 := Aside0.mk hc0_1
 clear hr0_1 hc0_1
 have HR0_2 := Aside0.mk hr0_2
 have HC0_2 := Aside0.mk hc0_2
 clear hr0_2 hc0_2
 have HB := Aside0.mk (Below.refl w.heap.size w)
 have H : (if (l0_0.length : Int) < 1 then (impl_IsCluster.j0 k (l0_0.length : Int) true l0_0 l0_1 l0_2) else (if (l0_0.length : Int) > 24 then (impl_IsCluster.j0 k (l0_0.length : Int) true l0_0 l0_1 l0_2) else (if (l0_1.length : Int) = (l0_0.length : Int) then (impl_IsCluster.j0 k (l0_0.length : Int) ((l0_2.length : Int) != (l0_0.length : Int)) l0_0 l0_1 l0_2) else (impl_IsCluster.j0 k (l0_0.length : Int) true l0_0 l0_1 l0_2)))) = some r := h
 clear h
 have HC2 := Aside0.mk H
 clear H
 go_enter Tryd.func67, Tryd.ntmps67
 go_upto_region 2 with (first | ((with_reducible refine gate_dst (N := 1) rfl ?_); (try (refine gate_guard (by rfl) ?_; dsimp only)); refine box_event ?hg (N := 1) ?hd (cs := #[.slice A0_0 l0_0.length c0_0, .slice A0_1 l0_1.length c0_1, .slice A0_2 l0_2.length c0_2]) (t := 37) ?hr ?_; (case hd => rfl); (case hg => rfl); (case hr => first | (go_simp; done) | (go_simp; rfl)); intro gb436 hg w3 hbox hb; have BK436 := Aside0.mk (hbox); have GW436 := Aside0.mk ((by rw [hg]; exact (below_size bq) : w.heap.size ≤ gb436)); have GE436 := Aside0.mk ((by rw [hg]; exact (below_size bq) : w.heap.size ≤ gb436)); replace HB := Aside0.mk (below_step bq hb); clear hb hbox hg; have hcz4_0 := bc0 BK436; have hcz4_1 := bc1 BK436; have hcz4_2 : w3.cell? ⟨gb436, 2, none⟩ = some (.slice A0_2 l0_2.length c0_2) := (blk_cell BK436.out 2).trans rfl; have hfz4_0 := blk_frozen BK436.out 0; have hfz4_1 := blk_frozen BK436.out 1; have hfz4_2 := blk_frozen BK436.out 2))
 repeat (go_quiet (first | ((with_reducible refine gate_dst (N := 1) rfl ?_); (try (refine gate_guard (by rfl) ?_; dsimp only)); refine box_event ?hg (N := 1) ?hd (cs := #[.slice A0_0 l0_0.length c0_0, .slice A0_1 l0_1.length c0_1, .slice A0_2 l0_2.length c0_2]) (t := 37) ?hr ?_; (case hd => rfl); (case hg => rfl); (case hr => first | (go_simp; done) | (go_simp; rfl)); intro gb436 hg w3 hbox hb; have BK436 := Aside0.mk (hbox); have GW436 := Aside0.mk ((by rw [hg]; exact (below_size bq) : w.heap.size ≤ gb436)); have GE436 := Aside0.mk ((by rw [hg]; exact (below_size bq) : w.heap.size ≤ gb436)); replace HB := Aside0.mk (below_step bq hb); clear hb hbox hg; have hcz4_0 := bc0 BK436; have hcz4_1 := bc1 BK436; have hcz4_2 : w3.cell? ⟨gb436, 2, none⟩ = some (.slice A0_2 l0_2.length c0_2) := (blk_cell BK436.out 2).trans rfl; have hfz4_0 := blk_frozen BK436.out 0; have hfz4_1 := blk_frozen BK436.out 1; have hfz4_2 := blk_frozen BK436.out 2)); go_upto_region 2 with (first | ((with_reducible refine gate_dst (N := 1) rfl ?_); (try (refine gate_guard (by rfl) ?_; dsimp only)); refine box_event ?hg (N := 1) ?hd (cs := #[.slice A0_0 l0_0.length c0_0, .slice A0_1 l0_1.length c0_1, .slice A0_2 l0_2.length c0_2]) (t := 37) ?hr ?_; (case hd => rfl); (case hg => rfl); (case hr => first | (go_simp; done) | (go_simp; rfl)); intro gb436 hg w3 hbox hb; have BK436 := Aside0.mk (hbox); have GW436 := Aside0.mk ((by rw [hg]; exact (below_size bq) : w.heap.size ≤ gb436)); have GE436 := Aside0.mk ((by rw [hg]; exact (below_size bq) : w.heap.size ≤ gb436)); replace HB := Aside0.mk (below_step bq hb); clear hb hbox hg; have hcz4_0 := bc0 BK436; have hcz4_1 := bc1 BK436; have hcz4_2 : w3.cell? ⟨gb436, 2, none⟩ = some (.slice A0_2 l0_2.length c0_2) := (blk_cell BK436.out 2).trans rfl; have hfz4_0 := blk_frozen BK436.out 0; have hfz4_1 := blk_frozen BK436.out 1; have hfz4_2 := blk_frozen BK436.out 2)))
 (try simp only [Act.put, List.setIfInBounds_toArray, List.set_cons_zero, List.set_cons_succ])
 go_cut [28] (fun v28 wc => ∃ (kq : Nat) (x28_1 : Bool), v28 = .bool x28_1 ∧ Aside0 (impl_IsCluster.j0 kq (l0_0.length : Int) x28_1 l0_0 l0_1 l0_2 = some r) ∧ Aside0 (kq ≤ k) ∧ Aside0 (wc.heap[gb436]? = some (.cells #[(.slice A0_0 l0_0.length c0_0), (.slice A0_1 l0_1.length c0_1), (.slice A0_2 l0_2.length c0_2)] 37 (0, 0))) ∧ Aside0 (Below w.heap.size w wc))
 case first =>
  have H := HC2.out
  clear HC2
  by_cases c5 : (l0_0.length : Int) < 1
  ·rw [if_pos c5] at H
   have c5b0 : decide ((l0_0.length : Int) < 1) = true := decide_eq_true c5
   have c5b1 : decide (l0_0.length < 1) = true := decide_eq_true (by omega)
   clear c5
   (first | rw [c5b0] | (simp only [i64_w, i32_w]; rw [c5b0]) | skip)
   have H' := Aside0.mk H
   clear H
   go_wp2
   repeat (go_quiet (fail); try go_wp2)
   go_meet
   case rel => exact ⟨_, (true), (by first | rfl | (simp; done) | (simp [*]; done)), H', ⟨by first | omega | exact Nat.le_refl _⟩, ⟨bk BK436⟩, ⟨bq⟩⟩
  ·rw [if_neg c5] at H
   have c5b0 : decide ((l0_0.length : Int) < 1) = false := decide_eq_false c5
   have c5b1 : decide (l0_0.length < 1) = false := decide_eq_false (by omega)
   clear c5
   (first | rw [c5b0] | (simp only [i64_w, i32_w]; rw [c5b0]) | skip)
   by_cases c6 : (l0_0.length : Int) > 24
   ·rw [if_pos c6] at H
    have c6b0 : decide (24 < (l0_0.length : Int)) = true := decide_eq_true c6
    have c6b1 : decide (24 < l0_0.length) = true := decide_eq_true (by omega)
    clear c6
    have H' := Aside0.mk H
    clear H
    go_wp2
    repeat (go_quiet (fail); try go_wp2)
    go_meet
    case rel => exact ⟨_, (true), (by first | rfl | (simp; done) | (simp [*]; done)), H', ⟨by first | omega | exact Nat.le_refl _⟩, ⟨bk BK436⟩, ⟨bq⟩⟩
   ·rw [if_neg c6] at H
    have c6b0 : decide (24 < (l0_0.length : Int)) = false := decide_eq_false c6
    have c6b1 : decide (24 < l0_0.length) = false := decide_eq_false (by omega)
    clear c6
    by_cases c7 : (l0_1.length : Int) = (l0_0.length : Int)
    ·rw [if_pos c7] at H
     have c7b0 : ((l0_1.length : Int) == (l0_0.length : Int)) = true := beq_iff_eq.mpr c7
     have c7b1 : ((l0_1.length : Int) != (l0_0.length : Int)) = false := bne_eq_false_iff_eq.mpr c7
     have c7b2 : (l0_1.length == l0_0.length) = true := by first | simpa using c7 | (simp at c7 ⊢; omega)
     clear c7
     have H' := Aside0.mk H
     clear H
     have hcz8_0 := bc0 BK436
     have hcz8_1 := bc1 BK436
     have hcz8_2 : w3.cell? ⟨gb436, 2, none⟩ = some (.slice A0_2 l0_2.length c0_2) := (blk_cell BK436.out 2).trans rfl
     have hfz8_0 := blk_frozen BK436.out 0
     have hfz8_1 := blk_frozen BK436.out 1
     have hfz8_2 := blk_frozen BK436.out 2
     go_wp2
     repeat (go_quiet (fail); try go_wp2)
     go_meet
     case rel => exact ⟨_, (((l0_2.length : Int) != (l0_0.length : Int))), (by first | rfl | (simp; done) | (simp [*]; done)), H', ⟨by first | omega | exact Nat.le_refl _⟩, ⟨bk BK436⟩, ⟨bq⟩⟩
    ·rw [if_neg c7] at H
     have c7b0 : ((l0_1.length : Int) == (l0_0.length : Int)) = false := beq_eq_false_iff_ne.mpr c7
     have c7b1 : ((l0_1.length : Int) != (l0_0.length : Int)) = true := bne_iff_ne.mpr c7
     have c7b2 : (l0_1.length == l0_0.length) = false := by first | simpa using c7 | (simp at c7 ⊢; omega)
     have H' := Aside0.mk H
     clear H
     have hcz9_0 := bc0 BK436
     have hcz9_1 := bc1 BK436
     have hcz9_2 : w3.cell? ⟨gb436, 2, none⟩ = some (.slice A0_2 l0_2.length c0_2) := (blk_cell BK436.out 2).trans rfl
     have hfz9_0 := blk_frozen BK436.out 0
     have hfz9_1 := blk_frozen BK436.out 1
     have hfz9_2 := blk_frozen BK436.out 2
     go_wp2
     repeat (go_quiet (fail); try go_wp2)
     go_meet
     case rel => exact ⟨_, (true), (by first | rfl | (simp; done) | (simp [*]; done)), H', ⟨by first | omega | exact Nat.le_refl _⟩, ⟨bk BK436⟩, ⟨bq⟩⟩
 case rest =>
  clear HC2
  try clear p2
  try clear c5
  try clear c5b0
  try clear c5b1
  try clear c6
  try clear c6b0
  try clear c6b1
  try clear c7
  try clear c7b0
  try clear c7b1
  try clear c7b2
  try clear hcz4_0
  try clear hcz4_1
  try clear hcz4_2
  try clear hcz8_0
  try clear hcz8_1
  try clear hcz8_2
  try clear hcz9_0
  try clear hcz9_1
  try clear hcz9_2
  try clear hfz4_0
  try clear hfz4_1
  try clear hfz4_2
  try clear hfz8_0
  try clear hfz8_1
  try clear hfz8_2
  try clear hfz9_0
  try clear hfz9_1
  try clear hfz9_2
  obtain ⟨kq, x28_1, rfl, HA, HJ1, BK436, HB⟩ := hcut
  cases kq with
  | zero => exact absurd HA.out (by simp [impl_IsCluster.j0])
  | succ kj1 =>
   have H := HA.out
   clear HA
   simp only [impl_IsCluster.j0] at H
   by_cases c10 : x28_1 = true
   ·subst c10
    have H1 : (none) = some r := by rw [if_pos rfl] at H; exact H
    clear H
    have H := H1
    clear H1
    exact absurd H (by simp)
   ·replace c10 := Bool.eq_false_iff.mpr c10
    subst c10
    have H1 : ((impl_within.f kj1 l0_2 (-100000) 100000).bind fun t437 => (if t437 = true then (impl_IsCluster.l0 kj1 (l0_0.length : Int) 0 l0_0 l0_1 l0_2) else (none))) = some r := by rw [if_neg (show ¬ (false = true) by decide)] at H; exact H
    clear H
    have H := H1
    clear H1
    replace H := Option.bind_eq_some_iff.mp H
    obtain ⟨t437, A110, H⟩ := H
    replace H : (if t437 = true then (impl_IsCluster.l0 kj1 (l0_0.length : Int) 0 l0_0 l0_1 l0_2) else (none)) = some r := H
    have A11 := Aside0.mk A110
    clear A110
    by_cases c12 : t437 = true
    ·subst c12
     have H1 : (impl_IsCluster.l0 kj1 (l0_0.length : Int) 0 l0_0 l0_1 l0_2) = some r := by rw [if_pos rfl] at H; exact H
     clear H
     have H := H1
     clear H1
     have H' := Aside0.mk H
     clear H
     have hcz13_0 := bc0 BK436
     have hcz13_1 := bc1 BK436
     have hcz13_2 : wc.cell? ⟨gb436, 2, none⟩ = some (.slice A0_2 l0_2.length c0_2) := (blk_cell BK436.out 2).trans rfl
     have hfz13_0 := blk_frozen BK436.out 0
     have hfz13_1 := blk_frozen BK436.out 1
     have hfz13_2 := blk_frozen BK436.out 2
     go_wp2_with (first | (go_at_call 83; (with_reducible refine (impl_within.calls kj1 _ _ l0_2 (-100000) 100000 true _ ?side1 ?side2 A11.out).mono ?_); (case side1 => exact kc HR0_2); (case side2 => exact HC0_2.out); rintro e w' ⟨rfl, ⟨nd, rfl⟩⟩; (try first | exact ⟨rfl, _, World.drewN_drewN _ _ _⟩ | exact ⟨rfl, _, Eq.trans (World.drewN_drewN _ _ _) (congrArg (World.drewN _) (Nat.add_assoc _ _ _))⟩)))
     repeat (go_quiet (first | (go_at_call 83; (with_reducible refine (impl_within.calls kj1 _ _ l0_2 (-100000) 100000 true _ ?side1 ?side2 A11.out).mono ?_); (case side1 => exact kc HR0_2); (case side2 => exact HC0_2.out); rintro e w' ⟨rfl, ⟨nd, rfl⟩⟩; (try first | exact ⟨rfl, _, World.drewN_drewN _ _ _⟩ | exact ⟨rfl, _, Eq.trans (World.drewN_drewN _ _ _) (congrArg (World.drewN _) (Nat.add_assoc _ _ _))⟩))); try go_wp2_with (first | (go_at_call 83; (with_reducible refine (impl_within.calls kj1 _ _ l0_2 (-100000) 100000 true _ ?side1 ?side2 A11.out).mono ?_); (case side1 => exact kc HR0_2); (case side2 => exact HC0_2.out); rintro e w' ⟨rfl, ⟨nd, rfl⟩⟩; (try first | exact ⟨rfl, _, World.drewN_drewN _ _ _⟩ | exact ⟨rfl, _, Eq.trans (World.drewN_drewN _ _ _) (congrArg (World.drewN _) (Nat.add_assoc _ _ _))⟩))))
     go_loopg [34] kj1 (fun kq v34 w' => ∃ (x34_2 : Int), v34 = .int .i64 x34_2 ∧ Aside0 (impl_IsCluster.l0 kq (l0_0.length : Int) x34_2 l0_0 l0_1 l0_2 = some r) ∧ Aside0 (kq ≤ kj1) ∧ Aside0 (w'.heap[gb436]? = some (.cells #[(.slice A0_0 l0_0.length c0_0), (.slice A0_1 l0_1.length c0_1), (.slice A0_2 l0_2.length c0_2)] 37 (0, 0))) ∧ Aside0 (Below w.heap.size w w'))
     case atStart => exact ⟨(0), (by first | rfl | (simp; done) | (simp [*]; done)), H', ⟨Nat.le_refl _⟩, ⟨bk BK436⟩, ⟨bq⟩⟩
     case round =>
      clear H'
      try clear c1
      try clear p2
      try clear c5
      try clear c5b0
      try clear c5b1
      try clear c6
      try clear c6b0
      try clear c6b1
      try clear c7
      try clear c7b0
      try clear c7b1
      try clear c7b2
      try clear c10
      try clear c12
      try clear hcz13_0
      try clear hcz13_1
      try clear hcz13_2
      try clear hcz4_0
      try clear hcz4_1
      try clear hcz4_2
      try clear hcz8_0
      try clear hcz8_1
      try clear hcz8_2
      try clear hcz9_0
      try clear hcz9_1
      try clear hcz9_2
      try clear hfz13_0
      try clear hfz13_1
      try clear hfz13_2
      try clear hfz4_0
      try clear hfz4_1
      try clear hfz4_2
      try clear hfz8_0
      try clear hfz8_1
      try clear hfz8_2
      try clear hfz9_0
      try clear hfz9_1
      try clear hfz9_2
      try clear p2
      obtain ⟨x34_2, rfl, HA, HK2, BK436, HB⟩ := hrel
      cases gk with
      | zero => exact absurd HA.out (by simp [impl_IsCluster.l0])
      | succ k2 =>
       have H := HA.out
       clear HA
       simp only [impl_IsCluster.l0] at H
       by_cases c14 : x34_2 < (l0_0.length : Int)
       ·rw [if_pos c14] at H
        have c14b0 : decide (x34_2 < (l0_0.length : Int)) = true := decide_eq_true c14
        clear c14
        replace H := Option.bind_eq_some_iff.mp H
        obtain ⟨t438, A150, H⟩ := H
        replace H : (if t438 = true then (impl_IsCluster.l1 k2 x34_2 (l0_0.length : Int) x34_2 x34_2 0 l0_0 l0_1 l0_2) else (none)) = some r := H
        have A15 := Aside0.mk A150
        clear A150
        by_cases c16 : t438 = true
        ·subst c16
         have H1 : (impl_IsCluster.l1 k2 x34_2 (l0_0.length : Int) x34_2 x34_2 0 l0_0 l0_1 l0_2) = some r := by rw [if_pos rfl] at H; exact H
         clear H
         have H := H1
         clear H1
         have H' := Aside0.mk H
         clear H
         have hcz17_0 := bc0 BK436
         have hcz17_1 := bc1 BK436
         have hcz17_2 : wr.cell? ⟨gb436, 2, none⟩ = some (.slice A0_2 l0_2.length c0_2) := (blk_cell BK436.out 2).trans rfl
         have hfz17_0 := blk_frozen BK436.out 0
         have hfz17_1 := blk_frozen BK436.out 1
         have hfz17_2 := blk_frozen BK436.out 2
         go_wp2_with (first | (go_at_call 95; (with_reducible refine (impl_isPlace.calls _ _ l0_0 _ _ l0_1 _ _ l0_2 x34_2 true _ ?side1 ?side2 ?side3 ?side4 ?side5 ?side6 A15.out).mono ?_); (case side1 => exact kc HR0_0); (case side2 => exact HC0_0.out); (case side3 => exact kc HR0_1); (case side4 => exact HC0_1.out); (case side5 => exact kc HR0_2); (case side6 => exact HC0_2.out); rintro e w18 ⟨rfl, hb⟩; replace BK436 := Aside0.mk (blk_below (g := gb436) (o := .cells #[.slice A0_0 l0_0.length c0_0, .slice A0_1 l0_1.length c0_1, .slice A0_2 l0_2.length c0_2] 37 (0, 0)) (bk BK436) hb); replace HB := Aside0.mk (below_step bq hb); (try clear hb)))
         repeat (go_quiet (first | (go_at_call 95; (with_reducible refine (impl_isPlace.calls _ _ l0_0 _ _ l0_1 _ _ l0_2 x34_2 true _ ?side1 ?side2 ?side3 ?side4 ?side5 ?side6 A15.out).mono ?_); (case side1 => exact kc HR0_0); (case side2 => exact HC0_0.out); (case side3 => exact kc HR0_1); (case side4 => exact HC0_1.out); (case side5 => exact kc HR0_2); (case side6 => exact HC0_2.out); rintro e w18 ⟨rfl, hb⟩; replace BK436 := Aside0.mk (blk_below (g := gb436) (o := .cells #[.slice A0_0 l0_0.length c0_0, .slice A0_1 l0_1.length c0_1, .slice A0_2 l0_2.length c0_2] 37 (0, 0)) (bk BK436) hb); replace HB := Aside0.mk (below_step bq hb); (try clear hb))); try go_wp2_with (first | (go_at_call 95; (with_reducible refine (impl_isPlace.calls _ _ l0_0 _ _ l0_1 _ _ l0_2 x34_2 true _ ?side1 ?side2 ?side3 ?side4 ?side5 ?side6 A15.out).mono ?_); (case side1 => exact kc HR0_0); (case side2 => exact HC0_0.out); (case side3 => exact kc HR0_1); (case side4 => exact HC0_1.out); (case side5 => exact kc HR0_2); (case side6 => exact HC0_2.out); rintro e w18 ⟨rfl, hb⟩; replace BK436 := Aside0.mk (blk_below (g := gb436) (o := .cells #[.slice A0_0 l0_0.length c0_0, .slice A0_1 l0_1.length c0_1, .slice A0_2 l0_2.length c0_2] 37 (0, 0)) (bk BK436) hb); replace HB := Aside0.mk (below_step bq hb); (try clear hb))))
         go_loopg [42] k2 (fun kq v42 w' => ∃ (x42_3 : Int), v42 = .int .i64 x42_3 ∧ Aside0 (impl_IsCluster.l1 kq x34_2 (l0_0.length : Int) x34_2 x34_2 x42_3 l0_0 l0_1 l0_2 = some r) ∧ Aside0 (kq ≤ k2) ∧ Aside0 (w'.heap[gb436]? = some (.cells #[(.slice A0_0 l0_0.length c0_0), (.slice A0_1 l0_1.length c0_1), (.slice A0_2 l0_2.length c0_2)] 37 (0, 0))) ∧ Aside0 (Below w.heap.size w w'))
         case atStart => exact ⟨(0), (by first | rfl | (simp; done) | (simp [*]; done)), H', ⟨Nat.le_refl _⟩, ⟨bk BK436⟩, ⟨bq⟩⟩
         case round =>
          clear H'
          try clear c1
          try clear p2
          try clear c5
          try clear c5b0
          try clear c5b1
          try clear c6
          try clear c6b0
          try clear c6b1
          try clear c7
          try clear c7b0
          try clear c7b1
          try clear c7b2
          try clear c10
          try clear c12
          try clear c14
          try clear c14b0
          try clear c16
          try clear hcz13_0
          try clear hcz13_1
          try clear hcz13_2
          try clear hcz17_0
          try clear hcz17_1
          try clear hcz17_2
          try clear hcz4_0
          try clear hcz4_1
          try clear hcz4_2
          try clear hcz8_0
          try clear hcz8_1
          try clear hcz8_2
          try clear hcz9_0
          try clear hcz9_1
          try clear hcz9_2
          try clear hfz13_0
          try clear hfz13_1
          try clear hfz13_2
          try clear hfz17_0
          try clear hfz17_1
          try clear hfz17_2
          try clear hfz4_0
          try clear hfz4_1
          try clear hfz4_2
          try clear hfz8_0
          try clear hfz8_1
          try clear hfz8_2
          try clear hfz9_0
          try clear hfz9_1
          try clear hfz9_2
          try clear p2
          obtain ⟨x42_3, rfl, HA, HK3, BK436, HB⟩ := hrel
          cases gk with
          | zero => exact absurd HA.out (by simp [impl_IsCluster.l1])
          | succ k3 =>
           have H := HA.out
           clear HA
           simp only [impl_IsCluster.l1] at H
           by_cases c19 : x42_3 < x34_2
           ·rw [if_pos c19] at H
            have c19b0 : decide (x42_3 < x34_2) = true := decide_eq_true c19
            clear c19
            revert H
            refine ifr fun c20 H => ?_
            have c20b0 : decide (0 ≤ x34_2) = true := decide_eq_true c20
            clear c20
            revert H
            refine ifr fun c21 H => ?_
            have c21b0 : decide (x34_2 < (l0_1.length : Int)) = true := decide_eq_true c21
            clear c21
            by_cases c22 : (rd l0_1 x34_2) ≥ 0
            ·rw [if_pos c22] at H
             have c22b0 : decide (0 ≤ (rd l0_1 x34_2)) = true := decide_eq_true c22
             clear c22
             revert H
             refine ifr fun c23 H => ?_
             have c23b0 : decide (0 ≤ x42_3) = true := decide_eq_true c23
             clear c23
             revert H
             refine ifr fun c24 H => ?_
             have c24b0 : decide (x42_3 < (l0_1.length : Int)) = true := decide_eq_true c24
             clear c24
             by_cases c25 : (rd l0_1 x34_2) = (rd l0_1 x42_3)
             ·rw [if_pos c25] at H
              have c25b0 : ((rd l0_1 x34_2) == (rd l0_1 x42_3)) = true := beq_iff_eq.mpr c25
              have c25b1 : ((rd l0_1 x34_2) != (rd l0_1 x42_3)) = false := bne_eq_false_iff_eq.mpr c25
              clear c25
              revert H
              refine ifr fun c26 H => ?_
              have c26b0 : decide (x34_2 < (l0_0.length : Int)) = true := decide_eq_true c26
              clear c26
              revert H
              refine ifr fun c27 H => ?_
              have c27b0 : decide (x42_3 < (l0_0.length : Int)) = true := decide_eq_true c27
              clear c27
              by_cases c28 : (rd l0_0 x34_2) = (rd l0_0 x42_3)
              ·rw [if_pos c28] at H
               exact absurd H (by simp)
              ·rw [if_neg c28] at H
               have c28b0 : ((rd l0_0 x34_2) == (rd l0_0 x42_3)) = false := beq_eq_false_iff_ne.mpr c28
               have c28b1 : ((rd l0_0 x34_2) != (rd l0_0 x42_3)) = true := bne_iff_ne.mpr c28
               have H' := Aside0.mk H
               clear H
               have hcz29_0 := bc0 BK436
               have hcz29_1 := bc1 BK436
               have hcz29_2 : wr.cell? ⟨gb436, 2, none⟩ = some (.slice A0_2 l0_2.length c0_2) := (blk_cell BK436.out 2).trans rfl
               have hfz29_0 := blk_frozen BK436.out 0
               have hfz29_1 := blk_frozen BK436.out 1
               have hfz29_2 := blk_frozen BK436.out 2
               have p439 : 0 ≤ (x34_2 : Int) := ode
               have q439 : x34_2 < (l0_1.length : Int) := ode
               obtain ⟨ad439, e439, hx439_0⟩ := Kd.at_int HR0_1.out x34_2 p439 q439
               cases e439
               try replace hx439_0 := (HB.out.cell (World.block_lt_of_cell? w _ hx439_0)).trans hx439_0
               replace p439 := eq_true p439
               replace q439 := eq_true q439
               have p440 : 0 ≤ (x34_2 : Int) := ode
               have q440 : x34_2 < (l0_1.length : Int) := ode
               obtain ⟨ad440, e440, hx440_0⟩ := Kd.at_int HR0_1.out x34_2 p440 q440
               obtain rfl : ad439 = ad440 := (by injection e440)
               try replace hx440_0 := (HB.out.cell (World.block_lt_of_cell? w _ hx440_0)).trans hx440_0
               replace p440 := eq_true p440
               replace q440 := eq_true q440
               have p441 : 0 ≤ (x42_3 : Int) := ode
               have q441 : x42_3 < (l0_1.length : Int) := ode
               obtain ⟨ad441, e441, hx441_0⟩ := Kd.at_int HR0_1.out x42_3 p441 q441
               obtain rfl : ad439 = ad441 := (by injection e441)
               try replace hx441_0 := (HB.out.cell (World.block_lt_of_cell? w _ hx441_0)).trans hx441_0
               replace p441 := eq_true p441
               replace q441 := eq_true q441
               have p442 : 0 ≤ (x34_2 : Int) := ode
               have q442 : x34_2 < (l0_0.length : Int) := ode
               obtain ⟨ad442, e442, hx442_0⟩ := Kd.at_int HR0_0.out x34_2 p442 q442
               cases e442
               try replace hx442_0 := (HB.out.cell (World.block_lt_of_cell? w _ hx442_0)).trans hx442_0
               replace p442 := eq_true p442
               replace q442 := eq_true q442
               have p443 : 0 ≤ (x42_3 : Int) := ode
               have q443 : x42_3 < (l0_0.length : Int) := ode
               obtain ⟨ad443, e443, hx443_0⟩ := Kd.at_int HR0_0.out x42_3 p443 q443
               obtain rfl : ad442 = ad443 := (by injection e443)
               try replace hx443_0 := (HB.out.cell (World.block_lt_of_cell? w _ hx443_0)).trans hx443_0
               replace p443 := eq_true p443
               replace q443 := eq_true q443
               go_wp2
               repeat (go_quiet (fail); try go_wp2)
               go_roundg k3
               case measure => have := HJ1.out; have := HK2.out; have := HK3.out; omega
               case rel => exact ⟨(wrap64 (x42_3 + 1)), (by first | rfl | (simp; done) | (simp [*]; done)), H', ⟨by have := HJ1.out; have := HK2.out; have := HK3.out; omega⟩, ⟨bk BK436⟩, ⟨bq⟩⟩
             ·rw [if_neg c25] at H
              have c25b0 : ((rd l0_1 x34_2) == (rd l0_1 x42_3)) = false := beq_eq_false_iff_ne.mpr c25
              have c25b1 : ((rd l0_1 x34_2) != (rd l0_1 x42_3)) = true := bne_iff_ne.mpr c25
              have H' := Aside0.mk H
              clear H
              have hcz30_0 := bc0 BK436
              have hcz30_1 := bc1 BK436
              have hcz30_2 : wr.cell? ⟨gb436, 2, none⟩ = some (.slice A0_2 l0_2.length c0_2) := (blk_cell BK436.out 2).trans rfl
              have hfz30_0 := blk_frozen BK436.out 0
              have hfz30_1 := blk_frozen BK436.out 1
              have hfz30_2 := blk_frozen BK436.out 2
              have p439 : 0 ≤ (x34_2 : Int) := ode
              have q439 : x34_2 < (l0_1.length : Int) := ode
              obtain ⟨ad439, e439, hx439_0⟩ := Kd.at_int HR0_1.out x34_2 p439 q439
              cases e439
              try replace hx439_0 := (HB.out.cell (World.block_lt_of_cell? w _ hx439_0)).trans hx439_0
              replace p439 := eq_true p439
              replace q439 := eq_true q439
              have p440 : 0 ≤ (x34_2 : Int) := ode
              have q440 : x34_2 < (l0_1.length : Int) := ode
              obtain ⟨ad440, e440, hx440_0⟩ := Kd.at_int HR0_1.out x34_2 p440 q440
              obtain rfl : ad439 = ad440 := (by injection e440)
              try replace hx440_0 := (HB.out.cell (World.block_lt_of_cell? w _ hx440_0)).trans hx440_0
              replace p440 := eq_true p440
              replace q440 := eq_true q440
              have p441 : 0 ≤ (x42_3 : Int) := ode
              have q441 : x42_3 < (l0_1.length : Int) := ode
              obtain ⟨ad441, e441, hx441_0⟩ := Kd.at_int HR0_1.out x42_3 p441 q441
              obtain rfl : ad439 = ad441 := (by injection e441)
              try replace hx441_0 := (HB.out.cell (World.block_lt_of_cell? w _ hx441_0)).trans hx441_0
              replace p441 := eq_true p441
              replace q441 := eq_true q441
              go_wp2
              repeat (go_quiet (fail); try go_wp2)
              go_roundg k3
              case measure => have := HJ1.out; have := HK2.out; have := HK3.out; omega
              case rel => exact ⟨(wrap64 (x42_3 + 1)), (by first | rfl | (simp; done) | (simp [*]; done)), H', ⟨by have := HJ1.out; have := HK2.out; have := HK3.out; omega⟩, ⟨bk BK436⟩, ⟨bq⟩⟩
            ·rw [if_neg c22] at H
             have c22b0 : decide (0 ≤ (rd l0_1 x34_2)) = false := decide_eq_false c22
             clear c22
             have H' := Aside0.mk H
             clear H
             have hcz31_0 := bc0 BK436
             have hcz31_1 := bc1 BK436
             have hcz31_2 : wr.cell? ⟨gb436, 2, none⟩ = some (.slice A0_2 l0_2.length c0_2) := (blk_cell BK436.out 2).trans rfl
             have hfz31_0 := blk_frozen BK436.out 0
             have hfz31_1 := blk_frozen BK436.out 1
             have hfz31_2 := blk_frozen BK436.out 2
             have p439 : 0 ≤ (x34_2 : Int) := ode
             have q439 : x34_2 < (l0_1.length : Int) := ode
             obtain ⟨ad439, e439, hx439_0⟩ := Kd.at_int HR0_1.out x34_2 p439 q439
             cases e439
             try replace hx439_0 := (HB.out.cell (World.block_lt_of_cell? w _ hx439_0)).trans hx439_0
             replace p439 := eq_true p439
             replace q439 := eq_true q439
             go_wp2
             repeat (go_quiet (fail); try go_wp2)
             go_roundg k3
             case measure => have := HJ1.out; have := HK2.out; have := HK3.out; omega
             case rel => exact ⟨(wrap64 (x42_3 + 1)), (by first | rfl | (simp; done) | (simp [*]; done)), H', ⟨by have := HJ1.out; have := HK2.out; have := HK3.out; omega⟩, ⟨bk BK436⟩, ⟨bq⟩⟩
           ·rw [if_neg c19] at H
            have c19b0 : decide (x42_3 < x34_2) = false := decide_eq_false c19
            clear c19
            have H' := Aside0.mk H
            clear H
            go_wp2
            repeat (go_quiet (fail); try go_wp2)
            go_roundg k3
            case measure => have := HJ1.out; have := HK2.out; have := HK3.out; omega
            case rel => exact ⟨(wrap64 (x34_2 + 1)), (by first | rfl | (simp; done) | (simp [*]; done)), H', ⟨by have := HJ1.out; have := HK2.out; have := HK3.out; omega⟩, ⟨bk BK436⟩, ⟨bq⟩⟩
        ·replace c16 := Bool.eq_false_iff.mpr c16
         subst c16
         have H1 : (none) = some r := by rw [if_neg (show ¬ (false = true) by decide)] at H; exact H
         clear H
         have H := H1
         clear H1
         exact absurd H (by simp)
       ·rw [if_neg c14] at H
        have c14b0 : decide (x34_2 < (l0_0.length : Int)) = false := decide_eq_false c14
        clear c14
        obtain rfl := Option.some.inj H
        go_wp2
        repeat (go_quiet (fail); try go_wp2)
        go_ret
        exact ⟨eq_, bq⟩
    ·replace c12 := Bool.eq_false_iff.mpr c12
     subst c12
     have H1 : (none) = some r := by rw [if_neg (show ¬ (false = true) by decide)] at H; exact H
     clear H
     have H := H1
     clear H1
     exact absurd H (by simp)
end Go.Proofs.YtkfdfpcdcabcoaaDoor.QDesx
