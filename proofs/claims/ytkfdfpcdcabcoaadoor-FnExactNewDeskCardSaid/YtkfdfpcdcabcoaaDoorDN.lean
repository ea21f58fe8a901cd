/- Walks: the printed functions, and that each call comes to them (14). -/
import Derived.Test.YtkfdfpcdcabcoaaDoorX
import Derived.Test.YtkfdfpcdcabcoaaDoorDA
import Derived.Test.YtkfdfpcdcabcoaaDoorDM
import Derived.Test.YtkfdfpcdcabcoaaDoorDG
namespace Go.Proofs.YtkfdfpcdcabcoaaDoor.QDesx
open Go.RowKit Go.Proofs.YtkfdfpcdcabcoaaDoorW.PrintWords Go.Proofs.YtkfdfpcdcabcoaaDoorW.PrintLast Go.Proofs.YtkfdfpcdcabcoaaDoorW.PrintMore
attribute [local go_sem] max2_int min2_int max_two min_two max_three min_three max_four min_four
set_option linter.unusedVariables false
set_option linter.unusedSimpArgs false

/-! ### impl_polyText: function 70 -/
def impl_polyText.l0 : Nat → List ByteArray → List (List Int) → Int → Int → Option (ByteArray)
 | 0, _, _, _, _ => none
 | k + 1, x3, x13, x14, x15 => if x15 < x14 then (if 0 ≤ x15 then (if x15 < (x13.length : Int) then (if 0 < ((rd_L1 x13 x15).length : Int) then ((impl_powerText.f (⟨#[120]⟩ : ByteArray) (rd (rd_L1 x13 x15) 0)).bind fun t515 => (if 1 < ((rd_L1 x13 x15).length : Int) then ((impl_powerText.f (⟨#[121]⟩ : ByteArray) (rd (rd_L1 x13 x15) 1)).bind fun t517 => (if t515.size + t517.size ≤ 9223372036854775807 then (if 2 < ((rd_L1 x13 x15).length : Int) then (if (rd (rd_L1 x13 x15) 2) = 1 then (if (t515 ++ t517).toList = ([] : List UInt8) then (none) else (if x3.length < 8796093022208 then (impl_polyText.l0 k (x3 ++ [t515 ++ t517]) x13 x14 (wrap64 (x15 + 1))) else (none))) else (none)) else (none)) else (none))) else (none))) else (none)) else (none)) else (none)) else ((strings_Join.f x3 (⟨#[43]⟩ : ByteArray)).bind fun t512 => (some t512))
def impl_polyText.f (k : Nat) (l0_0 : List (List Int)) : Option (ByteArray) := if (l0_0.length : Int) = 0 then (none) else (impl_polyText.l0 k (([] : List ByteArray)) l0_0 (l0_0.length : Int) 0)
def impl_polyText.T7 : Bool × List (List Nat × List Nat) := (true, [([], []), ([0], [0]), ([1], [1]), ([2], [2]), ([], []), ([4], [4]), ([5], [5]), ([6, 3], [6]), ([3, 7], [3, 7]), ([8, 7, 0, 1, 2, 3, 4, 5, 6, 7, 8], [8])])
def impl_polyText.B7 : List Nat := [0, 1, 3, 7, 0, 16, 48, 127, 255, 511]
theorem impl_polyText.tab7 : rtab .any (opsOf Tryd.f70 7) = impl_polyText.T7 := by kernel_rfl
theorem impl_polyText.bits7 : waitsOk impl_polyText.T7.2 impl_polyText.B7 = true := by kernel_rfl
set_option maxHeartbeats 8000000 in
set_option maxRecDepth 100000 in
theorem impl_polyText.calls (k : Nat) (A0_0 : Option Addr) (c0_0 : Nat) (l0_0 : List (List Int)) (r : ByteArray) (w : World) (hG : Lib.TabIs Tryd.prog w "internal/strconv.uint64pow10" .u64 Lib.pow10Tab) (hr0_0 : Kd.C (Kd.slice 2 (Kd.int .i64)) w A0_0 l0_0.length l0_0) (hc0_0 : l0_0.length ≤ c0_0) (h : impl_polyText.f k l0_0 = some r) :
  Calls Tryd.prog 70 #[.agg #[.slice A0_0 l0_0.length c0_0]] w fun e w' => e = .returned (.string r) ∧ Below w.heap.size w w' := by
 have HG := Aside0.mk hG
 clear hG
 have hu39 := Tryd.underlying39
 have HR0_0 := Aside0.mk hr0_0
 have HC0_0 := Aside0.mk hc0_0
 clear hr0_0 hc0_0
 have HB := Aside0.mk (Below.refl w.heap.size w)
 have H : (if (l0_0.length : Int) = 0 then (none) else (impl_polyText.l0 k (([] : List ByteArray)) l0_0 (l0_0.length : Int) 0)) = some r := h
 clear h
 by_cases c2 : (l0_0.length : Int) = 0
 ·rw [if_pos c2] at H
  exact absurd H (by simp)
 ·rw [if_neg c2] at H
  have c2b0 : ((l0_0.length : Int) == 0) = false := beq_eq_false_iff_ne.mpr c2
  have c2b1 : ((l0_0.length : Int) != 0) = true := bne_iff_ne.mpr c2
  have c2b2 : ¬ (l0_0 = []) := fun h_ => c2 (by rw [h_]; rfl)
  obtain ⟨y509, hy509⟩ : ∃ y_ : List ByteArray, y_ = (([] : List ByteArray)) := ⟨_, rfl⟩
  replace H : (impl_polyText.l0 k y509 l0_0 (l0_0.length : Int) 0) = some r := by first | (rw [hy509]; with_reducible exact H) | (have H2_ := (Option.bind_some _ _).symm.trans H; rw [hy509]; with_reducible exact H2_) | (have H2_ := (Option.bind_some _ _).symm.trans H; with_reducible exact H2_) | with_reducible exact H | (rw [hy509]; exact H) | exact H
  have Ny509 := Aside0.mk hy509
  clear hy509
  have H' := Aside0.mk H
  clear H
  go_enter Tryd.func70, Tryd.ntmps70
  go_wp2_with (first | ((with_reducible refine gate_dst (N := 1) rfl ?_); refine box_event ?hg (N := 1) ?hd (cs := #[.slice A0_0 l0_0.length c0_0]) (t := 39) ?hr ?_; (case hd => rfl); (case hg => rfl); (case hr => first | (go_simp; done) | (go_simp; rfl)); intro gb508 hg w3 hbox hb; have BK508 := Aside0.mk (hbox); have GW508 := Aside0.mk ((by rw [hg]; exact (below_size bq) : w.heap.size ≤ gb508)); have GE508 := Aside0.mk ((by rw [hg]; exact (below_size bq) : w.heap.size ≤ gb508)); replace HB := Aside0.mk (below_step bq hb); clear hb hbox hg; have hcz4_0 := bc0 BK508; have hfz4_0 := blk_frozen BK508.out 0) | ((with_reducible refine gate_dst (N := 11) rfl ?_); refine Kd.R_lit Kd.string _ 9 ?hg (N := 11) ?hd (xs := ([] : List ByteArray)) (inner := []) (ok := fun _ => True) (okp := fun _ => True) ?hr ?hp (fun _ hk => hk) trivial (Below.refl _ _) (Nat.le_refl _) (by simp) ?_; (case hd => rfl); (case hg => rfl); (case hr => first | (go_simp; done) | (go_simp; rfl)); (case hp => exact (Reps.none _ _)); intro v510 w5 ho6 hb hg_ hnew_; clear hg_ hnew_; (first | rw [← Ny509.out] at ho6 | (simp only [Int.reduceToNat] at ho6; rw [← Ny509.out] at ho6)); have HO511 := Aside0.mk (Kd.R_lower ho6 (below_size bq)); replace BK508 := Aside0.mk (blk_below (g := gb508) (o := .cells #[.slice A0_0 l0_0.length c0_0] 39 (0, 0)) (bk BK508) hb); replace HB := Aside0.mk (below_step bq hb); clear hb ho6; have hcz7_0 := bc0 BK508; have hfz7_0 := blk_frozen BK508.out 0))
  go_loopg [3, 15] k (fun kq v3 v15 w' => ∃ (x3_1 : List ByteArray) (x15_1 : Int), v15 = .int .i64 x15_1 ∧ Aside0 (impl_polyText.l0 kq x3_1 l0_0 (l0_0.length : Int) x15_1 = some r) ∧ Aside0 (kq ≤ k) ∧ Aside0 (Kd.R Kd.string 9 w' w.heap.size (fun _ => True) v3 x3_1) ∧ Aside0 (w'.heap[gb508]? = some (.cells #[(.slice A0_0 l0_0.length c0_0)] 39 (0, 0))) ∧ Aside0 (Below w.heap.size w w'))
  case atStart => exact ⟨(y509), (0), (by first | rfl | (simp; done) | (simp [*]; done)), H', ⟨Nat.le_refl _⟩, ⟨by (with_reducible repeat (first | apply Kd.R_alloc | apply Kd.R_drewN | apply Kd.R_drew)); exact HO511.out⟩, ⟨bk BK508⟩, ⟨bq⟩⟩
  case round =>
   clear H'
   try clear c2
   try clear c2b0
   try clear c2b1
   try clear c2b2
   try clear p2
   try clear c7
   try clear hcz4_0
   try clear hcz7_0
   try clear hfz4_0
   try clear hfz7_0
   obtain ⟨x3_1, x15_1, rfl, HA, HK1, HO_3, BK508, HB⟩ := hrel
   cases gk with
   | zero => exact absurd HA.out (by simp [impl_polyText.l0])
   | succ k1 =>
    have H := HA.out
    clear HA
    simp only [impl_polyText.l0] at H
    by_cases c8 : x15_1 < (l0_0.length : Int)
    ·rw [if_pos c8] at H
     have c8b0 : decide (x15_1 < (l0_0.length : Int)) = true := decide_eq_true c8
     clear c8
     revert H
     refine ifr fun c9 H => ?_
     have c9b0 : decide (0 ≤ x15_1) = true := decide_eq_true c9
     clear c9
     revert H
     refine ifr fun c10 H => ?_
     have c10b0 : decide (x15_1 < (l0_0.length : Int)) = true := decide_eq_true c10
     clear c10
     revert H
     refine ifr fun c11 H => ?_
     have c11b0 : decide (0 < ((rd_L1 l0_0 x15_1).length : Int)) = true := decide_eq_true c11
     have c11b1 : decide (0 < (rd_L1 l0_0 x15_1).length) = true := decide_eq_true (by omega)
     clear c11
     replace H := Option.bind_eq_some_iff.mp H
     obtain ⟨t515, A120, H⟩ := H
     replace H : (if 1 < ((rd_L1 l0_0 x15_1).length : Int) then ((impl_powerText.f (⟨#[121]⟩ : ByteArray) (rd (rd_L1 l0_0 x15_1) 1)).bind fun t517 => (if t515.size + t517.size ≤ 9223372036854775807 then (if 2 < ((rd_L1 l0_0 x15_1).length : Int) then (if (rd (rd_L1 l0_0 x15_1) 2) = 1 then (if (t515 ++ t517).toList = ([] : List UInt8) then (none) else (if x3_1.length < 8796093022208 then (impl_polyText.l0 k1 (x3_1 ++ [t515 ++ t517]) l0_0 (l0_0.length : Int) (wrap64 (x15_1 + 1))) else (none))) else (none)) else (none)) else (none))) else (none)) = some r := H
     have A12 := Aside0.mk A120
     clear A120
     revert H
     refine ifr fun c13 H => ?_
     have c13b0 : decide (1 < ((rd_L1 l0_0 x15_1).length : Int)) = true := decide_eq_true c13
     have c13b1 : decide (1 < (rd_L1 l0_0 x15_1).length) = true := decide_eq_true (by omega)
     clear c13
     replace H := Option.bind_eq_some_iff.mp H
     obtain ⟨t517, A140, H⟩ := H
     replace H : (if t515.size + t517.size ≤ 9223372036854775807 then (if 2 < ((rd_L1 l0_0 x15_1).length : Int) then (if (rd (rd_L1 l0_0 x15_1) 2) = 1 then (if (t515 ++ t517).toList = ([] : List UInt8) then (none) else (if x3_1.length < 8796093022208 then (impl_polyText.l0 k1 (x3_1 ++ [t515 ++ t517]) l0_0 (l0_0.length : Int) (wrap64 (x15_1 + 1))) else (none))) else (none)) else (none)) else (none)) = some r := H
     have A14 := Aside0.mk A140
     clear A140
     revert H
     refine ifr fun c15 H => ?_
     have c15b0 := eq_true c15
     have c15b1 : decide (t515.size + t517.size ≤ 9223372036854775807) = true := decide_eq_true c15
     try have c15b2 : (9223372036854775807 < t515.size + t517.size) = False := eq_false (Nat.not_lt.2 c15)
     revert H
     refine ifr fun c16 H => ?_
     have c16b0 : decide (2 < ((rd_L1 l0_0 x15_1).length : Int)) = true := decide_eq_true c16
     have c16b1 : decide (2 < (rd_L1 l0_0 x15_1).length) = true := decide_eq_true (by omega)
     clear c16
     revert H
     refine ifr fun c17 H => ?_
     have c17b0 : ((rd (rd_L1 l0_0 x15_1) 2) == 1) = true := beq_iff_eq.mpr c17
     have c17b1 : ((rd (rd_L1 l0_0 x15_1) 2) != 1) = false := bne_eq_false_iff_eq.mpr c17
     clear c17
     by_cases c18 : (t515 ++ t517).toList = ([] : List UInt8)
     ·rw [if_pos c18] at H
      exact absurd H (by simp)
     ·rw [if_neg c18] at H
      have c18b0 : ((t515 ++ t517).toList == ([] : List UInt8)) = false := beq_eq_false_iff_ne.mpr c18
      have c18b1 : ((t515 ++ t517).toList != ([] : List UInt8)) = true := bne_iff_ne.mpr c18
      revert H
      refine ifr fun c19 H => ?_
      have LMc19 := Aside0.mk c19
      clear c19
      obtain ⟨y519, hy519⟩ : ∃ y_ : List ByteArray, y_ = (x3_1 ++ [t515 ++ t517]) := ⟨_, rfl⟩
      replace H : (impl_polyText.l0 k1 y519 l0_0 (l0_0.length : Int) (wrap64 (x15_1 + 1))) = some r := by first | (rw [hy519]; with_reducible exact H) | (have H2_ := (Option.bind_some _ _).symm.trans H; rw [hy519]; with_reducible exact H2_) | (have H2_ := (Option.bind_some _ _).symm.trans H; with_reducible exact H2_) | with_reducible exact H | (rw [hy519]; exact H) | exact H
      have Ny519 := Aside0.mk hy519
      clear hy519
      have H' := Aside0.mk H
      clear H
      have p513 : 0 ≤ (x15_1 : Int) := ode
      have q513 : x15_1 < (l0_0.length : Int) := ode
      obtain ⟨ad513, A513_0, c513_0, e513, hx513_0, hl513_0, hi513_0⟩ := at_L1 HR0_0.out x15_1 p513 q513
      cases e513
      try replace hx513_0 := (HB.out.cell (World.block_lt_of_cell? w _ hx513_0)).trans hx513_0
      have HR513_0 := Aside0.mk hi513_0
      have HC513_0 := Aside0.mk hl513_0
      clear hi513_0 hl513_0
      replace p513 := eq_true p513
      replace q513 := eq_true q513
      try go_wp2
      have n0_ := Aside0.mk (Kd.R_drew HO_3.out)
      have n1_ := Aside0.mk (blk_drew BK508.out)
      have n2_ := Aside0.mk (below_drew1 HB.out)
      clear HO_3
      clear BK508
      clear HB
      have HO_3 := n0_
      have BK508 := n1_
      have HB := n2_
      clear n0_ n1_ n2_
      have p514 : 0 ≤ (0 : Int) := (by omega)
      have q514 : 0 < ((rd_L1 l0_0 x15_1).length : Int) := ode
      obtain ⟨ad514, e514, hx514_0⟩ := Kd.at_int HR513_0.out 0 p514 q514
      have hw514_0 := hx514_0
      (try rw [show ((0 : Int)).toNat = 0 from rfl] at hw514_0)
      (try rw [show 0 * 1 = 0 from rfl] at hw514_0)
      (try rw [Addr.add_zero'] at hw514_0)
      cases e514
      have qi514 : (0 < (rd_L1 l0_0 x15_1).length) = True := eq_true (by omega)
      (try rw [show ((0 : Int)).toNat = 0 from rfl] at hx514_0)
      (try rw [Addr.add_zero'] at hx514_0)
      try replace hx514_0 := (HB.out.cell (World.block_lt_of_cell? w _ hx514_0)).trans hx514_0
      replace p514 := eq_true p514
      replace q514 := eq_true q514
      have p516 : 0 ≤ (1 : Int) := (by omega)
      have q516 : 1 < ((rd_L1 l0_0 x15_1).length : Int) := ode
      obtain ⟨ad516, e516, hx516_0⟩ := Kd.at_int HR513_0.out 1 p516 q516
      have hw516_0 := hx516_0
      (try rw [show ((1 : Int)).toNat = 1 from rfl] at hw516_0)
      (try rw [show 1 * 1 = 1 from rfl] at hw516_0)
      (try simp only [Nat.reduceMul, Nat.reduceEqDiff, Go.Addr.add, ↓reduceIte] at hw516_0)
      obtain rfl : ad514 = ad516 := (by injection e516)
      (try simp only [show (1 : Int).toNat = 1 from rfl, Nat.reduceMul, Nat.reduceEqDiff, Go.Addr.add, ↓reduceIte] at hx516_0)
      have qi516 : (1 < (rd_L1 l0_0 x15_1).length) = True := eq_true (by omega)
      (try rw [show ((1 : Int)).toNat = 1 from rfl] at hx516_0)
      try replace hx516_0 := (HB.out.cell (World.block_lt_of_cell? w _ hx516_0)).trans hx516_0
      replace p516 := eq_true p516
      replace q516 := eq_true q516
      refine start_ (n := 10) (S := fun w' => w'.cell? ad514 = some (.int .i64 (rd (rd_L1 l0_0 x15_1) 0)) ∧ w'.cell? ⟨ad514.block, ad514.off + 1, none⟩ = some (.int .i64 (rd (rd_L1 l0_0 x15_1) 1))) (ds := []) (bA 10 0) (by kernel_rfl) rfl (by kernel_rfl) ⟨((HB.out.cell (World.block_lt_of_cell? w _ hw514_0)).trans hw514_0), ((HB.out.cell (World.block_lt_of_cell? w _ hw516_0)).trans hw516_0)⟩ (fun hHeld => ?_); refine with_tabW impl_polyText.tab7 impl_polyText.bits7 (fun HT_ HW_ => ?_)
      generalize wr.drew = w20 at HO_3 BK508 HB hx514_0 hx516_0 hHeld ⊢
      refine pu HT_ 0 19 1 ?_
      refine pu HT_ 1 20 3 ?_
      refine pu HT_ 4 23 19 ?_
      refine pu HT_ 5 24 51 ?_
      refine tk2 HT_ HW_ hHeld 2 21 55 ?_
      refine tk2 HT_ HW_ hHeld 6 25 119 ?_
      refine one_ (i := 3) (N := some 22) (bA 10 127) rfl rfl (one_of HT_.out (by kernel_rfl)) (by decide) (fun K hK => ?_)
      refine goes_ Tryd.func99 (by kernel_rfl) rfl #[.string (⟨#[120]⟩ : ByteArray), .int .i64 (rd (rd_L1 l0_0 x15_1) 0)] (by rfl) rfl rfl (by (try simp only [List.map_toArray, List.map_cons, List.map_nil]); first | done | rfl | (simp only [List.length_drop, List.length_take]; rfl)) ?_
      with_reducible refine (impl_powerText.calls (⟨#[120]⟩ : ByteArray) (rd (rd_L1 l0_0 x15_1) 0) t515 _ ?sideG A12.out).mono ?_
      (case sideG => exact tab_below HG.out bq)
      rintro e w21 ⟨rfl, hb⟩
      refine ⟨_, rfl, ?_⟩
      have n0_ := Aside0.mk (Kd.R_below (by (with_reducible repeat (first | apply Kd.R_alloc | apply Kd.R_drewN | apply Kd.R_drew)); exact HO_3.out) hb)
      have n1_ := Aside0.mk (blk_below (g := gb508) (o := .cells #[.slice (some ad513) l0_0.length c0_0] 39 (0, 0)) (bk BK508) hb)
      have n2_ := Aside0.mk (below_step bq hb)
      clear HO_3
      clear BK508
      clear HB
      have HO_3 := n0_
      have BK508 := n1_
      have HB := n2_
      clear n0_ n1_ n2_
      
      
      
      
      refine hK.out _ _ ⟨((HB.out.cell (World.block_lt_of_cell? w _ hw514_0)).trans hw514_0), ((HB.out.cell (World.block_lt_of_cell? w _ hw516_0)).trans hw516_0)⟩ (fun hHeld => ?_)
      clear hK K
      refine norm_ (a' := ?_) ?_ ?_
      rotate_left
      ·show Act.put _ (some 22) _ = _
       simp only [Act.put, List.setIfInBounds_toArray, List.set_cons_zero, List.set_cons_succ, i64_w, i32_w]
       rfl
      refine one_ (i := 7) (N := some 26) (bA 10 255) rfl rfl (one_of HT_.out (by kernel_rfl)) (by decide) (fun K hK => ?_)
      refine goes_ Tryd.func99 (by kernel_rfl) rfl #[.string (⟨#[121]⟩ : ByteArray), .int .i64 (rd (rd_L1 l0_0 x15_1) 1)] (by rfl) rfl rfl (by (try simp only [List.map_toArray, List.map_cons, List.map_nil]); first | done | rfl | (simp only [List.length_drop, List.length_take]; rfl)) ?_
      with_reducible refine (impl_powerText.calls (⟨#[121]⟩ : ByteArray) (rd (rd_L1 l0_0 x15_1) 1) t517 _ ?sideG A14.out).mono ?_
      (case sideG => exact tab_below HG.out bq)
      rintro e w22 ⟨rfl, hb⟩
      refine ⟨_, rfl, ?_⟩
      have n0_ := Aside0.mk (Kd.R_below (by (with_reducible repeat (first | apply Kd.R_alloc | apply Kd.R_drewN | apply Kd.R_drew)); exact HO_3.out) hb)
      have n1_ := Aside0.mk (blk_below (g := gb508) (o := .cells #[.slice (some ad513) l0_0.length c0_0] 39 (0, 0)) (bk BK508) hb)
      have n2_ := Aside0.mk (below_step bq hb)
      clear HO_3
      clear BK508
      clear HB
      have HO_3 := n0_
      have BK508 := n1_
      have HB := n2_
      clear n0_ n1_ n2_
      
      
      
      
      refine hK.out _ _ ⟨((HB.out.cell (World.block_lt_of_cell? w _ hw514_0)).trans hw514_0), ((HB.out.cell (World.block_lt_of_cell? w _ hw516_0)).trans hw516_0)⟩ (fun hHeld => ?_)
      clear hK K
      refine norm_ (a' := ?_) ?_ ?_
      rotate_left
      ·show Act.put _ (some 26) _ = _
       simp only [Act.put, List.setIfInBounds_toArray, List.set_cons_zero, List.set_cons_succ, i64_w, i32_w]
       rfl
      refine pu HT_ 8 27 511 ?_
      refine pu HT_ 9 6 1023 ?_
      refine done_ (done_of HT_.out (by kernel_rfl)) ?_
      have p518 : 0 ≤ (2 : Int) := (by omega)
      have q518 : 2 < ((rd_L1 l0_0 x15_1).length : Int) := ode
      obtain ⟨ad518, e518, hx518_0⟩ := Kd.at_int HR513_0.out 2 p518 q518
      obtain rfl : ad514 = ad518 := (by injection e518)
      (try simp only [show (2 : Int).toNat = 2 from rfl, Nat.reduceMul, Nat.reduceEqDiff, Go.Addr.add, ↓reduceIte] at hx518_0)
      have qi518 : (2 < (rd_L1 l0_0 x15_1).length) = True := eq_true (by omega)
      (try rw [show ((2 : Int)).toNat = 2 from rfl] at hx518_0)
      try replace hx518_0 := (HB.out.cell (World.block_lt_of_cell? w _ hx518_0)).trans hx518_0
      replace p518 := eq_true p518
      replace q518 := eq_true q518
      try go_wp2_with (first | ((with_reducible refine gate_builtin (b := .append) (xs := #[.tmp 42, .tmp 44]) rfl ?_); at_builtin; refine Kd.R_append Kd.string (w0 := w) w.heap.size rfl (.tmp 42) (.tmp 44) 89 9 (.string ⟨#[]⟩) 16 rfl Tryd.underlying89 info9 rfl (by decide) (by omega) u3 x3_1 (t515 ++ t517) [.string (t515 ++ t517)] (fun _ => True) (fun _ => False) rfl rfl ?aP (fun _ hk => hk.elim) ?aF ?aO ?aB ?aS ?aL ?_; (case aP => exact rfl); (case aB => exact bq); (case aF => exact (fun _ _ => trivial)); (case aO => exact (by (with_reducible repeat (first | apply Kd.R_alloc | apply Kd.R_drewN | apply Kd.R_drew)); exact HO_3.out)); (case aS => exact (below_size bq)); (case aL => have := LMc19.out; omega); intro v520 w23 ho hb hg hat; rw [← Ny519.out] at ho; have n0_ := Aside0.mk (blk_grown (g := gb508) (o := .cells #[.slice (some ad513) l0_0.length c0_0] 39 (0, 0)) (bk BK508) hg (Kd.R_ne HO_3.out BK508.out (by decide))); have n1_ := Aside0.mk (hb); have n2_ := Aside0.mk (ho); clear BK508; clear HB; clear HO_3; have BK508 := n0_; have HB := n1_; have HO521 := n2_; clear n0_ n1_ n2_; clear ho hb hg hat))
      go_roundg k1
      case measure => have := HK1.out; omega
      case rel => exact ⟨(y519), (wrap64 (x15_1 + 1)), (by first | rfl | (simp; done) | (simp [*]; done)), H', ⟨by have := HK1.out; omega⟩, ⟨by (with_reducible repeat (first | apply Kd.R_alloc | apply Kd.R_drewN | apply Kd.R_drew)); exact HO521.out⟩, ⟨bk BK508⟩, ⟨bq⟩⟩
    ·rw [if_neg c8] at H
     have c8b0 : decide (x15_1 < (l0_0.length : Int)) = false := decide_eq_false c8
     clear c8
     replace H := Option.bind_eq_some_iff.mp H
     obtain ⟨t512, A240, H⟩ := H
     replace H : (some t512) = some r := H
     have A24 := Aside0.mk A240
     clear A240
     obtain rfl := Option.some.inj H
     obtain ⟨Ao25, co25, eo25⟩ := Kd.R_slice HO_3.out
     subst eo25
     go_wp2_with (first | ((with_reducible refine gate_callee (f := 100) rfl ?_); refine gL 48 Tryd.func100 #[.slice Ao25 x3_1.length co25, .string (⟨#[43]⟩ : ByteArray)] ?_; (with_reducible refine (strings_Join.calls _ _ x3_1 (⟨#[43]⟩ : ByteArray) t512 _ ?side1 ?side2 A24.out).mono ?_); (case side1 => repeat (first | exact (Kd.R_reads' HO_3.out).2.2 | (with_reducible refine Kd.C_alloc ?_ _) | (with_reducible refine Kd.C_drewN ?_ _) | (with_reducible refine Kd.C_drew ?_))); (case side2 => exact (Kd.R_reads' HO_3.out).2.1); rintro e w26 ⟨rfl, hb⟩; refine ⟨_, rfl, ?_⟩; replace HO_3 := Aside0.mk (Kd.R_below (by (with_reducible repeat (first | apply Kd.R_alloc | apply Kd.R_drewN | apply Kd.R_drew)); exact HO_3.out) hb); replace BK508 := Aside0.mk (blk_below (g := gb508) (o := .cells #[.slice A0_0 l0_0.length c0_0] 39 (0, 0)) (bk BK508) hb); replace HB := Aside0.mk (below_step bq hb); (try clear hb)))
     go_ret
     exact ⟨eq_, bq⟩

/-! ### impl_ParsePoly: function 32 -/
def impl_ParsePoly.l0 : Nat → ByteArray → List ByteArray → Int → Int → List (List Int) → Option ((List (List Int)) × Int)
 | 0, _, _, _, _, _ => none
 | k + 1, x0, x14, x15, x16, x524000 => if x16 < x15 then (if 0 ≤ x16 then (if x16 < (x14.length : Int) then ((impl_polyTerm.f k (rdOf ByteArray.empty x14 x16)).bind fun bt528 => (if bt528.2 = true then (if (x524000.length : Int) = 200 then (none) else (if x524000.length < 5864062014805 then (impl_ParsePoly.l0 k x0 x14 x15 (wrap64 (x16 + 1)) (x524000 ++ [bt528.1])) else (none))) else (none))) else (none)) else (none)) else ((impl_IsPoly.f k x524000).bind fun t535 => (if t535 = true then ((impl_polyText.f k x524000).bind fun t536 => (if t536.toList = x0.toList then (some (x524000, 0)) else (none))) else (none)))
def impl_ParsePoly.f (k : Nat) (a0 : ByteArray) : Option ((List (List Int)) × Int) := if a0.toList = ([48] : List UInt8) then (none) else ((impl_wordsOf.f k a0 43).bind fun t524 => (impl_ParsePoly.l0 k a0 t524 (t524.length : Int) 0 ([] : List (List Int))))
set_option maxHeartbeats 8000000 in
set_option maxRecDepth 100000 in
theorem impl_ParsePoly.calls (k : Nat) (a0 : ByteArray) (r1 : List (List Int)) (r2 : Int) (w : World) (hG : Lib.TabIs Tryd.prog w "internal/strconv.uint64pow10" .u64 Lib.pow10Tab) (h : impl_ParsePoly.f k a0 = some (r1, r2)) :
  Calls Tryd.prog 32 #[.string a0] w fun e w' => ∃ v0_ : Value, e = .returned (.tuple #[.agg #[v0_], .int .i64 r2]) ∧ Kd.S (Kd.slice 2 (Kd.int .i64)) 35 w' w.heap.size (fun _ => True) v0_ r1 ∧ Below w.heap.size w w' := by
 have HG := Aside0.mk hG
 clear hG
 have hu39 := Tryd.underlying39
 have HB := Aside0.mk (Below.refl w.heap.size w)
 have H : (if a0.toList = ([48] : List UInt8) then (none) else ((impl_wordsOf.f k a0 43).bind fun t524 => (impl_ParsePoly.l0 k a0 t524 (t524.length : Int) 0 ([] : List (List Int))))) = some (r1, r2) := h
 clear h
 by_cases c2 : a0.toList = ([48] : List UInt8)
 ·rw [if_pos c2] at H
  exact absurd H (by simp)
 ·rw [if_neg c2] at H
  have c2b0 : (a0.toList == ([48] : List UInt8)) = false := beq_eq_false_iff_ne.mpr c2
  have c2b1 : (a0.toList != ([48] : List UInt8)) = true := bne_iff_ne.mpr c2
  replace H := Option.bind_eq_some_iff.mp H
  obtain ⟨t524, A30, H⟩ := H
  replace H : (impl_ParsePoly.l0 k a0 t524 (t524.length : Int) 0 ([] : List (List Int))) = some (r1, r2) := H
  have A3 := Aside0.mk A30
  clear A30
  have H' := Aside0.mk H
  clear H
  go_enter Tryd.func32, Tryd.ntmps32
  go_wp2_with (first | ((with_reducible refine gate_dst (N := 2) rfl ?_); (try (refine gate_guard (by rfl) ?_; dsimp only)); refine box_event ?hg (N := 2) ?hd (cs := #[.slice none 0 0]) (t := 39) ?hr ?_; (case hd => rfl); (case hg => rfl); (case hr => first | (go_simp; done) | (go_simp; rfl)); intro gb522 hg w4 hbox hb; have BK522 := Aside0.mk (hbox); have GW522 := Aside0.mk ((by rw [hg]; exact (below_size bq) : w.heap.size ≤ gb522)); have GE522 := Aside0.mk ((by rw [hg]; exact (below_size bq) : w.heap.size ≤ gb522)); replace HB := Aside0.mk (below_step bq hb); clear hb hbox hg) | ((with_reducible refine gate_dst (N := 4) rfl ?_); (try (refine gate_guard (by rfl) ?_; dsimp only)); refine box_event ?hg (N := 4) ?hd (cs := #[.slice none 0 0]) (t := 39) ?hr ?_; (case hd => rfl); (case hg => rfl); (case hr => first | (go_simp; done) | (go_simp; rfl)); intro gb523 hg w5 hbox hb; have BK523 := Aside0.mk (hbox); have GW523 := Aside0.mk ((by rw [hg]; exact (below_size bq) : w.heap.size ≤ gb523)); have GE523 := Aside0.mk ((by rw [hg]; exact (below_size bq) : w.heap.size ≤ gb523)); replace HB := Aside0.mk (below_step bq hb); have NB522_523 := Aside0.mk ((by rw [hg]; exact Nat.ne_of_lt (blk_lt (g := gb522) (o := .cells #[.slice none 0 0] 39 (0, 0)) (bk BK522)) : gb522 ≠ gb523)); have NB523_522 := Aside0.mk ((by rw [hg]; exact Nat.ne_of_gt (blk_lt (g := gb522) (o := .cells #[.slice none 0 0] 39 (0, 0)) (bk BK522)) : gb523 ≠ gb522)); replace BK522 := Aside0.mk (blk_below (g := gb522) (o := .cells #[.slice none 0 0] 39 (0, 0)) (bk BK522) hb); clear hb hbox hg; have hnb6 := NB523_522.out; have hnc6 := NB522_523.out; have hcz7_0 := bc0 BK523; have hfz7_0 := blk_frozen BK523.out 0) | ((with_reducible refine gate_callee (f := 62) rfl ?_); refine gL 14 Tryd.func62 #[.string a0, .int .u8 43] ?_; (with_reducible refine (impl_wordsOf.calls k a0 43 t524 _ A3.out).mono ?_); rintro e w8 ⟨v525, rfl, ho0, hb⟩; refine ⟨_, rfl, ?_⟩; have HO526 := Aside0.mk (Kd.R_lower ho0 (below_size bq)); replace BK522 := Aside0.mk (blk_below (g := gb522) (o := .cells #[.slice none 0 0] 39 (0, 0)) (by (with_reducible repeat (first | refine blk_drewN ?_ _ | refine blk_drew ?_ | refine blk_alloc ?_ _)); refine blk_far ?_ NB522_523.out _; (with_reducible repeat (first | refine blk_drewN ?_ _ | refine blk_drew ?_ | refine blk_alloc ?_ _)); exact BK522.out) hb); replace BK523 := Aside0.mk (blk_below (g := gb523) (o := .cells #[.slice none 0 0] 39 (0, 0)) (by (with_reducible repeat (first | refine blk_drewN ?_ _ | refine blk_drew ?_ | refine blk_alloc ?_ _)); refine blk_put (cs := #[.slice none 0 0]) ?_ 0 _ rfl; (with_reducible repeat (first | refine blk_drewN ?_ _ | refine blk_drew ?_ | refine blk_alloc ?_ _)); exact BK523.out) hb); replace HB := Aside0.mk (below_step bq hb); (try clear hb); (try clear ho0); obtain ⟨Ao9, co9, eo9⟩ := Kd.R_slice HO526.out; subst eo9))
  go_loopg [16] k (fun kq v16 w' => ∃ (x16_1 : Int) (x524000_1 : List (List Int)) (u524000 : Value), v16 = .int .i64 x16_1 ∧ Aside0 (impl_ParsePoly.l0 kq a0 t524 (t524.length : Int) x16_1 x524000_1 = some (r1, r2)) ∧ Aside0 (kq ≤ k) ∧ Aside0 (Kd.R Kd.string 9 w' w.heap.size (fun _ => True) (.slice Ao9 t524.length co9) t524) ∧ Aside0 (Kd.S (Kd.slice 2 (Kd.int .i64)) 35 w' w.heap.size (fun _ => True) u524000 x524000_1) ∧ Aside0 (w'.heap[gb522]? = some (.cells #[(.slice none 0 0)] 39 (0, 0))) ∧ Aside0 (w'.heap[gb523]? = some (.cells #[u524000] 39 (0, 0))) ∧ Aside0 (Below w.heap.size w w'))
  case atStart => exact ⟨(0), (([] : List (List Int))), (.slice none 0 0), (by first | rfl | (simp; done) | (simp [*]; done)), H', ⟨Nat.le_refl _⟩, ⟨by (with_reducible repeat (first | apply Kd.R_alloc | apply Kd.R_drewN | apply Kd.R_drew)); exact HO526.out⟩, ⟨by first | exact Kd.S_nil _ _ _ _ _ | exact Kd.N_nil _ _ _ _ _ | exact Kd.V_nil _ _ _ _ _ | exact Kd.Q_nil _ _ _ _ _ | exact Kd.R_nil _ _ _ _ _⟩, ⟨bk BK522⟩, ⟨bk BK523⟩, ⟨bq⟩⟩
  case round =>
   clear H'
   try clear c2
   try clear c2b0
   try clear c2b1
   try clear p2
   try clear c3
   try clear c6
   try clear hcz7_0
   try clear hfz7_0
   obtain ⟨x16_1, x524000_1, u524000, rfl, HA, HK1, HO_14, HO_524000, BK522, BK523, HB⟩ := hrel
   cases gk with
   | zero => exact absurd HA.out (by simp [impl_ParsePoly.l0])
   | succ k1 =>
    have H := HA.out
    clear HA
    simp only [impl_ParsePoly.l0] at H
    by_cases c10 : x16_1 < (t524.length : Int)
    ·rw [if_pos c10] at H
     have c10b0 : decide (x16_1 < (t524.length : Int)) = true := decide_eq_true c10
     clear c10
     revert H
     refine ifr fun c11 H => ?_
     have c11b0 : decide (0 ≤ x16_1) = true := decide_eq_true c11
     clear c11
     revert H
     refine ifr fun c12 H => ?_
     have c12b0 : decide (x16_1 < (t524.length : Int)) = true := decide_eq_true c12
     clear c12
     replace H := Option.bind_eq_some_iff.mp H
     obtain ⟨⟨t528, t529⟩, A130, H⟩ := H
     replace H : (if t529 = true then (if (x524000_1.length : Int) = 200 then (none) else (if x524000_1.length < 5864062014805 then (impl_ParsePoly.l0 k1 a0 t524 (t524.length : Int) (wrap64 (x16_1 + 1)) (x524000_1 ++ [t528])) else (none))) else (none)) = some (r1, r2) := H
     have A13 := Aside0.mk A130
     clear A130
     by_cases c14 : t529 = true
     ·subst c14
      have H1 : (if (x524000_1.length : Int) = 200 then (none) else (if x524000_1.length < 5864062014805 then (impl_ParsePoly.l0 k1 a0 t524 (t524.length : Int) (wrap64 (x16_1 + 1)) (x524000_1 ++ [t528])) else (none))) = some (r1, r2) := by rw [if_pos rfl] at H; exact H
      clear H
      have H := H1
      clear H1
      by_cases c15 : (x524000_1.length : Int) = 200
      ·rw [if_pos c15] at H
       exact absurd H (by simp)
      ·rw [if_neg c15] at H
       have c15b0 : ((x524000_1.length : Int) == 200) = false := beq_eq_false_iff_ne.mpr c15
       have c15b1 : ((x524000_1.length : Int) != 200) = true := bne_iff_ne.mpr c15
       revert H
       refine ifr fun c16 H => ?_
       have LMc16 := Aside0.mk c16
       clear c16
       obtain ⟨y532, hy532⟩ : ∃ y_ : List (List Int), y_ = (x524000_1 ++ [t528]) := ⟨_, rfl⟩
       replace H : (impl_ParsePoly.l0 k1 a0 t524 (t524.length : Int) (wrap64 (x16_1 + 1)) y532) = some (r1, r2) := by first | (rw [hy532]; with_reducible exact H) | (have H2_ := (Option.bind_some _ _).symm.trans H; rw [hy532]; with_reducible exact H2_) | (have H2_ := (Option.bind_some _ _).symm.trans H; with_reducible exact H2_) | with_reducible exact H | (rw [hy532]; exact H) | exact H
       have Ny532 := Aside0.mk hy532
       clear hy532
       have H' := Aside0.mk H
       clear H
       have p527 : 0 ≤ (x16_1 : Int) := ode
       have q527 : x16_1 < (t524.length : Int) := ode
       obtain ⟨ad527, e527, hx527_0⟩ := Kd.at_string (Kd.R_reads' HO_14.out).2.2 x16_1 p527 q527
       cases e527
       replace p527 := eq_true p527
       replace q527 := eq_true q527
       go_wp2_with (first | ((with_reducible refine gate_callee (f := 68) rfl ?_); refine gL 22 Tryd.func68 #[.string (rdOf ByteArray.empty t524 x16_1)] ?_; (with_reducible refine (impl_polyTerm.calls k1 (rdOf ByteArray.empty t524 x16_1) t528 true _ A13.out).mono ?_); rintro e w17 ⟨v530, rfl, ho0, hb⟩; refine ⟨_, rfl, ?_⟩; replace HO_14 := Aside0.mk (Kd.R_below (by (with_reducible repeat (first | apply Kd.R_alloc | apply Kd.R_drewN | apply Kd.R_drew)); exact HO_14.out) hb); replace HO_524000 := Aside0.mk (Kd.S_elder' (by (with_reducible repeat (first | apply Kd.S_alloc | apply Kd.S_drewN | apply Kd.S_drew)); exact HO_524000.out) (Kd.R_base ho0) hb); have HO531 := Aside0.mk (Kd.R_lower ho0 (below_size bq)); replace BK522 := Aside0.mk (blk_below (g := gb522) (o := .cells #[.slice none 0 0] 39 (0, 0)) (bk BK522) hb); replace BK523 := Aside0.mk (blk_below (g := gb523) (o := .cells #[u524000] 39 (0, 0)) (bk BK523) hb); replace HB := Aside0.mk (below_step bq hb); (try clear hb); (try clear ho0); have hnb18 := NB523_522.out; have hnc18 := NB522_523.out; have hcz19_0 := bc0 BK523; have hfz19_0 := blk_frozen BK523.out 0; obtain ⟨Ao20, co20, eo20⟩ := Kd.S_slice HO_524000.out; subst eo20; obtain ⟨Ao22, co22, eo22⟩ := Kd.R_slice HO531.out; subst eo22) | ((with_reducible refine gate_builtin (b := .append) (xs := #[.tmp 35, .tmp 37]) rfl ?_); (try (refine gate_guard (by rfl) ?_; dsimp only)); at_builtin; refine Kd.S_append (Kd.slice 2 (Kd.int .i64)) (w0 := w) w.heap.size rfl (.tmp 35) (.tmp 37) 23 35 (.slice none 0 0) 24 rfl Tryd.underlying23 info35 rfl (by decide) (by omega) (.slice Ao20 x524000_1.length co20) x524000_1 t528 [.slice Ao22 t528.length co22] (fun _ => True) (fun k_ => some k_ = (.slice Ao22 t528.length co22 : Value).ownBlock) rfl rfl ?aP (fun k_ hk_ => ((Kd.R_mono (ok' := fun k_ => ((fun _ => True)) k_ ∧ some k_ ≠ (.slice Ao20 x524000_1.length co20 : Value).ownBlock) (Kd.R_apart' (HO531.out) (Kd.S_typed HO_524000.out) (by decide)) (fun k_ hk => ⟨trivial, hk.2⟩))).1 k_ hk_.symm) ?aF ?aO ?aB ?aS ?aL ?_; (case aP => exact Kd.M_row (Kd.R_mono (Kd.R_tight rfl (Kd.R_mono (ok' := fun k_ => ((fun _ => True)) k_ ∧ some k_ ≠ (.slice Ao20 x524000_1.length co20 : Value).ownBlock) (Kd.R_apart' (HO531.out) (Kd.S_typed HO_524000.out) (by decide)) (fun k_ hk => ⟨trivial, hk.2⟩))) (fun _ h_ => h_))); (case aB => exact bq); (case aF => exact (fun _ _ => trivial)); (case aO => exact (by (with_reducible repeat (first | apply Kd.S_alloc | apply Kd.S_drewN | apply Kd.S_drew)); exact Kd.S_mono HO_524000.out (fun k_ hk => ⟨trivial, fun e_ => hk.2 e_⟩))); (case aS => exact (below_size bq)); (case aL => have := LMc16.out; omega); intro v533 w21 ho hb hg hat; rw [← Ny532.out] at ho; have n0_ := Aside0.mk (Kd.R_over' (by (with_reducible repeat (first | apply Kd.R_alloc | apply Kd.R_drewN | apply Kd.R_drew)); exact HO_14.out) (Kd.S_typed (by (with_reducible repeat (first | apply Kd.S_alloc | apply Kd.S_drewN | apply Kd.S_drew)); exact HO_524000.out)) (by decide) hg); have n1_ := Aside0.mk (blk_grown (g := gb522) (o := .cells #[.slice none 0 0] 39 (0, 0)) (bk BK522) hg (Kd.S_ne HO_524000.out BK522.out (by decide))); have n2_ := Aside0.mk (blk_grown (g := gb523) (o := .cells #[.slice Ao20 x524000_1.length co20] 39 (0, 0)) (bk BK523) hg (Kd.S_ne HO_524000.out BK523.out (by decide))); have n3_ := Aside0.mk (hb); have n4_ := Aside0.mk (ho); clear HO_14; clear BK522; clear BK523; clear HB; clear HO_524000; clear HO531; have HO_14 := n0_; have BK522 := n1_; have BK523 := n2_; have HB := n3_; have HO534 := n4_; clear n0_ n1_ n2_ n3_ n4_; clear ho hb hg hat; obtain ⟨Ao23, co23, eo23⟩ := Kd.S_slice HO534.out; subst eo23; have hcz24_0 := bc0 BK523; have hfz24_0 := blk_frozen BK523.out 0))
       go_roundg k1
       case measure => have := HK1.out; omega
       case rel => exact ⟨(wrap64 (x16_1 + 1)), (y532), (.slice Ao23 y532.length co23), (by first | rfl | (simp; done) | (simp [*]; done)), H', ⟨by have := HK1.out; omega⟩, ⟨by (with_reducible repeat (first | apply Kd.R_alloc | apply Kd.R_drewN | apply Kd.R_drew)); exact Kd.R_mono (Kd.R_far (p := ⟨gb523, 0, none⟩) (Kd.R_types HO_14.out BK523.out (by decide)) (fun _ hk => hk.2) (.slice Ao23 y532.length co23)) (fun _ hk => trivial)⟩, ⟨by (with_reducible repeat (first | apply Kd.S_alloc | apply Kd.S_drewN | apply Kd.S_drew)); exact Kd.S_mono (Kd.S_far (p := ⟨gb523, 0, none⟩) (Kd.S_types HO534.out BK523.out (by decide)) (fun _ hk => hk.2) (.slice Ao23 y532.length co23)) (fun _ hk => trivial)⟩, ⟨by (with_reducible repeat (first | refine blk_drewN ?_ _ | refine blk_drew ?_ | refine blk_alloc ?_ _)); refine blk_far ?_ NB522_523.out _; (with_reducible repeat (first | refine blk_drewN ?_ _ | refine blk_drew ?_ | refine blk_alloc ?_ _)); exact BK522.out⟩, ⟨by (with_reducible repeat (first | refine blk_drewN ?_ _ | refine blk_drew ?_ | refine blk_alloc ?_ _)); refine blk_put (cs := #[.slice Ao20 x524000_1.length co20]) ?_ 0 _ rfl; (with_reducible repeat (first | refine blk_drewN ?_ _ | refine blk_drew ?_ | refine blk_alloc ?_ _)); exact BK523.out⟩, ⟨bq⟩⟩
     ·replace c14 := Bool.eq_false_iff.mpr c14
      subst c14
      have H1 : (none) = some (r1, r2) := by rw [if_neg (show ¬ (false = true) by decide)] at H; exact H
      clear H
      have H := H1
      clear H1
      exact absurd H (by simp)
    ·rw [if_neg c10] at H
     have c10b0 : decide (x16_1 < (t524.length : Int)) = false := decide_eq_false c10
     clear c10
     replace H := Option.bind_eq_some_iff.mp H
     obtain ⟨t535, A250, H⟩ := H
     replace H : (if t535 = true then ((impl_polyText.f k1 x524000_1).bind fun t536 => (if t536.toList = a0.toList then (some (x524000_1, 0)) else (none))) else (none)) = some (r1, r2) := H
     have A25 := Aside0.mk A250
     clear A250
     by_cases c26 : t535 = true
     ·subst c26
      have H1 : ((impl_polyText.f k1 x524000_1).bind fun t536 => (if t536.toList = a0.toList then (some (x524000_1, 0)) else (none))) = some (r1, r2) := by rw [if_pos rfl] at H; exact H
      clear H
      have H := H1
      clear H1
      replace H := Option.bind_eq_some_iff.mp H
      obtain ⟨t536, A270, H⟩ := H
      replace H : (if t536.toList = a0.toList then (some (x524000_1, 0)) else (none)) = some (r1, r2) := H
      have A27 := Aside0.mk A270
      clear A270
      revert H
      refine ifr fun c28 H => ?_
      have c28b0 : (t536.toList == a0.toList) = true := beq_iff_eq.mpr c28
      have c28b1 : (t536.toList != a0.toList) = false := bne_eq_false_iff_eq.mpr c28
      clear c28
      simp only [Option.some.injEq, Prod.mk.injEq] at H
      obtain ⟨rfl, rfl⟩ := H
      have hnb29 := NB523_522.out
      have hnc29 := NB522_523.out
      have hcz30_0 := bc0 BK523
      have hfz30_0 := blk_frozen BK523.out 0
      obtain ⟨Ao31, co31, eo31⟩ := Kd.S_slice HO_524000.out
      subst eo31
      go_wp2_with (first | ((with_reducible refine gate_callee (f := 69) rfl ?_); refine gL 42 Tryd.func69 #[.agg #[.slice Ao31 x524000_1.length co31]] ?_; (with_reducible refine (impl_IsPoly.calls k1 _ _ x524000_1 true _ ?side1 ?side2 A25.out).mono ?_); (case side1 => repeat (first | exact (Kd.S_reads' HO_524000.out).2.2 | (with_reducible refine Kd.C_alloc ?_ _) | (with_reducible refine Kd.C_drewN ?_ _) | (with_reducible refine Kd.C_drew ?_))); (case side2 => exact (Kd.S_reads' HO_524000.out).2.1); rintro e w32 ⟨rfl, hb⟩; refine ⟨_, rfl, ?_⟩; replace HO_14 := Aside0.mk (Kd.R_below (by (with_reducible repeat (first | apply Kd.R_alloc | apply Kd.R_drewN | apply Kd.R_drew)); exact HO_14.out) hb); replace HO_524000 := Aside0.mk (Kd.S_below (by (with_reducible repeat (first | apply Kd.S_alloc | apply Kd.S_drewN | apply Kd.S_drew)); exact HO_524000.out) hb); replace BK522 := Aside0.mk (blk_below (g := gb522) (o := .cells #[.slice none 0 0] 39 (0, 0)) (bk BK522) hb); replace BK523 := Aside0.mk (blk_below (g := gb523) (o := .cells #[.slice Ao31 x524000_1.length co31] 39 (0, 0)) (bk BK523) hb); replace HB := Aside0.mk (below_step bq hb); (try clear hb); have hcz33_0 := bc0 BK523; have hfz33_0 := blk_frozen BK523.out 0) | (go_at_call 70; (with_reducible refine (impl_polyText.calls k1 _ _ x524000_1 t536 _ ?sideG ?side1 ?side2 A27.out).mono ?_); (case sideG => exact tab_below HG.out bq); (case side1 => repeat (first | exact (Kd.S_reads' HO_524000.out).2.2 | (with_reducible refine Kd.C_alloc ?_ _) | (with_reducible refine Kd.C_drewN ?_ _) | (with_reducible refine Kd.C_drew ?_))); (case side2 => exact (Kd.S_reads' HO_524000.out).2.1); rintro e w34 ⟨rfl, hb⟩; replace HO_14 := Aside0.mk (Kd.R_below (by (with_reducible repeat (first | apply Kd.R_alloc | apply Kd.R_drewN | apply Kd.R_drew)); exact HO_14.out) hb); replace HO_524000 := Aside0.mk (Kd.S_below (by (with_reducible repeat (first | apply Kd.S_alloc | apply Kd.S_drewN | apply Kd.S_drew)); exact HO_524000.out) hb); replace BK522 := Aside0.mk (blk_below (g := gb522) (o := .cells #[.slice none 0 0] 39 (0, 0)) (bk BK522) hb); replace BK523 := Aside0.mk (blk_below (g := gb523) (o := .cells #[.slice Ao31 x524000_1.length co31] 39 (0, 0)) (bk BK523) hb); replace HB := Aside0.mk (below_step bq hb); (try clear hb); have hcz35_0 := bc0 BK523; have hfz35_0 := blk_frozen BK523.out 0; have hcz36_0 := bc0 BK522; have hfz36_0 := blk_frozen BK522.out 0))
      refine bodyPost_ret (results_ct rfl _ _ gb522 39 #[.slice Ao31 x524000_1.length co31] (0, 0) _ rfl (by (with_reducible repeat (first | refine blk_drewN ?_ _ | refine blk_drew ?_ | refine blk_alloc ?_ _)); refine blk_put (cs := #[.slice none 0 0]) ?_ 0 _ rfl; (with_reducible repeat (first | refine blk_drewN ?_ _ | refine blk_drew ?_ | refine blk_alloc ?_ _)); exact BK522.out) Tryd.underlying39 rfl (by kernel_rfl)) rfl ?_
      exact ⟨_, eq_, by (with_reducible repeat (first | apply Kd.S_alloc | apply Kd.S_drewN | apply Kd.S_drew)); exact Kd.S_mono (Kd.S_far (p := ⟨gb522, 0, none⟩) (Kd.S_types HO_524000.out BK522.out (by decide)) (fun _ hk => hk.2) (.slice Ao31 x524000_1.length co31)) (fun _ hk => trivial), bq⟩
     ·replace c26 := Bool.eq_false_iff.mpr c26
      subst c26
      have H1 : (none) = some (r1, r2) := by rw [if_neg (show ¬ (false = true) by decide)] at H; exact H
      clear H
      have H := H1
      clear H1
      exact absurd H (by simp)

/-! ### laws_eqInt64S: function 59 -/
def laws_eqInt64S.l0 : Nat → List Int → List Int → Int → Option (Bool)
 | 0, _, _, _ => none
 | k + 1, x0, x1, x5 => if x5 < (x0.length : Int) then (if 0 ≤ x5 then (if x5 < (x1.length : Int) then (if (rd x0 x5) = (rd x1 x5) then (laws_eqInt64S.l0 k x0 x1 (wrap64 (x5 + 1))) else (none)) else (none)) else (none)) else (some true)
def laws_eqInt64S.f (k : Nat) (l0 : List Int) (l1 : List Int) : Option (Bool) := if (l0.length : Int) = (l1.length : Int) then (laws_eqInt64S.l0 k l0 l1 0) else (none)
set_option maxHeartbeats 8000000 in
set_option maxRecDepth 100000 in
theorem laws_eqInt64S.calls (k : Nat) (A0 : Option Addr) (c0 : Nat) (l0 : List Int) (A1 : Option Addr) (c1 : Nat) (l1 : List Int) (r : Bool) (w : World) (hr0 : Kd.C (Kd.int .i64) w A0 l0.length l0) (hc0 : l0.length ≤ c0) (hr1 : Kd.C (Kd.int .i64) w A1 l1.length l1) (hc1 : l1.length ≤ c1) (h : laws_eqInt64S.f k l0 l1 = some r) :
  Calls Tryd.prog 59 #[.slice A0 l0.length c0, .slice A1 l1.length c1] w fun e w' => e = .returned (.bool r) ∧ Drawn0 w w' := by
 have HR0 := Aside0.mk hr0
 have HC0 := Aside0.mk hc0
 clear hr0 hc0
 have HR1 := Aside0.mk hr1
 have HC1 := Aside0.mk hc1
 clear hr1 hc1
 have H : (if (l0.length : Int) = (l1.length : Int) then (laws_eqInt64S.l0 k l0 l1 0) else (none)) = some r := h
 clear h
 by_cases c3 : (l0.length : Int) = (l1.length : Int)
 ·rw [if_pos c3] at H
  have c3b0 : ((l0.length : Int) == (l1.length : Int)) = true := beq_iff_eq.mpr c3
  have c3b1 : ((l0.length : Int) != (l1.length : Int)) = false := bne_eq_false_iff_eq.mpr c3
  have c3b2 : (l0.length == l1.length) = true := by first | simpa using c3 | (simp at c3 ⊢; omega)
  clear c3
  have H' := Aside0.mk H
  clear H
  go_enter Tryd.func59, Tryd.ntmps59
  go_wp2
  repeat (go_quiet (fail); try go_wp2)
  go_loopg [5] k (fun kq v5 w' => ∃ (x5_1 : Int), v5 = .int .i64 x5_1 ∧ Aside0 (laws_eqInt64S.l0 kq l0 l1 x5_1 = some r) ∧ Aside0 (kq ≤ k) ∧ Drawn0 w w')
  case atStart => exact ⟨(0), (by first | rfl | (simp; done) | (simp [*]; done)), H', ⟨Nat.le_refl _⟩, by repeat (first | exact Drawn0.refl _ | apply Drawn0.step)⟩
  case round =>
   clear H'
   try clear c1
   try clear p2
   try clear c3
   try clear c3b0
   try clear c3b1
   try clear c3b2
   obtain ⟨x5_1, rfl, HA, HK1, ⟨m1, rfl⟩⟩ := hrel
   cases gk with
   | zero => exact absurd HA.out (by simp [laws_eqInt64S.l0])
   | succ k1 =>
    have H := HA.out
    clear HA
    simp only [laws_eqInt64S.l0] at H
    by_cases c4 : x5_1 < (l0.length : Int)
    ·rw [if_pos c4] at H
     have c4b0 : decide (x5_1 < (l0.length : Int)) = true := decide_eq_true c4
     clear c4
     revert H
     refine ifr fun c5 H => ?_
     have c5b0 : decide (0 ≤ x5_1) = true := decide_eq_true c5
     clear c5
     revert H
     refine ifr fun c6 H => ?_
     have c6b0 : decide (x5_1 < (l1.length : Int)) = true := decide_eq_true c6
     clear c6
     revert H
     refine ifr fun c7 H => ?_
     have c7b0 : ((rd l0 x5_1) == (rd l1 x5_1)) = true := beq_iff_eq.mpr c7
     have c7b1 : ((rd l0 x5_1) != (rd l1 x5_1)) = false := bne_eq_false_iff_eq.mpr c7
     clear c7
     have H' := Aside0.mk H
     clear H
     have p562 : 0 ≤ (x5_1 : Int) := ode
     have q562 : x5_1 < (l0.length : Int) := ode
     obtain ⟨ad562, e562, hx562_0⟩ := Kd.at_int HR0.out x5_1 p562 q562
     cases e562
     replace p562 := eq_true p562
     replace q562 := eq_true q562
     have p563 : 0 ≤ (x5_1 : Int) := ode
     have q563 : x5_1 < (l1.length : Int) := ode
     obtain ⟨ad563, e563, hx563_0⟩ := Kd.at_int HR1.out x5_1 p563 q563
     cases e563
     replace p563 := eq_true p563
     replace q563 := eq_true q563
     go_wp2
     repeat (go_quiet (fail); try go_wp2)
     go_roundg k1
     case measure => have := HK1.out; omega
     case rel => exact ⟨(wrap64 (x5_1 + 1)), (by first | rfl | (simp; done) | (simp [*]; done)), H', ⟨by have := HK1.out; omega⟩, by repeat (first | exact Drawn0.refl _ | apply Drawn0.step)⟩
    ·rw [if_neg c4] at H
     have c4b0 : decide (x5_1 < (l0.length : Int)) = false := decide_eq_false c4
     clear c4
     obtain rfl := Option.some.inj H
     go_wp2
     repeat (go_quiet (fail); try go_wp2)
     go_ret
     exact ⟨by first | rfl | (simp; done) | (simp [*]; done), by repeat (first | exact Drawn0.refl _ | apply Drawn0.step)⟩
 ·rw [if_neg c3] at H
  exact absurd H (by simp)

/-! ### laws_eqBranch: function 58 -/
def laws_eqBranch.f (k : Nat) (l0_0 : List Int) (l1_0 : List Int) : Option (Bool) := (laws_eqInt64S.f k l0_0 l1_0).bind fun t566 => (if t566 = true then (some true) else (none))
set_option maxHeartbeats 8000000 in
set_option maxRecDepth 100000 in
theorem laws_eqBranch.calls (k : Nat) (A0_0 : Option Addr) (c0_0 : Nat) (l0_0 : List Int) (A1_0 : Option Addr) (c1_0 : Nat) (l1_0 : List Int) (r : Bool) (w : World) (hr0_0 : Kd.C (Kd.int .i64) w A0_0 l0_0.length l0_0) (hc0_0 : l0_0.length ≤ c0_0) (hr1_0 : Kd.C (Kd.int .i64) w A1_0 l1_0.length l1_0) (hc1_0 : l1_0.length ≤ c1_0) (h : laws_eqBranch.f k l0_0 l1_0 = some r) :
  Calls Tryd.prog 58 #[.agg #[.slice A0_0 l0_0.length c0_0], .agg #[.slice A1_0 l1_0.length c1_0]] w fun e w' => e = .returned (.bool r) ∧ Below w.heap.size w w' := by
 have hu74 := Tryd.underlying74
 have HR0_0 := Aside0.mk hr0_0
 have HC0_0 := Aside0.mk hc0_0
 clear hr0_0 hc0_0
 have HR1_0 := Aside0.mk hr1_0
 have HC1_0 := Aside0.mk hc1_0
 clear hr1_0 hc1_0
 have HB := Aside0.mk (Below.refl w.heap.size w)
 have H : ((laws_eqInt64S.f k l0_0 l1_0).bind fun t566 => (if t566 = true then (some true) else (none))) = some r := h
 clear h
 replace H := Option.bind_eq_some_iff.mp H
 obtain ⟨t566, A30, H⟩ := H
 replace H : (if t566 = true then (some true) else (none)) = some r := H
 have A3 := Aside0.mk A30
 clear A30
 by_cases c4 : t566 = true
 ·subst c4
  have H1 : (some true) = some r := by rw [if_pos rfl] at H; exact H
  clear H
  have H := H1
  clear H1
  obtain rfl := Option.some.inj H
  go_enter Tryd.func58, Tryd.ntmps58
  go_wp2_with (first | ((with_reducible refine gate_dst (N := 2) rfl ?_); refine box_event ?hg (N := 2) ?hd (cs := #[.slice A0_0 l0_0.length c0_0]) (t := 74) ?hr ?_; (case hd => rfl); (case hg => rfl); (case hr => first | (go_simp; done) | (go_simp; rfl)); intro gb564 hg w5 hbox hb; have BK564 := Aside0.mk (hbox); have GW564 := Aside0.mk ((by rw [hg]; exact (below_size bq) : w.heap.size ≤ gb564)); have GE564 := Aside0.mk ((by rw [hg]; exact (below_size bq) : w.heap.size ≤ gb564)); replace HB := Aside0.mk (below_step bq hb); clear hb hbox hg) | ((with_reducible refine gate_dst (N := 3) rfl ?_); refine box_event ?hg (N := 3) ?hd (cs := #[.slice A1_0 l1_0.length c1_0]) (t := 74) ?hr ?_; (case hd => rfl); (case hg => rfl); (case hr => first | (go_simp; done) | (go_simp; rfl)); intro gb565 hg w6 hbox hb; have BK565 := Aside0.mk (hbox); have GW565 := Aside0.mk ((by rw [hg]; exact (below_size bq) : w.heap.size ≤ gb565)); have GE565 := Aside0.mk ((by rw [hg]; exact (below_size bq) : w.heap.size ≤ gb565)); replace HB := Aside0.mk (below_step bq hb); have NB564_565 := Aside0.mk ((by rw [hg]; exact Nat.ne_of_lt (blk_lt (g := gb564) (o := .cells #[.slice A0_0 l0_0.length c0_0] 74 (0, 0)) (bk BK564)) : gb564 ≠ gb565)); have NB565_564 := Aside0.mk ((by rw [hg]; exact Nat.ne_of_gt (blk_lt (g := gb564) (o := .cells #[.slice A0_0 l0_0.length c0_0] 74 (0, 0)) (bk BK564)) : gb565 ≠ gb564)); replace BK564 := Aside0.mk (blk_below (g := gb564) (o := .cells #[.slice A0_0 l0_0.length c0_0] 74 (0, 0)) (bk BK564) hb); clear hb hbox hg; have hnb7 := NB564_565.out; have hnc7 := NB565_564.out; have hcz8_0 := bc0 BK564; have hfz8_0 := blk_frozen BK564.out 0; have hcz9_0 := bc0 BK565; have hfz9_0 := blk_frozen BK565.out 0) | ((with_reducible refine gate_callee (f := 59) rfl ?_); refine gL 9 Tryd.func59 #[.slice A0_0 l0_0.length c0_0, .slice A1_0 l1_0.length c1_0] ?_; (with_reducible refine (laws_eqInt64S.calls k _ _ l0_0 _ _ l1_0 true _ ?side1 ?side2 ?side3 ?side4 A3.out).mono ?_); (case side1 => exact kc HR0_0); (case side2 => exact HC0_0.out); (case side3 => exact kc HR1_0); (case side4 => exact HC1_0.out); rintro e w' ⟨rfl, ⟨nd, rfl⟩⟩; refine ⟨_, rfl, ?_⟩))
  go_ret
  exact ⟨eq_, bq⟩
 ·replace c4 := Bool.eq_false_iff.mpr c4
  subst c4
  have H1 : (none) = some r := by rw [if_neg (show ¬ (false = true) by decide)] at H; exact H
  clear H
  have H := H1
  clear H1
  exact absurd H (by simp)

/-! ### laws_eqBranchS: function 27 -/
def laws_eqBranchS.l0 : Nat → List (S74) → List (S74) → Int → Option (Bool)
 | 0, _, _, _ => none
 | k + 1, x0, x1, x5 => if x5 < (x0.length : Int) then (if 0 ≤ x5 then (if x5 < (x1.length : Int) then ((laws_eqBranch.f k ((rd_T74 x0 x5).f0) ((rd_T74 x1 x5).f0)).bind fun t569 => (if t569 = true then (laws_eqBranchS.l0 k x0 x1 (wrap64 (x5 + 1))) else (none))) else (none)) else (none)) else (some true)
def laws_eqBranchS.f (k : Nat) (l0 : List (S74)) (l1 : List (S74)) : Option (Bool) := if (l0.length : Int) = (l1.length : Int) then (laws_eqBranchS.l0 k l0 l1 0) else (none)
def laws_eqBranchS.T6 : Bool × List (List Nat × List Nat) := (true, [([], []), ([], []), ([0, 1], [0, 1]), ([2], [2]), ([], []), ([], []), ([4, 5], [4, 5]), ([6], [6]), ([3, 7], [3, 7]), ([8], [8])])
def laws_eqBranchS.B6 : List Nat := [0, 0, 3, 7, 0, 0, 48, 112, 255, 511]
theorem laws_eqBranchS.tab6 : rtab .any (opsOf Tryd.f27 6) = laws_eqBranchS.T6 := by kernel_rfl
theorem laws_eqBranchS.bits6 : waitsOk laws_eqBranchS.T6.2 laws_eqBranchS.B6 = true := by kernel_rfl
set_option maxHeartbeats 8000000 in
set_option maxRecDepth 100000 in
theorem laws_eqBranchS.calls (k : Nat) (A0 : Option Addr) (c0 : Nat) (l0 : List (S74)) (A1 : Option Addr) (c1 : Nat) (l1 : List (S74)) (r : Bool) (w : World) (hr0 : Kd.C k74 w A0 l0.length l0) (hc0 : l0.length ≤ c0) (hr1 : Kd.C k74 w A1 l1.length l1) (hc1 : l1.length ≤ c1) (h : laws_eqBranchS.f k l0 l1 = some r) :
  Calls Tryd.prog 27 #[.slice A0 l0.length c0, .slice A1 l1.length c1] w fun e w' => e = .returned (.bool r) ∧ Below w.heap.size w w' := by
 have hu74 := Tryd.underlying74
 have HR0 := Aside0.mk hr0
 have HC0 := Aside0.mk hc0
 clear hr0 hc0
 have HR1 := Aside0.mk hr1
 have HC1 := Aside0.mk hc1
 clear hr1 hc1
 have HB := Aside0.mk (Below.refl w.heap.size w)
 have H : (if (l0.length : Int) = (l1.length : Int) then (laws_eqBranchS.l0 k l0 l1 0) else (none)) = some r := h
 clear h
 by_cases c3 : (l0.length : Int) = (l1.length : Int)
 ·rw [if_pos c3] at H
  have c3b0 : ((l0.length : Int) == (l1.length : Int)) = true := beq_iff_eq.mpr c3
  have c3b1 : ((l0.length : Int) != (l1.length : Int)) = false := bne_eq_false_iff_eq.mpr c3
  have c3b2 : (l0.length == l1.length) = true := by first | simpa using c3 | (simp at c3 ⊢; omega)
  clear c3
  have H' := Aside0.mk H
  clear H
  go_enter Tryd.func27, Tryd.ntmps27
  go_wp2
  go_loopg [5] k (fun kq v5 w' => ∃ (x5_1 : Int), v5 = .int .i64 x5_1 ∧ Aside0 (laws_eqBranchS.l0 kq l0 l1 x5_1 = some r) ∧ Aside0 (kq ≤ k) ∧ Aside0 (Below w.heap.size w w'))
  case atStart => exact ⟨(0), (by first | rfl | (simp; done) | (simp [*]; done)), H', ⟨Nat.le_refl _⟩, ⟨bq⟩⟩
  case round =>
   clear H'
   try clear c1
   try clear c2
   try clear p2
   try clear c3
   try clear c3b0
   try clear c3b1
   try clear c3b2
   obtain ⟨x5_1, rfl, HA, HK1, HB⟩ := hrel
   cases gk with
   | zero => exact absurd HA.out (by simp [laws_eqBranchS.l0])
   | succ k1 =>
    have H := HA.out
    clear HA
    simp only [laws_eqBranchS.l0] at H
    by_cases c4 : x5_1 < (l0.length : Int)
    ·rw [if_pos c4] at H
     have c4b0 : decide (x5_1 < (l0.length : Int)) = true := decide_eq_true c4
     clear c4
     revert H
     refine ifr fun c5 H => ?_
     have c5b0 : decide (0 ≤ x5_1) = true := decide_eq_true c5
     clear c5
     revert H
     refine ifr fun c6 H => ?_
     have c6b0 : decide (x5_1 < (l1.length : Int)) = true := decide_eq_true c6
     clear c6
     replace H := Option.bind_eq_some_iff.mp H
     obtain ⟨t569, A70, H⟩ := H
     replace H : (if t569 = true then (laws_eqBranchS.l0 k1 l0 l1 (wrap64 (x5_1 + 1))) else (none)) = some r := H
     have A7 := Aside0.mk A70
     clear A70
     by_cases c8 : t569 = true
     ·subst c8
      have H1 : (laws_eqBranchS.l0 k1 l0 l1 (wrap64 (x5_1 + 1))) = some r := by rw [if_pos rfl] at H; exact H
      clear H
      have H := H1
      clear H1
      have H' := Aside0.mk H
      clear H
      try go_wp2
      have n0_ := Aside0.mk (below_drew1 HB.out)
      clear HB
      have HB := n0_
      clear n0_
      have p567 : 0 ≤ (x5_1 : Int) := ode
      have q567 : x5_1 < (l0.length : Int) := ode
      obtain ⟨ad567, A567_0, c567_0, e567, hx567_0, hl567_0, hi567_0⟩ := at_T74 HR0.out x5_1 p567 q567
      have hw567_0 := hx567_0
      cases e567
      try replace hx567_0 := (HB.out.cell (World.block_lt_of_cell? w _ hx567_0)).trans hx567_0
      have HR567_0 := Aside0.mk hi567_0
      have HC567_0 := Aside0.mk hl567_0
      clear hi567_0 hl567_0
      replace p567 := eq_true p567
      replace q567 := eq_true q567
      have p568 : 0 ≤ (x5_1 : Int) := ode
      have q568 : x5_1 < (l1.length : Int) := ode
      obtain ⟨ad568, A568_0, c568_0, e568, hx568_0, hl568_0, hi568_0⟩ := at_T74 HR1.out x5_1 p568 q568
      have hw568_0 := hx568_0
      cases e568
      try replace hx568_0 := (HB.out.cell (World.block_lt_of_cell? w _ hx568_0)).trans hx568_0
      have HR568_0 := Aside0.mk hi568_0
      have HC568_0 := Aside0.mk hl568_0
      clear hi568_0 hl568_0
      replace p568 := eq_true p568
      replace q568 := eq_true q568
      refine start_ (n := 10) (S := fun w' => w'.cell? (ad567.add (x5_1).toNat) = some (.slice A567_0 ((rd_T74 l0 x5_1).f0).length c567_0) ∧ w'.cell? (ad568.add (x5_1).toNat) = some (.slice A568_0 ((rd_T74 l1 x5_1).f0).length c568_0)) (ds := []) (bA 10 0) (by kernel_rfl) rfl (by kernel_rfl) ⟨((HB.out.cell (World.block_lt_of_cell? w _ hw567_0)).trans hw567_0), ((HB.out.cell (World.block_lt_of_cell? w _ hw568_0)).trans hw568_0)⟩ (fun hHeld => ?_); refine with_tabW laws_eqBranchS.tab6 laws_eqBranchS.bits6 (fun HT_ HW_ => ?_)
      generalize wr.drew = w9 at HB HR567_0 HR568_0 hx567_0 hx568_0 hHeld ⊢
      refine pu HT_ 0 17 1 ?_
      refine pu HT_ 1 18 3 ?_
      refine pu HT_ 2 19 7 ?_
      refine pu HT_ 4 21 23 ?_
      refine pu HT_ 5 22 55 ?_
      refine pu HT_ 6 23 119 ?_
      refine tk2 HT_ HW_ hHeld 3 20 127 ?_
      refine tk2 HT_ HW_ hHeld 7 24 255 ?_
      refine one_ (i := 8) (N := some 25) (bA 10 511) rfl rfl (one_of HT_.out (by kernel_rfl)) (by decide) (fun K hK => ?_)
      refine goes_ Tryd.func58 (by kernel_rfl) rfl #[.agg #[.slice A567_0 ((rd_T74 l0 x5_1).f0).length c567_0], .agg #[.slice A568_0 ((rd_T74 l1 x5_1).f0).length c568_0]] (by rfl) rfl rfl (by (try simp only [List.map_toArray, List.map_cons, List.map_nil]); first | done | rfl | (simp only [List.length_drop, List.length_take]; rfl)) ?_
      with_reducible refine (laws_eqBranch.calls k1 _ _ ((rd_T74 l0 x5_1).f0) _ _ ((rd_T74 l1 x5_1).f0) true _ ?side1 ?side2 ?side3 ?side4 A7.out).mono ?_
      (case side1 => exact kc HR567_0)
      (case side2 => exact HC567_0.out)
      (case side3 => exact kc HR568_0)
      (case side4 => exact HC568_0.out)
      rintro e w10 ⟨rfl, hb⟩
      refine ⟨_, rfl, ?_⟩
      have n0_ := Aside0.mk (below_step bq hb)
      clear HB
      have HB := n0_
      clear n0_
      
      
      
      
      refine hK.out _ _ ⟨((HB.out.cell (World.block_lt_of_cell? w _ hw567_0)).trans hw567_0), ((HB.out.cell (World.block_lt_of_cell? w _ hw568_0)).trans hw568_0)⟩ (fun hHeld => ?_)
      clear hK K
      refine norm_ (a' := ?_) ?_ ?_
      rotate_left
      ·show Act.put _ (some 25) _ = _
       simp only [Act.put, List.setIfInBounds_toArray, List.set_cons_zero, List.set_cons_succ, i64_w, i32_w]
       rfl
      refine pu HT_ 9 26 1023 ?_
      refine done_ (done_of HT_.out (by kernel_rfl)) ?_
      try go_wp2
      go_roundg k1
      case measure => have := HK1.out; omega
      case rel => exact ⟨(wrap64 (x5_1 + 1)), (by first | rfl | (simp; done) | (simp [*]; done)), H', ⟨by have := HK1.out; omega⟩, ⟨bq⟩⟩
     ·replace c8 := Bool.eq_false_iff.mpr c8
      subst c8
      have H1 : (none) = some r := by rw [if_neg (show ¬ (false = true) by decide)] at H; exact H
      clear H
      have H := H1
      clear H1
      exact absurd H (by simp)
    ·rw [if_neg c4] at H
     have c4b0 : decide (x5_1 < (l0.length : Int)) = false := decide_eq_false c4
     clear c4
     obtain rfl := Option.some.inj H
     go_wp2
     go_ret
     exact ⟨eq_, bq⟩
 ·rw [if_neg c3] at H
  exact absurd H (by simp)
end Go.Proofs.YtkfdfpcdcabcoaaDoor.QDesx
