/- Walks: the printed functions, and that each call comes to them (10). -/
import Derived.Test.YtkfdfpcdcabcoaaDoorV
import Derived.Test.YtkfdfpcdcabcoaaDoorGA
import Derived.Test.YtkfdfpcdcabcoaaDoorGI
import Derived.Test.YtkfdfpcdcabcoaaDoorGH
namespace Go.Proofs.YtkfdfpcdcabcoaaDoor.QName
open Go.RowKit Go.Proofs.YtkfdfpcdcabcoaaDoorW.PrintWords Go.Proofs.YtkfdfpcdcabcoaaDoorW.PrintLast Go.Proofs.YtkfdfpcdcabcoaaDoorW.PrintMore
attribute [local go_sem] max2_int min2_int max_two min_two max_three min_three max_four min_four
set_option linter.unusedVariables false
set_option linter.unusedSimpArgs false

/-! ### impl_runOf: function 105 -/
mutual
def impl_runOf.l0 : Nat → List Int → List (List Int) → Int → Int → Option (List Int)
 | 0, _, _, _, _ => none
 | k + 1, x0, x12, x13, x14 => if x14 < x13 then (if 0 ≤ x14 then (if x14 < (x12.length : Int) then (impl_runOf.l1 k x0 (rd_L1 x12 x14) 0 x12 x13 x14) else (none)) else (none)) else (some x0)
def impl_runOf.l1 : Nat → List Int → List Int → Int → List (List Int) → Int → Int → Option (List Int)
 | 0, _, _, _, _, _, _ => none
 | k + 1, x0, x8, x9, x12, x13, x14 => if 0 < (x8.length : Int) then (if x9 < (rd x8 0) then (if 1 < (x8.length : Int) then (if x0.length < 17592186044416 then (impl_runOf.l1 k (x0 ++ [rd x8 1]) x8 (wrap64 (x9 + 1)) x12 x13 x14) else (none)) else (none)) else (impl_runOf.l0 k x0 x12 x13 (wrap64 (x14 + 1)))) else (none)
end
def impl_runOf.f (k : Nat) (l0 : List Int) (a1 : Int) (a2 : Int) : Option (List Int) := (impl_steps.f k a1 a2).bind fun t395 => (impl_runOf.l0 k l0 t395 (t395.length : Int) 0)
set_option maxHeartbeats 8000000 in
set_option maxRecDepth 100000 in
theorem impl_runOf.calls (k : Nat) (P0_ : Nat → Prop) (u9000_ : Value) (l0 : List Int) (a1 : Int) (a2 : Int) (r : List Int) (w0 w : World) (hB : Below w0.heap.size w0 w) (ho0 : Kd.R (Kd.int .i64) 2 w w0.heap.size P0_ u9000_ l0) (h : impl_runOf.f k l0 a1 a2 = some r) :
  Calls Tryd.prog 105 #[u9000_, .int .i64 a1, .int .i64 a2] w fun e w' => ∃ v0_ : Value, e = .returned (v0_) ∧ Kd.R (Kd.int .i64) 2 w' w0.heap.size (fun k_ => (P0_ k_ ∨ w.heap.size ≤ k_)) v0_ r ∧ Below w0.heap.size w0 w' ∧ Kept w w' (fun k_ => P0_ k_) := by
 have HO0 := Aside0.mk (show Kd.R (Kd.int .i64) 2 w w0.heap.size (fun k_ => (P0_ k_ ∨ w.heap.size ≤ k_)) u9000_ l0 from Kd.R_mono ho0 (fun k_ hk => (.inl hk)))
 have HK := Aside0.mk (Kept.refl w (fun k_ => P0_ k_))
 have HW0 := Aside0.mk hB.size
 have HB := Aside0.mk hB
 clear hB
 have H : ((impl_steps.f k a1 a2).bind fun t395 => (impl_runOf.l0 k l0 t395 (t395.length : Int) 0)) = some r := h
 clear h
 replace H := Option.bind_eq_some_iff.mp H
 obtain ⟨t395, A40, H⟩ := H
 replace H : (impl_runOf.l0 k l0 t395 (t395.length : Int) 0) = some r := H
 have A4 := Aside0.mk A40
 clear A40
 have H' := Aside0.mk H
 clear H
 go_enter Tryd.func105, Tryd.ntmps105
 go_wp2_with (first | ((with_reducible refine gate_callee (f := 118) rfl ?_); refine gL 12 Tryd.func118 #[.int .i64 a1, .int .i64 a2] ?_; (with_reducible refine (impl_steps.calls k a1 a2 t395 _ A4.out).mono ?_); rintro e w5 ⟨v396, rfl, ho0, hb⟩; refine ⟨_, rfl, ?_⟩; have HO397 := Aside0.mk (Kd.S_lower (Kd.S_new' (Kd.S_newM (M := fun k_ => (P0_ k_ ∨ w.heap.size ≤ k_)) ho0 (by first | exact HK.out.1 | exact (show Kept w _ (fun k_ => P0_ k_) from by repeat (first | (with_reducible first | exact HK.out | apply Kept.alloc | apply Kept.drewN | apply Kept.drew) | exact HK.out)).1) (fun k_ h_ => .inr h_)) (Kd.R_lt (by (with_reducible repeat (first | apply Kd.R_alloc | apply Kd.R_drewN | apply Kd.R_drew)); exact HO0.out))) (below_size bq)); replace HO0 := Aside0.mk (Kd.R_below (by (with_reducible repeat (first | apply Kd.R_alloc | apply Kd.R_drewN | apply Kd.R_drew)); exact HO0.out) hb); replace HK := Aside0.mk (Kept.below (S := (fun k_ => P0_ k_)) (by repeat (first | (with_reducible first | exact HK.out | apply Kept.alloc | apply Kept.drewN | apply Kept.drew) | exact HK.out)) hb); replace HB := Aside0.mk (below_step bq hb); (try clear hb); (try clear ho0); obtain ⟨Ao6, co6, eo6⟩ := Kd.S_slice HO397.out; subst eo6))
 go_loopg [0, 14] k (fun kq v0 v14 w' => ∃ (x0_1 : List Int) (x14_1 : Int), v14 = .int .i64 x14_1 ∧ Aside0 (impl_runOf.l0 kq x0_1 t395 (t395.length : Int) x14_1 = some r) ∧ Aside0 (kq ≤ k) ∧ Aside0 (Kd.R (Kd.int .i64) 2 w' w0.heap.size (fun k_ => (P0_ k_ ∨ w.heap.size ≤ k_)) v0 x0_1) ∧ Aside0 (Kd.S (Kd.slice 2 (Kd.int .i64)) 35 w' w0.heap.size (fun k_ => (P0_ k_ ∨ w.heap.size ≤ k_) ∧ some k_ ≠ (v0 : Value).ownBlock) (.slice Ao6 t395.length co6) t395) ∧ Aside0 (Kept w w' (fun k_ => P0_ k_)) ∧ Aside0 (Below w0.heap.size w0 w'))
 case atStart => exact ⟨(l0), (0), (by first | rfl | (simp; done) | (simp [*]; done)), H', ⟨Nat.le_refl _⟩, ⟨by (with_reducible repeat (first | apply Kd.R_alloc | apply Kd.R_drewN | apply Kd.R_drew)); exact HO0.out⟩, ⟨by (with_reducible repeat (first | apply Kd.S_alloc | apply Kd.S_drewN | apply Kd.S_drew)); exact Kd.S_mono HO397.out (fun _ hk => ⟨hk.1.1, hk.2⟩)⟩, ⟨by repeat (first | (with_reducible first | exact HK.out | apply Kept.alloc | apply Kept.drewN | apply Kept.drew) | exact HK.out)⟩, ⟨bq⟩⟩
 case round =>
  clear H'
  try clear c1
  try clear p2
  obtain ⟨x0_1, x14_1, rfl, HA, HK1, HO_0, HO_12, HK, HB⟩ := hrel
  cases gk with
  | zero => exact absurd HA.out (by simp [impl_runOf.l0])
  | succ k1 =>
   have H := HA.out
   clear HA
   simp only [impl_runOf.l0] at H
   by_cases c7 : x14_1 < (t395.length : Int)
   ·rw [if_pos c7] at H
    have c7b0 : decide (x14_1 < (t395.length : Int)) = true := decide_eq_true c7
    clear c7
    revert H
    refine ifr fun c8 H => ?_
    have c8b0 : decide (0 ≤ x14_1) = true := decide_eq_true c8
    clear c8
    revert H
    refine ifr fun c9 H => ?_
    have c9b0 : decide (x14_1 < (t395.length : Int)) = true := decide_eq_true c9
    clear c9
    have H' := Aside0.mk H
    clear H
    have p398 : 0 ≤ (x14_1 : Int) := ode
    have q398 : x14_1 < (t395.length : Int) := ode
    obtain ⟨ad398, A398_0, c398_0, e398, hx398_0, hl398_0, hi398_0⟩ := at_L1 (Kd.S_reads' HO_12.out).2.2 x14_1 p398 q398
    cases e398
    obtain ⟨ce398, hce398, hMe398, hcc398⟩ := Kd.S_get HO_12.out [] x14_1 p398 (by first | exact q398 | exact ode | (have e_ := (Kd.S_reads' HO_12.out).1; omega))
    obtain ⟨ve398_0, rfl, ge398_0⟩ := hMe398
    have hv398_0 := hcc398 0 _ rfl
    rw [Nat.add_zero, show ((Kd.slice 2 (Kd.int .i64))).sz = 1 from rfl, Nat.mul_one] at hv398_0
    replace hv398_0 := Option.some.inj (hv398_0.symm.trans hx398_0)
    rw [hv398_0] at ge398_0
    have HL398_0 := Aside0.mk (show Kd.R (Kd.int .i64) 2 _ _ _ _ (rd_L1 t395 x14_1) from ge398_0)
    clear hv398_0 ge398_0
    clear hcc398 hce398
    have HR398_0 := Aside0.mk hi398_0
    have HC398_0 := Aside0.mk hl398_0
    clear hi398_0 hl398_0
    replace p398 := eq_true p398
    replace q398 := eq_true q398
    go_wp2
    go_loopg [0, 9] k1 (fun kq v0 v9 w' => ∃ (x0_2 : List Int) (x9_2 : Int), v9 = .int .i64 x9_2 ∧ Aside0 (impl_runOf.l1 kq x0_2 (rd_L1 t395 x14_1) x9_2 t395 (t395.length : Int) x14_1 = some r) ∧ Aside0 (kq ≤ k1) ∧ Aside0 (Kd.R (Kd.int .i64) 2 w' w0.heap.size (fun k_ => (P0_ k_ ∨ w.heap.size ≤ k_)) v0 x0_2) ∧ Aside0 (Kd.S (Kd.slice 2 (Kd.int .i64)) 35 w' w0.heap.size (fun k_ => (P0_ k_ ∨ w.heap.size ≤ k_) ∧ some k_ ≠ (v0 : Value).ownBlock) (.slice (some ad398) t395.length co6) t395) ∧ Aside0 (Kd.R (Kd.int .i64) 2 w' w0.heap.size (fun k_ => True ∧ some k_ ≠ (v0 : Value).ownBlock) (.slice A398_0 (rd_L1 t395 x14_1).length c398_0) (rd_L1 t395 x14_1)) ∧ Aside0 (Kept w w' (fun k_ => P0_ k_)) ∧ Aside0 (Below w0.heap.size w0 w'))
    case atStart => exact ⟨(x0_1), (0), (by first | rfl | (simp; done) | (simp [*]; done)), H', ⟨Nat.le_refl _⟩, ⟨by (with_reducible repeat (first | apply Kd.R_alloc | apply Kd.R_drewN | apply Kd.R_drew)); exact HO_0.out⟩, ⟨by (with_reducible repeat (first | apply Kd.S_alloc | apply Kd.S_drewN | apply Kd.S_drew)); exact HO_12.out⟩, ⟨Kd.R_mono HL398_0.out (fun _ hk => ⟨trivial, hk.1.2⟩)⟩, ⟨by repeat (first | (with_reducible first | exact HK.out | apply Kept.alloc | apply Kept.drewN | apply Kept.drew) | exact HK.out)⟩, ⟨bq⟩⟩
    case round =>
     clear H'
     try clear c1
     try clear p2
     try clear c3
     try clear p3
     try clear q3
     try clear hx3
     try clear c7
     try clear c7b0
     try clear c8
     try clear c8b0
     try clear c9
     try clear c9b0
     try clear hx398_0
     try clear p2
     try clear p398
     try clear q398
     obtain ⟨x0_2, x9_2, rfl, HA, HK2, HO_0, HO_12, HLX, HK, HB⟩ := hrel
     cases gk with
     | zero => exact absurd HA.out (by simp [impl_runOf.l1])
     | succ k2 =>
      clear HR398_0 HL398_0
      have HR398_0 := Aside0.mk (Kd.R_reads' HLX.out).2.2
      have H := HA.out
      clear HA
      simp only [impl_runOf.l1] at H
      revert H
      refine ifr fun c10 H => ?_
      have c10b0 : decide (0 < ((rd_L1 t395 x14_1).length : Int)) = true := decide_eq_true c10
      have c10b1 : decide (0 < (rd_L1 t395 x14_1).length) = true := decide_eq_true (by omega)
      clear c10
      by_cases c11 : x9_2 < (rd (rd_L1 t395 x14_1) 0)
      ·rw [if_pos c11] at H
       have c11b0 : decide (x9_2 < (rd (rd_L1 t395 x14_1) 0)) = true := decide_eq_true c11
       clear c11
       revert H
       refine ifr fun c12 H => ?_
       have c12b0 : decide (1 < ((rd_L1 t395 x14_1).length : Int)) = true := decide_eq_true c12
       have c12b1 : decide (1 < (rd_L1 t395 x14_1).length) = true := decide_eq_true (by omega)
       clear c12
       revert H
       refine ifr fun c13 H => ?_
       have LMc13 := Aside0.mk c13
       clear c13
       obtain ⟨y401, hy401⟩ : ∃ y_ : List Int, y_ = (x0_2 ++ [rd (rd_L1 t395 x14_1) 1]) := ⟨_, rfl⟩
       replace H : (impl_runOf.l1 k2 y401 (rd_L1 t395 x14_1) (wrap64 (x9_2 + 1)) t395 (t395.length : Int) x14_1) = some r := by first | (rw [hy401]; with_reducible exact H) | (have H2_ := (Option.bind_some _ _).symm.trans H; rw [hy401]; with_reducible exact H2_) | (have H2_ := (Option.bind_some _ _).symm.trans H; with_reducible exact H2_) | with_reducible exact H | (rw [hy401]; exact H) | exact H
       have Ny401 := Aside0.mk hy401
       clear hy401
       have H' := Aside0.mk H
       clear H
       have p399 : 0 ≤ (0 : Int) := (by omega)
       have q399 : 0 < ((rd_L1 t395 x14_1).length : Int) := ode
       obtain ⟨ad399, e399, hx399_0⟩ := Kd.at_int HR398_0.out 0 p399 q399
       cases e399
       have qi399 : (0 < (rd_L1 t395 x14_1).length) = True := eq_true (by omega)
       (try rw [show ((0 : Int)).toNat = 0 from rfl] at hx399_0)
       (try rw [Addr.add_zero'] at hx399_0)
       try replace hx399_0 := (HB.out.cell (World.block_lt_of_cell? w _ hx399_0)).trans hx399_0
       replace p399 := eq_true p399
       replace q399 := eq_true q399
       have p400 : 0 ≤ (1 : Int) := (by omega)
       have q400 : 1 < ((rd_L1 t395 x14_1).length : Int) := ode
       obtain ⟨ad400, e400, hx400_0⟩ := Kd.at_int HR398_0.out 1 p400 q400
       obtain rfl : ad399 = ad400 := (by injection e400)
       (try simp only [show (1 : Int).toNat = 1 from rfl, Nat.reduceMul, Nat.reduceEqDiff, Go.Addr.add, ↓reduceIte] at hx400_0)
       have qi400 : (1 < (rd_L1 t395 x14_1).length) = True := eq_true (by omega)
       (try rw [show ((1 : Int)).toNat = 1 from rfl] at hx400_0)
       try replace hx400_0 := (HB.out.cell (World.block_lt_of_cell? w _ hx400_0)).trans hx400_0
       replace p400 := eq_true p400
       replace q400 := eq_true q400
       go_wp2_with (first | ((with_reducible refine gate_builtin (b := .append) (xs := #[.tmp 25, .tmp 29]) rfl ?_); at_builtin; refine Kd.R_append (Kd.int .i64) (w0 := w0) w0.heap.size rfl (.tmp 25) (.tmp 29) 35 2 (.int .i64 0) 8 rfl Tryd.underlying35 info2 rfl (by decide) (by omega) u0 x0_2 (rd (rd_L1 t395 x14_1) 1) [.int .i64 (rd (rd_L1 t395 x14_1) 1)] (fun k_ => (P0_ k_ ∨ w.heap.size ≤ k_)) (fun _ => False) rfl rfl ?aP (fun _ hk => hk.elim) ?aF ?aO ?aB ?aS ?aL ?_; (case aP => exact rfl); (case aB => exact bq); (case aF => exact (fun k_ hk => (.inr (Nat.le_trans (by first | exact HK.out.1 | exact (show Kept w _ (fun k_ => P0_ k_) from by repeat (first | (with_reducible first | exact HK.out | apply Kept.alloc | apply Kept.drewN | apply Kept.drew) | exact HK.out)).1) hk)))); (case aO => exact (by (with_reducible repeat (first | apply Kd.R_alloc | apply Kd.R_drewN | apply Kd.R_drew)); exact HO_0.out)); (case aS => exact (below_size bq)); (case aL => have := LMc13.out; omega); intro v402 w14 ho hb hg hat; rw [← Ny401.out] at ho; have HLX2 := Aside0.mk (Kd.R_after HLX.out hg hat); clear HLX; have HLX := HLX2; clear HLX2; have n0_ := Aside0.mk (Kd.S_after (ok := (fun k_ => (P0_ k_ ∨ w.heap.size ≤ k_))) (by (with_reducible repeat (first | apply Kd.S_alloc | apply Kd.S_drewN | apply Kd.S_drew)); exact HO_12.out) hg hat); have n1_ := Aside0.mk (hb); have n2_ := Aside0.mk (Kept.of_grown (S := (fun k_ => P0_ k_)) hg (by repeat (first | (with_reducible first | exact HK.out | apply Kept.alloc | apply Kept.drewN | apply Kept.drew) | exact HK.out)) (fun k_ e_ => (HO_0.out.1 k_ e_))); have n3_ := Aside0.mk (ho); clear HO_12; clear HB; clear HK; clear HO_0; have HO_12 := n0_; have HB := n1_; have HK := n2_; have HO403 := n3_; clear n0_ n1_ n2_ n3_; clear ho hb hg hat))
       go_roundg k2
       case measure => have := HK1.out; have := HK2.out; omega
       case rel => exact ⟨(y401), (wrap64 (x9_2 + 1)), (by first | rfl | (simp; done) | (simp [*]; done)), H', ⟨by have := HK1.out; have := HK2.out; omega⟩, ⟨by (with_reducible repeat (first | apply Kd.R_alloc | apply Kd.R_drewN | apply Kd.R_drew)); exact HO403.out⟩, ⟨by (with_reducible repeat (first | apply Kd.S_alloc | apply Kd.S_drewN | apply Kd.S_drew)); exact HO_12.out⟩, ⟨HLX.out⟩, ⟨by repeat (first | (with_reducible first | exact HK.out | apply Kept.alloc | apply Kept.drewN | apply Kept.drew) | exact HK.out)⟩, ⟨bq⟩⟩
      ·rw [if_neg c11] at H
       have c11b0 : decide (x9_2 < (rd (rd_L1 t395 x14_1) 0)) = false := decide_eq_false c11
       clear c11
       have H' := Aside0.mk H
       clear H
       have p399 : 0 ≤ (0 : Int) := (by omega)
       have q399 : 0 < ((rd_L1 t395 x14_1).length : Int) := ode
       obtain ⟨ad399, e399, hx399_0⟩ := Kd.at_int HR398_0.out 0 p399 q399
       cases e399
       have qi399 : (0 < (rd_L1 t395 x14_1).length) = True := eq_true (by omega)
       (try rw [show ((0 : Int)).toNat = 0 from rfl] at hx399_0)
       (try rw [Addr.add_zero'] at hx399_0)
       try replace hx399_0 := (HB.out.cell (World.block_lt_of_cell? w _ hx399_0)).trans hx399_0
       replace p399 := eq_true p399
       replace q399 := eq_true q399
       go_wp2
       go_roundg k2
       case measure => have := HK1.out; have := HK2.out; omega
       case rel => exact ⟨(x0_2), (wrap64 (x14_1 + 1)), (by first | rfl | (simp; done) | (simp [*]; done)), H', ⟨by have := HK1.out; have := HK2.out; omega⟩, ⟨by (with_reducible repeat (first | apply Kd.R_alloc | apply Kd.R_drewN | apply Kd.R_drew)); exact HO_0.out⟩, ⟨by (with_reducible repeat (first | apply Kd.S_alloc | apply Kd.S_drewN | apply Kd.S_drew)); exact HO_12.out⟩, ⟨by repeat (first | (with_reducible first | exact HK.out | apply Kept.alloc | apply Kept.drewN | apply Kept.drew) | exact HK.out)⟩, ⟨bq⟩⟩
   ·rw [if_neg c7] at H
    have c7b0 : decide (x14_1 < (t395.length : Int)) = false := decide_eq_false c7
    clear c7
    obtain rfl := Option.some.inj H
    go_wp2
    go_ret
    exact ⟨_, eq_, by (with_reducible repeat (first | apply Kd.R_alloc | apply Kd.R_drewN | apply Kd.R_drew)); exact HO_0.out, bq, by repeat (first | (with_reducible first | exact HK.out | apply Kept.alloc | apply Kept.drewN | apply Kept.drew) | exact HK.out)⟩

/-! ### impl_sequence: function 89 -/
def impl_sequence.l0 : Nat → List Int → List Int → Int → Int → List Int → Option (List Int)
 | 0, _, _, _, _, _ => none
 | k + 1, x3, x4, x5, x6, x405000 => if x6 < (x3.length : Int) then (if 0 ≤ x6 then (if x6 < (x405000.length : Int) then (if 0 ≤ (wrap64 (x6 - 1)) then (if (wrap64 (x6 - 1)) < (x3.length : Int) then ((impl_runOf.f k x4 (wrap64 ((rd x405000 x6) - x5)) (rd x3 (wrap64 (x6 - 1)))).bind fun t417 => (impl_sequence.l0 k x3 t417 (rd x405000 x6) (wrap64 (x6 + 1)) x405000)) else (none)) else (none)) else (none)) else (none)) else (some x4)
def impl_sequence.f (k : Nat) (l0_0 : List Int) : Option (List Int) := (impl_pairsOf.f l0_0).bind fun t405 => (if t405 = 0 then (some (([1] : List Int))) else ((impl_divisors.f k l0_0).bind fun t409 => (impl_sequence.l0 k t409 (([] : List Int)) 0 1 l0_0)))
def impl_sequence.T9 : Bool × List (List Nat × List Nat) := (true, [([], []), ([], []), ([1], [1]), ([], []), ([2, 3], [2, 3]), ([4], [4]), ([], []), ([5, 6], [5, 6]), ([], []), ([], []), ([9], [9]), ([8, 10], [8, 10]), ([11], [11]), ([0, 7, 12], [0, 7, 12]), ([13, 13, 0, 1, 2, 3, 4, 5, 6, 7, 8, 9, 10, 11, 12, 13], [0, 13])])
def impl_sequence.B9 : List Nat := [0, 0, 2, 0, 14, 30, 0, 126, 0, 0, 512, 1792, 3840, 8191, 16383]
theorem impl_sequence.tab9 : rtab .any (opsOf Tryd.f89 9) = impl_sequence.T9 := by kernel_rfl
theorem impl_sequence.bits9 : waitsOk impl_sequence.T9.2 impl_sequence.B9 = true := by kernel_rfl
set_option maxHeartbeats 8000000 in
set_option maxRecDepth 100000 in
theorem impl_sequence.calls (k : Nat) (A0_0 : Option Addr) (c0_0 : Nat) (l0_0 : List Int) (r : List Int) (w : World) (hr0_0 : Kd.C (Kd.int .i64) w A0_0 l0_0.length l0_0) (hc0_0 : l0_0.length ≤ c0_0) (h : impl_sequence.f k l0_0 = some r) :
  Calls Tryd.prog 89 #[.agg #[.slice A0_0 l0_0.length c0_0]] w fun e w' => ∃ v0_ : Value, e = .returned (v0_) ∧ Kd.R (Kd.int .i64) 2 w' w.heap.size (fun _ => True) v0_ r ∧ Below w.heap.size w w' := by
 have hu74 := Tryd.underlying74
 have HR0_0 := Aside0.mk hr0_0
 have HC0_0 := Aside0.mk hc0_0
 clear hr0_0 hc0_0
 have HB := Aside0.mk (Below.refl w.heap.size w)
 have H : ((impl_pairsOf.f l0_0).bind fun t405 => (if t405 = 0 then (some (([1] : List Int))) else ((impl_divisors.f k l0_0).bind fun t409 => (impl_sequence.l0 k t409 (([] : List Int)) 0 1 l0_0)))) = some r := h
 clear h
 replace H := Option.bind_eq_some_iff.mp H
 obtain ⟨t405, A20, H⟩ := H
 replace H : (if t405 = 0 then (some (([1] : List Int))) else ((impl_divisors.f k l0_0).bind fun t409 => (impl_sequence.l0 k t409 (([] : List Int)) 0 1 l0_0))) = some r := H
 have A2 := Aside0.mk A20
 clear A20
 by_cases c3 : t405 = 0
 ·rw [if_pos c3] at H
  have c3b0 : (t405 == 0) = true := beq_iff_eq.mpr c3
  have c3b1 : (t405 != 0) = false := bne_eq_false_iff_eq.mpr c3
  clear c3
  obtain ⟨y406, hy406⟩ : ∃ y_ : List Int, y_ = (([1] : List Int)) := ⟨_, rfl⟩
  replace H : (some y406) = some r := by first | (rw [hy406]; with_reducible exact H) | (have H2_ := (Option.bind_some _ _).symm.trans H; rw [hy406]; with_reducible exact H2_) | (have H2_ := (Option.bind_some _ _).symm.trans H; with_reducible exact H2_) | with_reducible exact H | (rw [hy406]; exact H) | exact H
  have Ny406 := Aside0.mk hy406
  clear hy406
  obtain rfl := Option.some.inj H
  go_enter Tryd.func89, Tryd.ntmps89
  go_wp2_with (first | ((with_reducible refine gate_dst (N := 1) rfl ?_); refine box_event ?hg (N := 1) ?hd (cs := #[.slice A0_0 l0_0.length c0_0]) (t := 74) ?hr ?_; (case hd => rfl); (case hg => rfl); (case hr => first | (go_simp; done) | (go_simp; rfl)); intro gb404 hg w4 hbox hb; have BK404 := Aside0.mk (hbox); have GW404 := Aside0.mk ((by rw [hg]; exact (below_size bq) : w.heap.size ≤ gb404)); have GE404 := Aside0.mk ((by rw [hg]; exact (below_size bq) : w.heap.size ≤ gb404)); replace HB := Aside0.mk (below_step bq hb); clear hb hbox hg; have hcz5_0 := bc0 BK404; have hfz5_0 := blk_frozen BK404.out 0) | ((with_reducible refine gate_callee (f := 104) rfl ?_); refine gL 8 Tryd.func104 #[.agg #[.slice A0_0 l0_0.length c0_0]] ?_; (with_reducible refine (impl_pairsOf.calls _ _ l0_0 t405 _ ?side1 ?side2 A2.out).mono ?_); (case side1 => exact kc HR0_0); (case side2 => exact HC0_0.out); rintro e w6 ⟨rfl, hb⟩; refine ⟨_, rfl, ?_⟩; replace BK404 := Aside0.mk (blk_below (g := gb404) (o := .cells #[.slice A0_0 l0_0.length c0_0] 74 (0, 0)) (bk BK404) hb); replace HB := Aside0.mk (below_step bq hb); (try clear hb)) | ((with_reducible refine gate_dst (N := 10) rfl ?_); refine Kd.R_lit (Kd.int .i64) _ 2 ?hg (N := 10) ?hd (xs := ([1] : List Int)) (inner := [.int .i64 1]) (ok := fun _ => True) (okp := fun _ => True) ?hr ?hp (fun _ hk => hk) trivial (Below.refl _ _) (Nat.le_refl _) (by simp) ?_; (case hd => rfl); (case hg => rfl); (case hr => first | (go_simp; done) | (go_simp; rfl)); (case hp => exact (Reps.one (show Kd.M (Kd.int .i64) _ _ _ 1 [.int .i64 1] from rfl) (Reps.none _ _))); intro v407 w7 ho8 hb hg_ hnew_; clear hg_ hnew_; (first | rw [← Ny406.out] at ho8 | (simp only [Int.reduceToNat] at ho8; rw [← Ny406.out] at ho8)); have HO408 := Aside0.mk (Kd.R_lower ho8 (below_size bq)); replace BK404 := Aside0.mk (blk_below (g := gb404) (o := .cells #[.slice A0_0 l0_0.length c0_0] 74 (0, 0)) (bk BK404) hb); replace HB := Aside0.mk (below_step bq hb); clear hb ho8))
  go_ret
  exact ⟨_, eq_, by (with_reducible repeat (first | apply Kd.R_alloc | apply Kd.R_drewN | apply Kd.R_drew)); exact HO408.out, bq⟩
 ·rw [if_neg c3] at H
  have c3b0 : (t405 == 0) = false := beq_eq_false_iff_ne.mpr c3
  have c3b1 : (t405 != 0) = true := bne_iff_ne.mpr c3
  replace H := Option.bind_eq_some_iff.mp H
  obtain ⟨t409, A90, H⟩ := H
  replace H : (impl_sequence.l0 k t409 (([] : List Int)) 0 1 l0_0) = some r := H
  have A9 := Aside0.mk A90
  clear A90
  obtain ⟨y412, hy412⟩ : ∃ y_ : List Int, y_ = (([] : List Int)) := ⟨_, rfl⟩
  replace H : (impl_sequence.l0 k t409 y412 0 1 l0_0) = some r := by first | (rw [hy412]; with_reducible exact H) | (have H2_ := (Option.bind_some _ _).symm.trans H; rw [hy412]; with_reducible exact H2_) | (have H2_ := (Option.bind_some _ _).symm.trans H; with_reducible exact H2_) | with_reducible exact H | (rw [hy412]; exact H) | exact H
  have Ny412 := Aside0.mk hy412
  clear hy412
  have H' := Aside0.mk H
  clear H
  go_enter Tryd.func89, Tryd.ntmps89
  go_wp2_with (first | ((with_reducible refine gate_dst (N := 1) rfl ?_); refine box_event ?hg (N := 1) ?hd (cs := #[.slice A0_0 l0_0.length c0_0]) (t := 74) ?hr ?_; (case hd => rfl); (case hg => rfl); (case hr => first | (go_simp; done) | (go_simp; rfl)); intro gb404 hg w10 hbox hb; have BK404 := Aside0.mk (hbox); have GW404 := Aside0.mk ((by rw [hg]; exact (below_size bq) : w.heap.size ≤ gb404)); have GE404 := Aside0.mk ((by rw [hg]; exact (below_size bq) : w.heap.size ≤ gb404)); replace HB := Aside0.mk (below_step bq hb); clear hb hbox hg; have hcz11_0 := bc0 BK404; have hfz11_0 := blk_frozen BK404.out 0) | ((with_reducible refine gate_callee (f := 104) rfl ?_); refine gL 8 Tryd.func104 #[.agg #[.slice A0_0 l0_0.length c0_0]] ?_; (with_reducible refine (impl_pairsOf.calls _ _ l0_0 t405 _ ?side1 ?side2 A2.out).mono ?_); (case side1 => exact kc HR0_0); (case side2 => exact HC0_0.out); rintro e w12 ⟨rfl, hb⟩; refine ⟨_, rfl, ?_⟩; replace BK404 := Aside0.mk (blk_below (g := gb404) (o := .cells #[.slice A0_0 l0_0.length c0_0] 74 (0, 0)) (bk BK404) hb); replace HB := Aside0.mk (below_step bq hb); (try clear hb); have hcz13_0 := bc0 BK404; have hfz13_0 := blk_frozen BK404.out 0) | ((with_reducible refine gate_callee (f := 103) rfl ?_); refine gL 13 Tryd.func103 #[.slice A0_0 l0_0.length c0_0] ?_; (with_reducible refine (impl_divisors.calls k _ _ l0_0 t409 _ ?side1 ?side2 A9.out).mono ?_); (case side1 => exact kc HR0_0); (case side2 => exact HC0_0.out); rintro e w14 ⟨v410, rfl, ho0, hb⟩; refine ⟨_, rfl, ?_⟩; have HO411 := Aside0.mk (Kd.R_lower ho0 (below_size bq)); replace BK404 := Aside0.mk (blk_below (g := gb404) (o := .cells #[.slice A0_0 l0_0.length c0_0] 74 (0, 0)) (bk BK404) hb); replace HB := Aside0.mk (below_step bq hb); (try clear hb); (try clear ho0)) | ((with_reducible refine gate_dst (N := 14) rfl ?_); refine Kd.R_lit (Kd.int .i64) _ 2 ?hg (N := 14) ?hd (xs := ([] : List Int)) (inner := []) (ok := fun _ => True) (okp := fun _ => True) ?hr ?hp (fun _ hk => hk) trivial (Below.refl _ _) (Nat.le_refl _) (by simp) ?_; (case hd => rfl); (case hg => rfl); (case hr => first | (go_simp; done) | (go_simp; rfl)); (case hp => exact (Reps.none _ _)); intro v413 w15 ho16 hb hg_ hnew_; clear hg_ hnew_; (first | rw [← Ny412.out] at ho16 | (simp only [Int.reduceToNat] at ho16; rw [← Ny412.out] at ho16)); have HO414 := Aside0.mk (Kd.R_lower (Kd.R_new' ho16 (Kd.R_lt (by (with_reducible repeat (first | apply Kd.R_alloc | apply Kd.R_drewN | apply Kd.R_drew)); exact HO411.out))) (below_size bq)); replace HO411 := Aside0.mk (Kd.R_elder' (by (with_reducible repeat (first | apply Kd.R_alloc | apply Kd.R_drewN | apply Kd.R_drew)); exact HO411.out) (Kd.R_base ho16) hb); replace BK404 := Aside0.mk (blk_below (g := gb404) (o := .cells #[.slice A0_0 l0_0.length c0_0] 74 (0, 0)) (bk BK404) hb); replace HB := Aside0.mk (below_step bq hb); clear hb ho16))
  go_loopg [4, 5, 6] k (fun kq v4 v5 v6 w' => ∃ (x4_1 : List Int) (x5_1 : Int) (x6_1 : Int), v5 = .int .i64 x5_1 ∧ v6 = .int .i64 x6_1 ∧ Aside0 (impl_sequence.l0 kq t409 x4_1 x5_1 x6_1 l0_0 = some r) ∧ Aside0 (kq ≤ k) ∧ Aside0 (Kd.R (Kd.int .i64) 2 w' w.heap.size (fun k_ => some k_ ≠ (v4 : Value).ownBlock) v410 t409) ∧ Aside0 (Kd.R (Kd.int .i64) 2 w' w.heap.size (fun k_ => some k_ ≠ (v410 : Value).ownBlock) v4 x4_1) ∧ Aside0 (w'.heap[gb404]? = some (.cells #[(.slice A0_0 l0_0.length c0_0)] 74 (0, 0))) ∧ Aside0 (Below w.heap.size w w'))
  case atStart => exact ⟨(y412), (0), (1), (by first | rfl | (simp; done) | (simp [*]; done)), (by first | rfl | (simp; done) | (simp [*]; done)), H', ⟨Nat.le_refl _⟩, ⟨by (with_reducible repeat (first | apply Kd.R_alloc | apply Kd.R_drewN | apply Kd.R_drew)); exact Kd.R_mono HO411.out (fun _ hk => hk.2)⟩, ⟨by (with_reducible repeat (first | apply Kd.R_alloc | apply Kd.R_drewN | apply Kd.R_drew)); exact Kd.R_mono HO414.out (fun _ hk => hk.2)⟩, ⟨bk BK404⟩, ⟨bq⟩⟩
  case round =>
   clear H'
   try clear c1
   try clear p2
   try clear c3
   try clear c3b0
   try clear c3b1
   try clear c8
   try clear c10
   try clear hcz11_0
   try clear hcz13_0
   try clear hcz5_0
   try clear hfz11_0
   try clear hfz13_0
   try clear hfz5_0
   obtain ⟨x4_1, x5_1, x6_1, rfl, rfl, HA, HK1, HO_3, HO_4, BK404, HB⟩ := hrel
   cases gk with
   | zero => exact absurd HA.out (by simp [impl_sequence.l0])
   | succ k1 =>
    have H := HA.out
    clear HA
    simp only [impl_sequence.l0] at H
    by_cases c17 : x6_1 < (t409.length : Int)
    ·rw [if_pos c17] at H
     have c17b0 : decide (x6_1 < (t409.length : Int)) = true := decide_eq_true c17
     clear c17
     revert H
     refine ifr fun c18 H => ?_
     have c18b0 : decide (0 ≤ x6_1) = true := decide_eq_true c18
     clear c18
     revert H
     refine ifr fun c19 H => ?_
     have c19b0 : decide (x6_1 < (l0_0.length : Int)) = true := decide_eq_true c19
     clear c19
     obtain ⟨ji20, hji20⟩ : ∃ j_ : Int, (wrap64 (x6_1 - 1)) = j_ := ⟨_, rfl⟩
     replace H : (if 0 ≤ (ji20) then (if (ji20) < (t409.length : Int) then ((impl_runOf.f k1 x4_1 (wrap64 ((rd l0_0 x6_1) - x5_1)) (rd t409 (ji20))).bind fun t417 => (impl_sequence.l0 k1 t409 t417 (rd l0_0 x6_1) (wrap64 (x6_1 + 1)) l0_0)) else (none)) else (none)) = some r := by first | (rw [hji20] at H; exact H) | (simp only [hji20] at H ⊢; exact H)
     have hji20w : (IntKind.i64.wrap (x6_1 - 1)) = ji20 := (i64_w _).trans hji20
     revert H
     refine ifr fun c21 H => ?_
     have c21b0 : decide (0 ≤ (ji20)) = true := decide_eq_true c21
     clear c21
     revert H
     refine ifr fun c22 H => ?_
     have c22b0 : decide ((ji20) < (t409.length : Int)) = true := decide_eq_true c22
     clear c22
     replace H := Option.bind_eq_some_iff.mp H
     obtain ⟨t417, A230, H⟩ := H
     replace H : (impl_sequence.l0 k1 t409 t417 (rd l0_0 x6_1) (wrap64 (x6_1 + 1)) l0_0) = some r := H
     have A23 := Aside0.mk A230
     clear A230
     have H' := Aside0.mk H
     clear H
     obtain ⟨Ao24, co24, eo24⟩ := Kd.R_slice HO_3.out
     subst eo24
     try go_wp2
     have n0_ := Aside0.mk (Kd.R_drew HO_3.out)
     have n1_ := Aside0.mk (Kd.R_drew HO_4.out)
     have n2_ := Aside0.mk (blk_drew BK404.out)
     have n3_ := Aside0.mk (below_drew1 HB.out)
     clear HO_3
     clear HO_4
     clear BK404
     clear HB
     have HO_3 := n0_
     have HO_4 := n1_
     have BK404 := n2_
     have HB := n3_
     clear n0_ n1_ n2_ n3_
     have p415 : 0 ≤ (x6_1 : Int) := ode
     have q415 : x6_1 < (l0_0.length : Int) := ode
     obtain ⟨ad415, e415, hx415_0⟩ := Kd.at_int HR0_0.out x6_1 p415 q415
     have hw415_0 := hx415_0
     cases e415
     try replace hx415_0 := (HB.out.cell (World.block_lt_of_cell? w _ hx415_0)).trans hx415_0
     replace p415 := eq_true p415
     replace q415 := eq_true q415
     have p416 : 0 ≤ ((ji20) : Int) := ode
     have q416 : (ji20) < (t409.length : Int) := ode
     obtain ⟨ad416, e416, hx416_0⟩ := Kd.at_int (Kd.R_reads' HO_3.out).2.2 (ji20) p416 q416
     cases e416
     replace p416 := eq_true p416
     replace q416 := eq_true q416
     obtain ⟨Ao26, co26, eo26⟩ := Kd.R_slice HO_4.out
     (first | subst eo26 | (injection eo26 with f1_ f2_ f3_; have f4_ := f1_.symm; have f5_ := f3_.symm; clear f1_ f2_ f3_; subst f4_; subst f5_))
     refine start_ (n := 15) (S := fun w' => w'.cell? ⟨gb404, 0, none⟩ = some (.slice (some ad415) l0_0.length c0_0) ∧ w'.cell? (ad415.add (x6_1).toNat) = some (.int .i64 (rd l0_0 x6_1)) ∧ w'.cell? (ad416.add ((ji20)).toNat) = some (.int .i64 (rd t409 (ji20)))) (ds := []) (bA 15 0) (by kernel_rfl) rfl (by kernel_rfl) ⟨(blk_cell BK404.out 0).trans rfl, ((HB.out.cell (World.block_lt_of_cell? w _ hw415_0)).trans hw415_0), hx416_0⟩ (fun hHeld => ?_); refine with_tabW impl_sequence.tab9 impl_sequence.bits9 (fun HT_ HW_ => ?_)
     generalize wr.drew = w25 at HO_3 HO_4 BK404 HB hx415_0 hx416_0 hHeld ⊢
     refine pu HT_ 0 21 1 ?_
     refine pu HT_ 1 22 3 ?_
     refine pu HT_ 3 24 11 ?_
     refine pu HT_ 6 27 75 ?_
     refine pu HT_ 8 29 331 ?_
     refine pu HT_ 9 30 843 ?_
     refine pu HT_ 10 31 1867 ?_
     refine pu HT_ 11 32 3915 ?_
     refine tk3 HT_ HW_ hHeld 2 23 3919 ?_
     refine pu HT_ 4 25 3935 ?_
     refine tk3 HT_ HW_ hHeld 5 26 3967 ?_
     refine pu HT_ 7 28 4095 ?_
     refine tk3 HT_ HW_ hHeld 12 33 8191 ?_
     refine one_ (i := 13) (N := some 34) (bA 15 16383) rfl rfl (one_of HT_.out (by kernel_rfl)) (by decide) (fun K hK => ?_)
     refine goes_ Tryd.func105 (by kernel_rfl) rfl #[.slice Ao26 x4_1.length co26, .int .i64 (wrap64 ((rd l0_0 x6_1) - x5_1)), .int .i64 (rd t409 (ji20))] (by rfl) rfl rfl (by (try simp only [List.map_toArray, List.map_cons, List.map_nil]); first | done | (simp only [hji20]; rfl) | rfl | (simp only [List.length_drop, List.length_take]; rfl)) ?_
     with_reducible refine (impl_runOf.calls k1 (fun k_ => some k_ = (.slice Ao26 x4_1.length co26 : Value).ownBlock) (.slice Ao26 x4_1.length co26) x4_1 (wrap64 ((rd l0_0 x6_1) - x5_1)) (rd t409 (ji20)) t417 w _ ?side1 ?side2 A23.out).mono ?_
     (case side1 => repeat (first | (with_reducible first | exact HB.out | apply below_alloc | apply pw_below_drewN | apply below_drew1 | refine below_set ?_ GE404.out) | exact HB.out))
     (case side2 => exact Kd.R_tight rfl HO_4.out)
     rintro e w27 ⟨v418, rfl, ho0, hb, hkp⟩
     have HS2_ := cell_kept (hHeld.2.2) hkp (by first | (rw [add_block]; exact (fun hs_ => (((HO_3.out).1 _ rfl)) hs_)) | (show ¬ _; simp only [add_block]; exact (fun hs_ => (((HO_3.out).1 _ rfl)) hs_)) | exact (fun hs_ => (((HO_3.out).1 _ rfl)) hs_))
     refine ⟨_, rfl, ?_⟩
     have n0_ := Aside0.mk (Kd.R_mono (ok' := fun k_ => some k_ ≠ (v418 : Value).ownBlock) (Kd.R_keptB (HO_3.out) hkp (fun k_ hk_ hs_ => (hk_) hs_)) (fun k_ hk_ => fun e_ => Or.elim (ho0.1 k_ e_.symm) (fun hs_ => hk_.2.1 hs_) (fun hn_ => Nat.not_le.2 hk_.2.2 hn_)))
     have n1_ := Aside0.mk (blk_kept (bk BK404) hkp (fun hs_ => (fun e_ => (Kd.R_ne HO_4.out BK404.out (by decide)) e_) hs_))
     have n2_ := Aside0.mk (Kd.R_mono (ok' := fun k_ => some k_ ≠ (.slice (some ad416) t409.length co24 : Value).ownBlock) ho0 (fun k_ hk_ => Or.elim hk_ (fun hs_ => fun e_ => (((HO_3.out).1 k_ e_.symm)) hs_) (fun hn_ => (Kd.fresh' (Kd.R_lt (by (with_reducible repeat (first | apply Kd.R_alloc | apply Kd.R_drewN | apply Kd.R_drew)); exact HO_3.out)) k_ hn_))))
     have n3_ := Aside0.mk (hb)
     clear HO_3
     clear BK404
     clear HB
     clear HO_4
     have HO_3 := n0_
     have BK404 := n1_
     have HO419 := n2_
     have HB := n3_
     clear n0_ n1_ n2_ n3_
     
     (try clear hkp)
     (try clear ho0)
     refine hK.out _ _ ⟨(blk_cell BK404.out 0).trans rfl, ((HB.out.cell (World.block_lt_of_cell? w _ hw415_0)).trans hw415_0), HS2_⟩ (fun hHeld => ?_)
     clear hK K
     refine norm_ (a' := ?_) ?_ ?_
     rotate_left
     ·show Act.put _ (some 34) _ = _
      simp only [Act.put, List.setIfInBounds_toArray, List.set_cons_zero, List.set_cons_succ, i64_w, i32_w]
      rfl
     refine pu HT_ 14 4 32767 ?_
     refine done_ (done_of HT_.out (by kernel_rfl)) ?_
     have hcz28_0 := bc0 BK404
     have hfz28_0 := blk_frozen BK404.out 0
     have p420 : 0 ≤ (x6_1 : Int) := ode
     have q420 : x6_1 < (l0_0.length : Int) := ode
     obtain ⟨ad420, e420, hx420_0⟩ := Kd.at_int HR0_0.out x6_1 p420 q420
     obtain rfl : ad415 = ad420 := (by injection e420)
     try replace hx420_0 := (HB.out.cell (World.block_lt_of_cell? w _ hx420_0)).trans hx420_0
     replace p420 := eq_true p420
     replace q420 := eq_true q420
     try go_wp2
     go_roundg k1
     case measure => have := HK1.out; omega
     case rel => exact ⟨(t417), (rd l0_0 x6_1), (wrap64 (x6_1 + 1)), (by first | rfl | (simp; done) | (simp [*]; done)), (by first | rfl | (simp; done) | (simp [*]; done)), H', ⟨by have := HK1.out; omega⟩, ⟨by (with_reducible repeat (first | apply Kd.R_alloc | apply Kd.R_drewN | apply Kd.R_drew)); exact HO_3.out⟩, ⟨by (with_reducible repeat (first | apply Kd.R_alloc | apply Kd.R_drewN | apply Kd.R_drew)); exact HO419.out⟩, ⟨bk BK404⟩, ⟨bq⟩⟩
    ·rw [if_neg c17] at H
     have c17b0 : decide (x6_1 < (t409.length : Int)) = false := decide_eq_false c17
     clear c17
     obtain rfl := Option.some.inj H
     obtain ⟨Ao29, co29, eo29⟩ := Kd.R_slice HO_3.out
     subst eo29
     go_wp2
     go_ret
     exact ⟨_, eq_, by (with_reducible repeat (first | apply Kd.R_alloc | apply Kd.R_drewN | apply Kd.R_drew)); exact Kd.R_mono HO_4.out (fun _ hk => trivial), bq⟩

/-! ### impl_firstOf: function 86 -/
def impl_firstOf.l0 : Nat → Int → List Int → Option (List Int)
 | 0, _, _ => none
 | k + 1, x1, x5 => if (x5.length : Int) < x1 then (if x5.length < 17592186044416 then (impl_firstOf.l0 k x1 (x5 ++ [1])) else (none)) else (if 0 ≤ x1 then (if x1 ≤ (x5.length : Int) then (some (x5.take (x1 : Int).toNat)) else (none)) else (none))
def impl_firstOf.f (k : Nat) (l0_0 : List Int) (a1 : Int) : Option (List Int) := (impl_sequence.f k l0_0).bind fun t422 => (impl_firstOf.l0 k a1 t422)
set_option maxHeartbeats 8000000 in
set_option maxRecDepth 100000 in
theorem impl_firstOf.calls (k : Nat) (A0_0 : Option Addr) (c0_0 : Nat) (l0_0 : List Int) (a1 : Int) (r : List Int) (w : World) (hr0_0 : Kd.C (Kd.int .i64) w A0_0 l0_0.length l0_0) (hc0_0 : l0_0.length ≤ c0_0) (h : impl_firstOf.f k l0_0 a1 = some r) :
  Calls Tryd.prog 86 #[.agg #[.slice A0_0 l0_0.length c0_0], .int .i64 a1] w fun e w' => ∃ v0_ : Value, e = .returned (v0_) ∧ Kd.V (Kd.int .i64) 2 w' w.heap.size (fun k_ => (w.heap.size ≤ k_)) v0_ r ∧ Below w.heap.size w w' := by
 have hu74 := Tryd.underlying74
 have HR0_0 := Aside0.mk hr0_0
 have HC0_0 := Aside0.mk hc0_0
 clear hr0_0 hc0_0
 have HB := Aside0.mk (Below.refl w.heap.size w)
 have H : ((impl_sequence.f k l0_0).bind fun t422 => (impl_firstOf.l0 k a1 t422)) = some r := h
 clear h
 replace H := Option.bind_eq_some_iff.mp H
 obtain ⟨t422, A30, H⟩ := H
 replace H : (impl_firstOf.l0 k a1 t422) = some r := H
 have A3 := Aside0.mk A30
 clear A30
 have H' := Aside0.mk H
 clear H
 go_enter Tryd.func86, Tryd.ntmps86
 go_wp2_with (first | ((with_reducible refine gate_dst (N := 2) rfl ?_); refine box_event ?hg (N := 2) ?hd (cs := #[.slice A0_0 l0_0.length c0_0]) (t := 74) ?hr ?_; (case hd => rfl); (case hg => rfl); (case hr => first | (go_simp; done) | (go_simp; rfl)); intro gb421 hg w4 hbox hb; have BK421 := Aside0.mk (hbox); have GW421 := Aside0.mk ((by rw [hg]; exact (below_size bq) : w.heap.size ≤ gb421)); have GE421 := Aside0.mk ((by rw [hg]; exact (below_size bq) : w.heap.size ≤ gb421)); replace HB := Aside0.mk (below_step bq hb); clear hb hbox hg; have hcz5_0 := bc0 BK421; have hfz5_0 := blk_frozen BK421.out 0) | ((with_reducible refine gate_callee (f := 89) rfl ?_); refine gL 7 Tryd.func89 #[.agg #[.slice A0_0 l0_0.length c0_0]] ?_; (with_reducible refine (impl_sequence.calls k _ _ l0_0 t422 _ ?side1 ?side2 A3.out).mono ?_); (case side1 => exact kc HR0_0); (case side2 => exact HC0_0.out); rintro e w6 ⟨v423, rfl, ho0, hb⟩; refine ⟨_, rfl, ?_⟩; have HO424 := Aside0.mk (Kd.R_lower (Kd.R_newM (M := fun k_ => (w.heap.size ≤ k_)) ho0 (below_size bq) (fun k_ h_ => h_)) (below_size bq)); replace BK421 := Aside0.mk (blk_below (g := gb421) (o := .cells #[.slice A0_0 l0_0.length c0_0] 74 (0, 0)) (bk BK421) hb); replace HB := Aside0.mk (below_step bq hb); (try clear hb); (try clear ho0)))
 go_loopg [5] k (fun kq v5 w' => ∃ (x5_1 : List Int), Aside0 (impl_firstOf.l0 kq a1 x5_1 = some r) ∧ Aside0 (kq ≤ k) ∧ Aside0 (Kd.R (Kd.int .i64) 2 w' w.heap.size (fun k_ => (w.heap.size ≤ k_)) v5 x5_1) ∧ Aside0 (w'.heap[gb421]? = some (.cells #[(.slice A0_0 l0_0.length c0_0)] 74 (0, 0))) ∧ Aside0 (Below w.heap.size w w'))
 case atStart => exact ⟨(t422), H', ⟨Nat.le_refl _⟩, ⟨by (with_reducible repeat (first | apply Kd.R_alloc | apply Kd.R_drewN | apply Kd.R_drew)); exact Kd.R_mono HO424.out (fun _ hk => hk.1)⟩, ⟨bk BK421⟩, ⟨bq⟩⟩
 case round =>
  clear H'
  try clear p2
  try clear hcz5_0
  try clear hfz5_0
  obtain ⟨x5_1, HA, HK1, HO_5, BK421, HB⟩ := hrel
  cases gk with
  | zero => exact absurd HA.out (by simp [impl_firstOf.l0])
  | succ k1 =>
   have H := HA.out
   clear HA
   simp only [impl_firstOf.l0] at H
   by_cases c7 : (x5_1.length : Int) < a1
   ·rw [if_pos c7] at H
    have c7b0 : decide ((x5_1.length : Int) < a1) = true := decide_eq_true c7
    clear c7
    revert H
    refine ifr fun c8 H => ?_
    have LMc8 := Aside0.mk c8
    clear c8
    obtain ⟨y425, hy425⟩ : ∃ y_ : List Int, y_ = (x5_1 ++ [1]) := ⟨_, rfl⟩
    replace H : (impl_firstOf.l0 k1 a1 y425) = some r := by first | (rw [hy425]; with_reducible exact H) | (have H2_ := (Option.bind_some _ _).symm.trans H; rw [hy425]; with_reducible exact H2_) | (have H2_ := (Option.bind_some _ _).symm.trans H; with_reducible exact H2_) | with_reducible exact H | (rw [hy425]; exact H) | exact H
    have Ny425 := Aside0.mk hy425
    clear hy425
    have H' := Aside0.mk H
    clear H
    obtain ⟨Ao9, co9, eo9⟩ := Kd.R_slice HO_5.out
    subst eo9
    go_wp2_with (first | ((with_reducible refine gate_builtin (b := .append) (xs := #[.tmp 12, .tmp 13]) rfl ?_); at_builtin; refine Kd.R_append (Kd.int .i64) (w0 := w) w.heap.size rfl (.tmp 12) (.tmp 13) 35 2 (.int .i64 0) 8 rfl Tryd.underlying35 info2 rfl (by decide) (by omega) (.slice Ao9 x5_1.length co9) x5_1 1 [.int .i64 1] (fun k_ => (w.heap.size ≤ k_)) (fun _ => False) rfl rfl ?aP (fun _ hk => hk.elim) ?aF ?aO ?aB ?aS ?aL ?_; (case aP => exact rfl); (case aB => exact bq); (case aF => exact (fun k_ hk => (Nat.le_trans (below_size bq) hk))); (case aO => exact (by (with_reducible repeat (first | apply Kd.R_alloc | apply Kd.R_drewN | apply Kd.R_drew)); exact HO_5.out)); (case aS => exact (below_size bq)); (case aL => have := LMc8.out; omega); intro v426 w10 ho hb hg hat; rw [← Ny425.out] at ho; have n0_ := Aside0.mk (blk_grown (g := gb421) (o := .cells #[.slice A0_0 l0_0.length c0_0] 74 (0, 0)) (bk BK421) hg (Kd.R_ne HO_5.out BK421.out (by decide))); have n1_ := Aside0.mk (hb); have n2_ := Aside0.mk (ho); clear BK421; clear HB; clear HO_5; have BK421 := n0_; have HB := n1_; have HO427 := n2_; clear n0_ n1_ n2_; clear ho hb hg hat))
    go_roundg k1
    case measure => have := HK1.out; omega
    case rel => exact ⟨(y425), H', ⟨by have := HK1.out; omega⟩, ⟨by (with_reducible repeat (first | apply Kd.R_alloc | apply Kd.R_drewN | apply Kd.R_drew)); exact HO427.out⟩, ⟨bk BK421⟩, ⟨bq⟩⟩
   ·rw [if_neg c7] at H
    have c7b0 : decide ((x5_1.length : Int) < a1) = false := decide_eq_false c7
    clear c7
    by_cases c11 : 0 ≤ a1
    ·rw [if_pos c11] at H
     have c11b0 := eq_true c11
     have c11b1 : decide (0 ≤ a1) = true := decide_eq_true c11
     clear c11
     revert H
     refine ifr fun c12 H => ?_
     have c12b0 := eq_true c12
     have c12b1 : decide (a1 ≤ (x5_1.length : Int)) = true := decide_eq_true c12
     clear c12
     obtain ⟨y428, hy428⟩ : ∃ y_ : List Int, y_ = (x5_1.take (a1 : Int).toNat) := ⟨_, rfl⟩
     replace H : (some y428) = some r := by first | (rw [hy428]; with_reducible exact H) | (have H2_ := (Option.bind_some _ _).symm.trans H; rw [hy428]; with_reducible exact H2_) | (have H2_ := (Option.bind_some _ _).symm.trans H; with_reducible exact H2_) | with_reducible exact H | (rw [hy428]; exact H) | exact H
     have Ny428 := Aside0.mk hy428
     clear hy428
     obtain rfl := Option.some.inj H
     obtain ⟨Ao13, co13, eo13⟩ := Kd.R_slice HO_5.out
     subst eo13
     have q14 : (a1 : Int) ≤ ((x5_1.length : Int) : Int) := ode
     obtain ⟨i014, hi014, _, hsz14, _⟩ := info_parts info2
     have hroom14 : x5_1.length ≤ co13 := (Kd.R_reads' HO_5.out).2.1
     have hC14 : Kd.F (Kd.int .i64) _ _ Ao13 x5_1.length x5_1 := (Kd.V_at (base := w.heap.size) (Kd.R_V (Kd.R_types (HO_5.out) BK421.out (by decide)))).2.2
     have hcut14 := cut_tom (P := Tryd.prog) 35 2 .i64 Tryd.underlying35 hi014 Ao13 x5_1.length co13 a1 (ode) q14 hroom14
     have hr14 := Kd.F_take (m := (a1 : Int).toNat) hC14 (by omega)
     have hy14 : y428.length = (a1 : Int).toNat := (by rw [Ny428.out, List.length_take]; omega)
     rw [← Ny428.out] at hr14
     rw [← hy14] at hcut14
     have HO432 := Aside0.mk (show Kd.V (Kd.int .i64) 2 _ w.heap.size _ (.slice Ao13 y428.length y428.length) y428 from Kd.V_mk (by omega) hr14)
     have HC432 := Aside0.mk (show y428.length ≤ y428.length from by omega)
     clear hr14 hC14 hroom14 hi014 hsz14
     have KY14 := Aside0.mk hy14
     clear hy14
     replace q14 := eq_true q14
     go_wp2
     go_ret
     exact ⟨_, eq_, by (with_reducible repeat (first | apply Kd.V_alloc | apply Kd.V_drewN | apply Kd.V_drew)); exact Kd.V_mono HO432.out (fun _ hk => hk.1), bq⟩
    ·rw [if_neg c11] at H
     exact absurd H (by simp)

/-! ### impl_proximatesOf: function 54 -/
def impl_proximatesOf.f (k : Nat) (l0_0 : List Int) (a1 : Int) : Option ((List (List Int))) := (impl_firstOf.f k l0_0 a1).bind fun t434 => ((impl_proximates.f k t434).bind fun t437 => (some t437))
set_option maxHeartbeats 8000000 in
set_option maxRecDepth 100000 in
theorem impl_proximatesOf.calls (k : Nat) (A0_0 : Option Addr) (c0_0 : Nat) (l0_0 : List Int) (a1 : Int) (r : List (List Int)) (w : World) (hr0_0 : Kd.C (Kd.int .i64) w A0_0 l0_0.length l0_0) (hc0_0 : l0_0.length ≤ c0_0) (h : impl_proximatesOf.f k l0_0 a1 = some r) :
  Calls Tryd.prog 54 #[.agg #[.slice A0_0 l0_0.length c0_0], .int .i64 a1] w fun e w' => ∃ v0_ : Value, e = .returned (v0_) ∧ Kd.S (Kd.slice 2 (Kd.int .i64)) 35 w' w.heap.size (fun _ => True) v0_ r ∧ Below w.heap.size w w' := by
 have hu74 := Tryd.underlying74
 have HR0_0 := Aside0.mk hr0_0
 have HC0_0 := Aside0.mk hc0_0
 clear hr0_0 hc0_0
 have HB := Aside0.mk (Below.refl w.heap.size w)
 have H : ((impl_firstOf.f k l0_0 a1).bind fun t434 => ((impl_proximates.f k t434).bind fun t437 => (some t437))) = some r := h
 clear h
 replace H := Option.bind_eq_some_iff.mp H
 obtain ⟨t434, A30, H⟩ := H
 replace H : ((impl_proximates.f k t434).bind fun t437 => (some t437)) = some r := H
 have A3 := Aside0.mk A30
 clear A30
 replace H := Option.bind_eq_some_iff.mp H
 obtain ⟨t437, A40, H⟩ := H
 replace H : (some t437) = some r := H
 have A4 := Aside0.mk A40
 clear A40
 obtain rfl := Option.some.inj H
 go_enter Tryd.func54, Tryd.ntmps54
 go_wp2_with (first | ((with_reducible refine gate_dst (N := 2) rfl ?_); refine box_event ?hg (N := 2) ?hd (cs := #[.slice A0_0 l0_0.length c0_0]) (t := 74) ?hr ?_; (case hd => rfl); (case hg => rfl); (case hr => first | (go_simp; done) | (go_simp; rfl)); intro gb433 hg w5 hbox hb; have BK433 := Aside0.mk (hbox); have GW433 := Aside0.mk ((by rw [hg]; exact (below_size bq) : w.heap.size ≤ gb433)); have GE433 := Aside0.mk ((by rw [hg]; exact (below_size bq) : w.heap.size ≤ gb433)); replace HB := Aside0.mk (below_step bq hb); clear hb hbox hg; have hcz6_0 := bc0 BK433; have hfz6_0 := blk_frozen BK433.out 0) | ((with_reducible refine gate_callee (f := 86) rfl ?_); refine gL 7 Tryd.func86 #[.agg #[.slice A0_0 l0_0.length c0_0], .int .i64 a1] ?_; (with_reducible refine (impl_firstOf.calls k _ _ l0_0 a1 t434 _ ?side1 ?side2 A3.out).mono ?_); (case side1 => exact kc HR0_0); (case side2 => exact HC0_0.out); rintro e w7 ⟨v435, rfl, ho0, hb⟩; refine ⟨_, rfl, ?_⟩; have HO436 := Aside0.mk (Kd.V_lower (Kd.V_mono (ok' := fun k_ => k_ ≠ gb433) ho0 (fun k_ hk_ => (Kd.freshB (g := gb433) (o := .cells #[.slice A0_0 l0_0.length c0_0] 74 (0, 0)) (bk BK433) k_ hk_))) (below_size bq)); replace BK433 := Aside0.mk (blk_below (g := gb433) (o := .cells #[.slice A0_0 l0_0.length c0_0] 74 (0, 0)) (bk BK433) hb); replace HB := Aside0.mk (below_step bq hb); (try clear hb); (try clear ho0); obtain ⟨Ao8, co8, eo8⟩ := Kd.V_slice HO436.out; subst eo8) | ((with_reducible refine gate_callee (f := 85) rfl ?_); refine gL 8 Tryd.func85 #[.slice Ao8 t434.length co8] ?_; (with_reducible refine (impl_proximates.calls k _ _ t434 t437 _ ?side1 ?side2 A4.out).mono ?_); (case side1 => repeat (first | exact (Kd.V_reads' HO436.out).2.2 | (with_reducible refine Kd.C_alloc ?_ _) | (with_reducible refine Kd.C_drewN ?_ _) | (with_reducible refine Kd.C_drew ?_))); (case side2 => exact (Kd.V_reads' HO436.out).2.1); rintro e w9 ⟨v438, rfl, ho0, hb⟩; refine ⟨_, rfl, ?_⟩; replace HO436 := Aside0.mk (Kd.V_elder' (by (with_reducible repeat (first | apply Kd.V_alloc | apply Kd.V_drewN | apply Kd.V_drew)); exact HO436.out) (Kd.S_base ho0) hb); have HO439 := Aside0.mk (Kd.S_lower ho0 (below_size bq)); replace BK433 := Aside0.mk (blk_below (g := gb433) (o := .cells #[.slice A0_0 l0_0.length c0_0] 74 (0, 0)) (bk BK433) hb); replace HB := Aside0.mk (below_step bq hb); (try clear hb); (try clear ho0)))
 go_ret
 exact ⟨_, eq_, by (with_reducible repeat (first | apply Kd.S_alloc | apply Kd.S_drewN | apply Kd.S_drew)); exact HO439.out, bq⟩

/-! ### slices_Equal_int64_int64: function 87 -/
def slices_Equal_int64_int64.l0 : Nat → List Int → List Int → Int → Int → Option (Bool)
 | 0, _, _, _, _ => none
 | k + 1, x0, x1, x12, x13 => if x13 < x12 then (if 0 ≤ x13 then (if x13 < (x0.length : Int) then (if x13 < (x1.length : Int) then (if (rd x0 x13) = (rd x1 x13) then (slices_Equal_int64_int64.l0 k x0 x1 x12 (wrap64 (x13 + 1))) else (some false)) else (none)) else (none)) else (none)) else (some true)
def slices_Equal_int64_int64.f (k : Nat) (l0 : List Int) (l1 : List Int) : Option (Bool) := if (l0.length : Int) = (l1.length : Int) then (slices_Equal_int64_int64.l0 k l0 l1 (l0.length : Int) 0) else (some false)
set_option maxHeartbeats 8000000 in
set_option maxRecDepth 100000 in
theorem slices_Equal_int64_int64.calls (k : Nat) (A0 : Option Addr) (c0 : Nat) (l0 : List Int) (A1 : Option Addr) (c1 : Nat) (l1 : List Int) (r : Bool) (w : World) (hr0 : Kd.C (Kd.int .i64) w A0 l0.length l0) (hc0 : l0.length ≤ c0) (hr1 : Kd.C (Kd.int .i64) w A1 l1.length l1) (hc1 : l1.length ≤ c1) (h : slices_Equal_int64_int64.f k l0 l1 = some r) :
  Calls Tryd.prog 87 #[.slice A0 l0.length c0, .slice A1 l1.length c1] w fun e w' => e = .returned (.bool r) ∧ Drawn0 w w' := by
 have HR0 := Aside0.mk hr0
 have HC0 := Aside0.mk hc0
 clear hr0 hc0
 have HR1 := Aside0.mk hr1
 have HC1 := Aside0.mk hc1
 clear hr1 hc1
 have H : (if (l0.length : Int) = (l1.length : Int) then (slices_Equal_int64_int64.l0 k l0 l1 (l0.length : Int) 0) else (some false)) = some r := h
 clear h
 by_cases c3 : (l0.length : Int) = (l1.length : Int)
 ·rw [if_pos c3] at H
  have c3b0 : ((l0.length : Int) == (l1.length : Int)) = true := beq_iff_eq.mpr c3
  have c3b1 : ((l0.length : Int) != (l1.length : Int)) = false := bne_eq_false_iff_eq.mpr c3
  have c3b2 : (l0.length == l1.length) = true := by first | simpa using c3 | (simp at c3 ⊢; omega)
  clear c3
  have H' := Aside0.mk H
  clear H
  go_enter Tryd.func87, Tryd.ntmps87
  go_wp2
  repeat (go_quiet (fail); try go_wp2)
  go_loopg [13] k (fun kq v13 w' => ∃ (x13_1 : Int), v13 = .int .i64 x13_1 ∧ Aside0 (slices_Equal_int64_int64.l0 kq l0 l1 (l0.length : Int) x13_1 = some r) ∧ Aside0 (kq ≤ k) ∧ Drawn0 w w')
  case atStart => exact ⟨(0), (by first | rfl | (simp; done) | (simp [*]; done)), H', ⟨Nat.le_refl _⟩, by repeat (first | exact Drawn0.refl _ | apply Drawn0.step)⟩
  case round =>
   clear H'
   try clear c1
   try clear p2
   try clear c3
   try clear c3b0
   try clear c3b1
   try clear c3b2
   obtain ⟨x13_1, rfl, HA, HK1, ⟨m1, rfl⟩⟩ := hrel
   cases gk with
   | zero => exact absurd HA.out (by simp [slices_Equal_int64_int64.l0])
   | succ k1 =>
    have H := HA.out
    clear HA
    simp only [slices_Equal_int64_int64.l0] at H
    by_cases c4 : x13_1 < (l0.length : Int)
    ·rw [if_pos c4] at H
     have c4b0 : decide (x13_1 < (l0.length : Int)) = true := decide_eq_true c4
     clear c4
     revert H
     refine ifr fun c5 H => ?_
     have c5b0 : decide (0 ≤ x13_1) = true := decide_eq_true c5
     clear c5
     revert H
     refine ifr fun c6 H => ?_
     have c6b0 : decide (x13_1 < (l0.length : Int)) = true := decide_eq_true c6
     clear c6
     revert H
     refine ifr fun c7 H => ?_
     have c7b0 : decide (x13_1 < (l1.length : Int)) = true := decide_eq_true c7
     clear c7
     by_cases c8 : (rd l0 x13_1) = (rd l1 x13_1)
     ·rw [if_pos c8] at H
      have c8b0 : ((rd l0 x13_1) == (rd l1 x13_1)) = true := beq_iff_eq.mpr c8
      have c8b1 : ((rd l0 x13_1) != (rd l1 x13_1)) = false := bne_eq_false_iff_eq.mpr c8
      clear c8
      have H' := Aside0.mk H
      clear H
      have p440 : 0 ≤ (x13_1 : Int) := ode
      have q440 : x13_1 < (l0.length : Int) := ode
      obtain ⟨ad440, e440, hx440_0⟩ := Kd.at_int HR0.out x13_1 p440 q440
      cases e440
      replace p440 := eq_true p440
      replace q440 := eq_true q440
      have p441 : 0 ≤ (x13_1 : Int) := ode
      have q441 : x13_1 < (l1.length : Int) := ode
      obtain ⟨ad441, e441, hx441_0⟩ := Kd.at_int HR1.out x13_1 p441 q441
      cases e441
      replace p441 := eq_true p441
      replace q441 := eq_true q441
      go_wp2
      repeat (go_quiet (fail); try go_wp2)
      go_roundg k1
      case measure => have := HK1.out; omega
      case rel => exact ⟨(wrap64 (x13_1 + 1)), (by first | rfl | (simp; done) | (simp [*]; done)), H', ⟨by have := HK1.out; omega⟩, by repeat (first | exact Drawn0.refl _ | apply Drawn0.step)⟩
     ·rw [if_neg c8] at H
      have c8b0 : ((rd l0 x13_1) == (rd l1 x13_1)) = false := beq_eq_false_iff_ne.mpr c8
      have c8b1 : ((rd l0 x13_1) != (rd l1 x13_1)) = true := bne_iff_ne.mpr c8
      obtain rfl := Option.some.inj H
      have p440 : 0 ≤ (x13_1 : Int) := ode
      have q440 : x13_1 < (l0.length : Int) := ode
      obtain ⟨ad440, e440, hx440_0⟩ := Kd.at_int HR0.out x13_1 p440 q440
      cases e440
      replace p440 := eq_true p440
      replace q440 := eq_true q440
      have p441 : 0 ≤ (x13_1 : Int) := ode
      have q441 : x13_1 < (l1.length : Int) := ode
      obtain ⟨ad441, e441, hx441_0⟩ := Kd.at_int HR1.out x13_1 p441 q441
      cases e441
      replace p441 := eq_true p441
      replace q441 := eq_true q441
      go_wp2
      repeat (go_quiet (fail); try go_wp2)
      go_ret
      exact ⟨by first | rfl | (simp; done) | (simp [*]; done), by repeat (first | exact Drawn0.refl _ | apply Drawn0.step)⟩
    ·rw [if_neg c4] at H
     have c4b0 : decide (x13_1 < (l0.length : Int)) = false := decide_eq_false c4
     clear c4
     obtain rfl := Option.some.inj H
     go_wp2
     repeat (go_quiet (fail); try go_wp2)
     go_ret
     exact ⟨by first | rfl | (simp; done) | (simp [*]; done), by repeat (first | exact Drawn0.refl _ | apply Drawn0.step)⟩
 ·rw [if_neg c3] at H
  have c3b0 : ((l0.length : Int) == (l1.length : Int)) = false := beq_eq_false_iff_ne.mpr c3
  have c3b1 : ((l0.length : Int) != (l1.length : Int)) = true := bne_iff_ne.mpr c3
  have c3b2 : (l0.length == l1.length) = false := by first | simpa using c3 | (simp at c3 ⊢; omega)
  obtain rfl := Option.some.inj H
  go_enter Tryd.func87, Tryd.ntmps87
  go_wp2
  repeat (go_quiet (fail); try go_wp2)
  go_ret
  exact ⟨by first | rfl | (simp; done) | (simp [*]; done), by repeat (first | exact Drawn0.refl _ | apply Drawn0.step)⟩

/-! ### impl_canShare: function 55 -/
def impl_canShare.f (k : Nat) (l0 : List Int) (l1 : List Int) (a2 : Int) : Option (Bool) := if 0 ≤ (wrap64 (a2 - 1)) then (if (wrap64 (a2 - 1)) ≤ (l0.length : Int) then (if (wrap64 (a2 - 1)) ≤ (l1.length : Int) then ((slices_Equal_int64_int64.f k (l0.take ((wrap64 (a2 - 1)) : Int).toNat) (l1.take ((wrap64 (a2 - 1)) : Int).toNat)).bind fun t444 => (if t444 = true then (if (wrap64 (a2 - 1)) < (l0.length : Int) then (if (wrap64 (a2 - 1)) < (l1.length : Int) then (if (rd l0 (wrap64 (a2 - 1))) = (rd l1 (wrap64 (a2 - 1))) then (some ((rd l0 (wrap64 (a2 - 1))) == 0)) else (some true)) else (none)) else (none)) else (some false))) else (none)) else (none)) else (none)
def impl_canShare.T1 : Bool × List (List Nat × List Nat) := (true, [([], []), ([], []), ([1], [1]), ([0, 2], [0, 2]), ([], []), ([], []), ([5], [5]), ([4, 6], [4, 6]), ([3, 7], [3, 7]), ([8, 8], [8]), ([9], [9]), ([9], [9]), ([11, 9], [9, 11]), ([10, 12, 9], [9, 10, 12]), ([13, 9], [9, 13]), ([9], [9]), ([9], [9]), ([16, 9], [9, 16]), ([15, 17, 9], [9, 15, 17]), ([18, 9], [9, 18]), ([14, 19, 9], [9, 14, 19]), ([20, 9, 9], [9, 20]), ([21], [21]), ([21], [21]), ([23, 21], [21, 23]), ([22, 24, 21], [21, 22, 24]), ([25, 21], [21, 25]), ([26, 21], [21, 26]), ([21, 27, 9], [9, 21, 27]), ([9, 28], [9, 28]), ([29, 21, 0, 1, 2, 3, 4, 5, 6, 7, 8, 9, 10, 11, 12, 13, 14, 15, 16, 17, 18, 19, 20, 21, 22, 23, 24, 25, 26, 27, 28, 29], [29])])
def impl_canShare.B1 : List Nat := [0, 0, 2, 7, 0, 0, 32, 112, 255, 511, 1023, 1023, 3071, 8191, 16383, 1023, 1023, 66559, 230399, 492543, 1048575, 2097151, 4194303, 4194303, 12582911, 33554431, 67108863, 134217727, 268435455, 536870911, 1073741823]
theorem impl_canShare.tab1 : rtab .any (opsOf Tryd.f55 1) = impl_canShare.T1 := by kernel_rfl
theorem impl_canShare.bits1 : waitsOk impl_canShare.T1.2 impl_canShare.B1 = true := by kernel_rfl
set_option maxHeartbeats 8000000 in
set_option maxRecDepth 100000 in
theorem impl_canShare.calls (k : Nat) (A0 : Option Addr) (c0 : Nat) (l0 : List Int) (A1 : Option Addr) (c1 : Nat) (l1 : List Int) (a2 : Int) (r : Bool) (w : World) (hr0 : Kd.C (Kd.int .i64) w A0 l0.length l0) (hc0 : l0.length ≤ c0) (hr1 : Kd.C (Kd.int .i64) w A1 l1.length l1) (hc1 : l1.length ≤ c1) (h : impl_canShare.f k l0 l1 a2 = some r) :
  Calls Tryd.prog 55 #[.slice A0 l0.length c0, .slice A1 l1.length c1, .int .i64 a2] w fun e w' => e = .returned (.bool r) ∧ Below w.heap.size w w' := by
 have HR0 := Aside0.mk hr0
 have HC0 := Aside0.mk hc0
 clear hr0 hc0
 have HR1 := Aside0.mk hr1
 have HC1 := Aside0.mk hc1
 clear hr1 hc1
 have HB := Aside0.mk (Below.refl w.heap.size w)
 have H : (if 0 ≤ (wrap64 (a2 - 1)) then (if (wrap64 (a2 - 1)) ≤ (l0.length : Int) then (if (wrap64 (a2 - 1)) ≤ (l1.length : Int) then ((slices_Equal_int64_int64.f k (l0.take ((wrap64 (a2 - 1)) : Int).toNat) (l1.take ((wrap64 (a2 - 1)) : Int).toNat)).bind fun t444 => (if t444 = true then (if (wrap64 (a2 - 1)) < (l0.length : Int) then (if (wrap64 (a2 - 1)) < (l1.length : Int) then (if (rd l0 (wrap64 (a2 - 1))) = (rd l1 (wrap64 (a2 - 1))) then (some ((rd l0 (wrap64 (a2 - 1))) == 0)) else (some true)) else (none)) else (none)) else (some false))) else (none)) else (none)) else (none)) = some r := h
 clear h
 obtain ⟨ji4, hji4⟩ : ∃ j_ : Int, (wrap64 (a2 - 1)) = j_ := ⟨_, rfl⟩
 replace H : (if 0 ≤ (ji4) then (if (ji4) ≤ (l0.length : Int) then (if (ji4) ≤ (l1.length : Int) then ((slices_Equal_int64_int64.f k (l0.take ((ji4) : Int).toNat) (l1.take ((ji4) : Int).toNat)).bind fun t444 => (if t444 = true then (if (ji4) < (l0.length : Int) then (if (ji4) < (l1.length : Int) then (if (rd l0 (ji4)) = (rd l1 (ji4)) then (some ((rd l0 (ji4)) == 0)) else (some true)) else (none)) else (none)) else (some false))) else (none)) else (none)) else (none)) = some r := by first | (rw [hji4] at H; exact H) | (simp only [hji4] at H ⊢; exact H)
 have hji4w : (IntKind.i64.wrap (a2 - 1)) = ji4 := (i64_w _).trans hji4
 by_cases c5 : 0 ≤ (ji4)
 ·rw [if_pos c5] at H
  have c5b0 := eq_true c5
  have c5b1 : decide (0 ≤ (ji4)) = true := decide_eq_true c5
  clear c5
  revert H
  refine ifr fun c6 H => ?_
  have c6b0 := eq_true c6
  have c6b1 : decide ((ji4) ≤ (l0.length : Int)) = true := decide_eq_true c6
  clear c6
  have c7b0 := eq_true (ode : 0 ≤ (ji4))
  revert H
  refine ifr fun c8 H => ?_
  have c8b0 := eq_true c8
  have c8b1 : decide ((ji4) ≤ (l1.length : Int)) = true := decide_eq_true c8
  clear c8
  replace H := Option.bind_eq_some_iff.mp H
  obtain ⟨t444, A90, H⟩ := H
  replace H : (if t444 = true then (if (ji4) < (l0.length : Int) then (if (ji4) < (l1.length : Int) then (if (rd l0 (ji4)) = (rd l1 (ji4)) then (some ((rd l0 (ji4)) == 0)) else (some true)) else (none)) else (none)) else (some false)) = some r := H
  have A9 := Aside0.mk A90
  clear A90
  by_cases c10 : t444 = true
  ·subst c10
   have H1 : (if (ji4) < (l0.length : Int) then (if (ji4) < (l1.length : Int) then (if (rd l0 (ji4)) = (rd l1 (ji4)) then (some ((rd l0 (ji4)) == 0)) else (some true)) else (none)) else (none)) = some r := by rw [if_pos rfl] at H; exact H
   clear H
   have H := H1
   clear H1
   revert H
   refine ifr fun c11 H => ?_
   have c11b0 : decide ((ji4) < (l0.length : Int)) = true := decide_eq_true c11
   clear c11
   revert H
   refine ifr fun c12 H => ?_
   have c12b0 : decide ((ji4) < (l1.length : Int)) = true := decide_eq_true c12
   clear c12
   by_cases c13 : (rd l0 (ji4)) = (rd l1 (ji4))
   ·rw [if_pos c13] at H
    have c13b0 : ((rd l0 (ji4)) == (rd l1 (ji4))) = true := beq_iff_eq.mpr c13
    have c13b1 : ((rd l0 (ji4)) != (rd l1 (ji4))) = false := bne_eq_false_iff_eq.mpr c13
    clear c13
    obtain rfl := Option.some.inj H
    go_enter Tryd.func55, Tryd.ntmps55
    try go_wp2
    have n0_ := Aside0.mk (below_drew1 HB.out)
    clear HB
    have HB := n0_
    clear n0_
    obtain ⟨i015, hi015, _, hsz15, _⟩ := info_parts info2
    obtain ⟨hcut15, hA15, hC15⟩ := print_take_of (P := Tryd.prog) (Value.int .i64) 0 35 2 .i64 Tryd.underlying35 hi015 hsz15 A0 c0 l0 (ji4) (ode) (ode) HC0.out
    have HR442 := Aside0.mk (Kd.C_of_reads (h1 := fun _ => rfl) (hA15 _ (Kd.reads_of_C HR0.out)))
    have HC442 := Aside0.mk hC15
    clear hA15 hC15 hi015 hsz15
    obtain ⟨i016, hi016, _, hsz16, _⟩ := info_parts info2
    obtain ⟨hcut16, hA16, hC16⟩ := print_take_of (P := Tryd.prog) (Value.int .i64) 0 35 2 .i64 Tryd.underlying35 hi016 hsz16 A1 c1 l1 (ji4) (ode) (ode) HC1.out
    have HR443 := Aside0.mk (Kd.C_of_reads (h1 := fun _ => rfl) (hA16 _ (Kd.reads_of_C HR1.out)))
    have HC443 := Aside0.mk hC16
    clear hA16 hC16 hi016 hsz16
    have p445 : 0 ≤ ((ji4) : Int) := ode
    have q445 : (ji4) < (l0.length : Int) := ode
    obtain ⟨ad445, e445, hx445_0⟩ := Kd.at_int HR0.out (ji4) p445 q445
    have hw445_0 := hx445_0
    cases e445
    try replace hx445_0 := (HB.out.cell (World.block_lt_of_cell? w _ hx445_0)).trans hx445_0
    replace p445 := eq_true p445
    replace q445 := eq_true q445
    have p446 : 0 ≤ ((ji4) : Int) := ode
    have q446 : (ji4) < (l1.length : Int) := ode
    obtain ⟨ad446, e446, hx446_0⟩ := Kd.at_int HR1.out (ji4) p446 q446
    have hw446_0 := hx446_0
    cases e446
    try replace hx446_0 := (HB.out.cell (World.block_lt_of_cell? w _ hx446_0)).trans hx446_0
    replace p446 := eq_true p446
    replace q446 := eq_true q446
    have p447 : 0 ≤ ((ji4) : Int) := ode
    have q447 : (ji4) < (l0.length : Int) := ode
    obtain ⟨ad447, e447, hx447_0⟩ := Kd.at_int HR0.out (ji4) p447 q447
    have hw447_0 := hx447_0
    obtain rfl : ad445 = ad447 := (by injection e447)
    try replace hx447_0 := (HB.out.cell (World.block_lt_of_cell? w _ hx447_0)).trans hx447_0
    replace p447 := eq_true p447
    replace q447 := eq_true q447
    refine start_ (n := 31) (S := fun w' => w'.cell? (ad445.add ((ji4)).toNat) = some (.int .i64 (rd l0 (ji4))) ∧ w'.cell? (ad446.add ((ji4)).toNat) = some (.int .i64 (rd l1 (ji4))) ∧ w'.cell? (ad445.add ((ji4)).toNat) = some (.int .i64 (rd l0 (ji4)))) (ds := []) (bA 31 0) (by kernel_rfl) rfl (by kernel_rfl) ⟨((HB.out.cell (World.block_lt_of_cell? w _ hw445_0)).trans hw445_0), ((HB.out.cell (World.block_lt_of_cell? w _ hw446_0)).trans hw446_0), ((HB.out.cell (World.block_lt_of_cell? w _ hw447_0)).trans hw447_0)⟩ (fun hHeld => ?_); refine with_tabW impl_canShare.tab1 impl_canShare.bits1 (fun HT_ HW_ => ?_)
    generalize w.drew = w14 at HB HR442 HR443 hx445_0 hx446_0 hx447_0 hHeld ⊢
    refine pu HT_ 0 7 1 ?_
    refine pu HT_ 1 8 3 ?_
    refine pu HT_ 2 9 7 ?_
    refine pu HT_ 3 10 15 ?_
    refine pu HT_ 4 11 31 ?_
    refine pu HT_ 5 12 63 ?_
    refine pu HT_ 6 13 127 ?_
    refine pu HT_ 7 14 255 ?_
    refine one_ (i := 8) (N := some 15) (bA 31 511) rfl rfl (one_of HT_.out (by kernel_rfl)) (by decide) (fun K hK => ?_)
    refine goes_ Tryd.func87 (by kernel_rfl) rfl #[.slice (some ad445) (l0.take ((ji4) : Int).toNat).length c0, .slice (some ad446) (l1.take ((ji4) : Int).toNat).length c1] (by rfl) rfl rfl (by (try simp only [List.map_toArray, List.map_cons, List.map_nil]); first | done | (rw [show (l0.take ((ji4) : Int).toNat).length = (ji4).toNat from (by rw [List.length_take]; have h_ : ((ji4) : Int) ≤ (l0.length : Int) := ode; omega)] <;> rfl) | (rw [show (l0.take ((ji4) : Int).toNat).length = (ji4).toNat from (by rw [List.length_take]; have h_ : ((ji4) : Int) ≤ (l0.length : Int) := ode; omega), show (l1.take ((ji4) : Int).toNat).length = (ji4).toNat from (by rw [List.length_take]; have h_ : ((ji4) : Int) ≤ (l1.length : Int) := ode; omega)] <;> rfl) | (rw [show (l1.take ((ji4) : Int).toNat).length = (ji4).toNat from (by rw [List.length_take]; have h_ : ((ji4) : Int) ≤ (l1.length : Int) := ode; omega)] <;> rfl) | (simp only [hji4]; rfl) | rfl | (simp only [List.length_drop, List.length_take]; rfl)) ?_
    with_reducible refine (slices_Equal_int64_int64.calls k _ _ (l0.take ((ji4) : Int).toNat) _ _ (l1.take ((ji4) : Int).toNat) true _ ?side1 ?side2 ?side3 ?side4 A9.out).mono ?_
    (case side1 => exact kc HR442)
    (case side2 => exact HC442.out)
    (case side3 => exact kc HR443)
    (case side4 => exact HC443.out)
    rintro e w' ⟨rfl, ⟨nd, rfl⟩⟩
    refine ⟨_, rfl, ?_⟩
    refine hK.out _ _ ⟨((HB.out.cell (World.block_lt_of_cell? w _ hw445_0)).trans hw445_0), ((HB.out.cell (World.block_lt_of_cell? w _ hw446_0)).trans hw446_0), ((HB.out.cell (World.block_lt_of_cell? w _ hw447_0)).trans hw447_0)⟩ (fun hHeld => ?_)
    clear hK K
    refine norm_ (a' := ?_) ?_ ?_
    rotate_left
    ·show Act.put _ (some 15) _ = _
     simp only [Act.put, List.setIfInBounds_toArray, List.set_cons_zero, List.set_cons_succ, i64_w, i32_w]
     rfl
    refine pu HT_ 9 16 1023 ?_
    refine pu HT_ 10 17 2047 ?_
    refine pu HT_ 11 18 4095 ?_
    refine pu HT_ 12 19 8191 ?_
    refine pu HT_ 13 20 16383 ?_
    refine pu HT_ 15 22 49151 ?_
    refine pu HT_ 16 23 114687 ?_
    refine pu HT_ 17 24 245759 ?_
    refine pu HT_ 18 25 507903 ?_
    refine tk3 HT_ HW_ hHeld 14 21 524287 ?_
    refine tk3 HT_ HW_ hHeld 19 26 1048575 ?_
    refine pu HT_ 20 27 2097151 ?_
    refine pu HT_ 21 28 4194303 ?_
    refine pu HT_ 22 29 8388607 ?_
    refine pu HT_ 23 30 16777215 ?_
    refine pu HT_ 24 31 33554431 ?_
    refine pu HT_ 25 32 67108863 ?_
    refine tk3 HT_ HW_ hHeld 26 33 134217727 ?_
    refine pu HT_ 27 34 268435455 ?_
    refine pu HT_ 28 35 536870911 ?_
    refine pu HT_ 29 36 1073741823 ?_
    refine pu HT_ 30 6 2147483647 ?_
    refine done_ (done_of HT_.out (by kernel_rfl)) ?_
    try go_wp2
    go_ret
    exact ⟨by first | rfl | (simp [errW_none, errW_some] <;> rfl) | (simp only [← hji4]; first | rfl | (simp [errW_none, errW_some] <;> rfl)) | (simp [*, errW_none, errW_some] <;> rfl), bq⟩
   ·rw [if_neg c13] at H
    have c13b0 : ((rd l0 (ji4)) == (rd l1 (ji4))) = false := beq_eq_false_iff_ne.mpr c13
    have c13b1 : ((rd l0 (ji4)) != (rd l1 (ji4))) = true := bne_iff_ne.mpr c13
    obtain rfl := Option.some.inj H
    go_enter Tryd.func55, Tryd.ntmps55
    try go_wp2
    have n0_ := Aside0.mk (below_drew1 HB.out)
    clear HB
    have HB := n0_
    clear n0_
    obtain ⟨i018, hi018, _, hsz18, _⟩ := info_parts info2
    obtain ⟨hcut18, hA18, hC18⟩ := print_take_of (P := Tryd.prog) (Value.int .i64) 0 35 2 .i64 Tryd.underlying35 hi018 hsz18 A0 c0 l0 (ji4) (ode) (ode) HC0.out
    have HR442 := Aside0.mk (Kd.C_of_reads (h1 := fun _ => rfl) (hA18 _ (Kd.reads_of_C HR0.out)))
    have HC442 := Aside0.mk hC18
    clear hA18 hC18 hi018 hsz18
    obtain ⟨i019, hi019, _, hsz19, _⟩ := info_parts info2
    obtain ⟨hcut19, hA19, hC19⟩ := print_take_of (P := Tryd.prog) (Value.int .i64) 0 35 2 .i64 Tryd.underlying35 hi019 hsz19 A1 c1 l1 (ji4) (ode) (ode) HC1.out
    have HR443 := Aside0.mk (Kd.C_of_reads (h1 := fun _ => rfl) (hA19 _ (Kd.reads_of_C HR1.out)))
    have HC443 := Aside0.mk hC19
    clear hA19 hC19 hi019 hsz19
    have p445 : 0 ≤ ((ji4) : Int) := ode
    have q445 : (ji4) < (l0.length : Int) := ode
    obtain ⟨ad445, e445, hx445_0⟩ := Kd.at_int HR0.out (ji4) p445 q445
    have hw445_0 := hx445_0
    cases e445
    try replace hx445_0 := (HB.out.cell (World.block_lt_of_cell? w _ hx445_0)).trans hx445_0
    replace p445 := eq_true p445
    replace q445 := eq_true q445
    have p446 : 0 ≤ ((ji4) : Int) := ode
    have q446 : (ji4) < (l1.length : Int) := ode
    obtain ⟨ad446, e446, hx446_0⟩ := Kd.at_int HR1.out (ji4) p446 q446
    have hw446_0 := hx446_0
    cases e446
    try replace hx446_0 := (HB.out.cell (World.block_lt_of_cell? w _ hx446_0)).trans hx446_0
    replace p446 := eq_true p446
    replace q446 := eq_true q446
    refine start_ (n := 31) (S := fun w' => w'.cell? (ad445.add ((ji4)).toNat) = some (.int .i64 (rd l0 (ji4))) ∧ w'.cell? (ad446.add ((ji4)).toNat) = some (.int .i64 (rd l1 (ji4)))) (ds := []) (bA 31 0) (by kernel_rfl) rfl (by kernel_rfl) ⟨((HB.out.cell (World.block_lt_of_cell? w _ hw445_0)).trans hw445_0), ((HB.out.cell (World.block_lt_of_cell? w _ hw446_0)).trans hw446_0)⟩ (fun hHeld => ?_); refine with_tabW impl_canShare.tab1 impl_canShare.bits1 (fun HT_ HW_ => ?_)
    generalize w.drew = w17 at HB HR442 HR443 hx445_0 hx446_0 hHeld ⊢
    refine pu HT_ 0 7 1 ?_
    refine pu HT_ 1 8 3 ?_
    refine pu HT_ 2 9 7 ?_
    refine pu HT_ 3 10 15 ?_
    refine pu HT_ 4 11 31 ?_
    refine pu HT_ 5 12 63 ?_
    refine pu HT_ 6 13 127 ?_
    refine pu HT_ 7 14 255 ?_
    refine one_ (i := 8) (N := some 15) (bA 31 511) rfl rfl (one_of HT_.out (by kernel_rfl)) (by decide) (fun K hK => ?_)
    refine goes_ Tryd.func87 (by kernel_rfl) rfl #[.slice (some ad445) (l0.take ((ji4) : Int).toNat).length c0, .slice (some ad446) (l1.take ((ji4) : Int).toNat).length c1] (by rfl) rfl rfl (by (try simp only [List.map_toArray, List.map_cons, List.map_nil]); first | done | (rw [show (l0.take ((ji4) : Int).toNat).length = (ji4).toNat from (by rw [List.length_take]; have h_ : ((ji4) : Int) ≤ (l0.length : Int) := ode; omega)] <;> rfl) | (rw [show (l0.take ((ji4) : Int).toNat).length = (ji4).toNat from (by rw [List.length_take]; have h_ : ((ji4) : Int) ≤ (l0.length : Int) := ode; omega), show (l1.take ((ji4) : Int).toNat).length = (ji4).toNat from (by rw [List.length_take]; have h_ : ((ji4) : Int) ≤ (l1.length : Int) := ode; omega)] <;> rfl) | (rw [show (l1.take ((ji4) : Int).toNat).length = (ji4).toNat from (by rw [List.length_take]; have h_ : ((ji4) : Int) ≤ (l1.length : Int) := ode; omega)] <;> rfl) | (simp only [hji4]; rfl) | rfl | (simp only [List.length_drop, List.length_take]; rfl)) ?_
    with_reducible refine (slices_Equal_int64_int64.calls k _ _ (l0.take ((ji4) : Int).toNat) _ _ (l1.take ((ji4) : Int).toNat) true _ ?side1 ?side2 ?side3 ?side4 A9.out).mono ?_
    (case side1 => exact kc HR442)
    (case side2 => exact HC442.out)
    (case side3 => exact kc HR443)
    (case side4 => exact HC443.out)
    rintro e w' ⟨rfl, ⟨nd, rfl⟩⟩
    refine ⟨_, rfl, ?_⟩
    refine hK.out _ _ ⟨((HB.out.cell (World.block_lt_of_cell? w _ hw445_0)).trans hw445_0), ((HB.out.cell (World.block_lt_of_cell? w _ hw446_0)).trans hw446_0)⟩ (fun hHeld => ?_)
    clear hK K
    refine norm_ (a' := ?_) ?_ ?_
    rotate_left
    ·show Act.put _ (some 15) _ = _
     simp only [Act.put, List.setIfInBounds_toArray, List.set_cons_zero, List.set_cons_succ, i64_w, i32_w]
     rfl
    refine pu HT_ 9 16 1023 ?_
    refine pu HT_ 10 17 2047 ?_
    refine pu HT_ 11 18 4095 ?_
    refine pu HT_ 12 19 8191 ?_
    refine pu HT_ 13 20 16383 ?_
    refine pu HT_ 15 22 49151 ?_
    refine pu HT_ 16 23 114687 ?_
    refine pu HT_ 17 24 245759 ?_
    refine pu HT_ 18 25 507903 ?_
    refine tk2 HT_ HW_ hHeld 14 21 524287 ?_
    refine tk2 HT_ HW_ hHeld 19 26 1048575 ?_
    refine pu HT_ 20 27 2097151 ?_
    refine pu HT_ 21 28 4194303 ?_
    refine un HT_ 22 29 8388607 ?_
    refine un HT_ 23 30 16777215 ?_
    refine un HT_ 24 31 33554431 ?_
    refine un HT_ 25 32 67108863 ?_
    refine un HT_ 26 33 134217727 ?_
    refine un HT_ 27 34 268435455 ?_
    refine pu HT_ 28 35 536870911 ?_
    refine pu HT_ 29 36 1073741823 ?_
    refine pu HT_ 30 6 2147483647 ?_
    refine done_ (done_of HT_.out (by kernel_rfl)) ?_
    try go_wp2
    go_ret
    exact ⟨by first | rfl | (simp [errW_none, errW_some] <;> rfl) | (simp only [← hji4]; first | rfl | (simp [errW_none, errW_some] <;> rfl)) | (simp [*, errW_none, errW_some] <;> rfl), bq⟩
  ·replace c10 := Bool.eq_false_iff.mpr c10
   subst c10
   have H1 : (some false) = some r := by rw [if_neg (show ¬ (false = true) by decide)] at H; exact H
   clear H
   have H := H1
   clear H1
   obtain rfl := Option.some.inj H
   go_enter Tryd.func55, Tryd.ntmps55
   try go_wp2
   have n0_ := Aside0.mk (below_drew1 HB.out)
   clear HB
   have HB := n0_
   clear n0_
   obtain ⟨i021, hi021, _, hsz21, _⟩ := info_parts info2
   obtain ⟨hcut21, hA21, hC21⟩ := print_take_of (P := Tryd.prog) (Value.int .i64) 0 35 2 .i64 Tryd.underlying35 hi021 hsz21 A0 c0 l0 (ji4) (ode) (ode) HC0.out
   have HR442 := Aside0.mk (Kd.C_of_reads (h1 := fun _ => rfl) (hA21 _ (Kd.reads_of_C HR0.out)))
   have HC442 := Aside0.mk hC21
   clear hA21 hC21 hi021 hsz21
   obtain ⟨i022, hi022, _, hsz22, _⟩ := info_parts info2
   obtain ⟨hcut22, hA22, hC22⟩ := print_take_of (P := Tryd.prog) (Value.int .i64) 0 35 2 .i64 Tryd.underlying35 hi022 hsz22 A1 c1 l1 (ji4) (ode) (ode) HC1.out
   have HR443 := Aside0.mk (Kd.C_of_reads (h1 := fun _ => rfl) (hA22 _ (Kd.reads_of_C HR1.out)))
   have HC443 := Aside0.mk hC22
   clear hA22 hC22 hi022 hsz22
   refine start_ (n := 31) (S := fun w' => True) (ds := []) (bA 31 0) (by kernel_rfl) rfl (by kernel_rfl) trivial (fun hHeld => ?_); refine with_tabW impl_canShare.tab1 impl_canShare.bits1 (fun HT_ HW_ => ?_)
   generalize w.drew = w20 at HB HR442 HR443 hHeld ⊢
   refine pu HT_ 0 7 1 ?_
   refine pu HT_ 1 8 3 ?_
   refine pu HT_ 2 9 7 ?_
   refine pu HT_ 3 10 15 ?_
   refine pu HT_ 4 11 31 ?_
   refine pu HT_ 5 12 63 ?_
   refine pu HT_ 6 13 127 ?_
   refine pu HT_ 7 14 255 ?_
   refine one_ (i := 8) (N := some 15) (bA 31 511) rfl rfl (one_of HT_.out (by kernel_rfl)) (by decide) (fun K hK => ?_)
   refine goes_ Tryd.func87 (by kernel_rfl) rfl #[.slice A0 (l0.take ((ji4) : Int).toNat).length c0, .slice A1 (l1.take ((ji4) : Int).toNat).length c1] (by rfl) rfl rfl (by (try simp only [List.map_toArray, List.map_cons, List.map_nil]); first | done | (rw [show (l0.take ((ji4) : Int).toNat).length = (ji4).toNat from (by rw [List.length_take]; have h_ : ((ji4) : Int) ≤ (l0.length : Int) := ode; omega)] <;> rfl) | (rw [show (l0.take ((ji4) : Int).toNat).length = (ji4).toNat from (by rw [List.length_take]; have h_ : ((ji4) : Int) ≤ (l0.length : Int) := ode; omega), show (l1.take ((ji4) : Int).toNat).length = (ji4).toNat from (by rw [List.length_take]; have h_ : ((ji4) : Int) ≤ (l1.length : Int) := ode; omega)] <;> rfl) | (rw [show (l1.take ((ji4) : Int).toNat).length = (ji4).toNat from (by rw [List.length_take]; have h_ : ((ji4) : Int) ≤ (l1.length : Int) := ode; omega)] <;> rfl) | (simp only [hji4]; rfl) | rfl | (simp only [List.length_drop, List.length_take]; rfl)) ?_
   with_reducible refine (slices_Equal_int64_int64.calls k _ _ (l0.take ((ji4) : Int).toNat) _ _ (l1.take ((ji4) : Int).toNat) false _ ?side1 ?side2 ?side3 ?side4 A9.out).mono ?_
   (case side1 => exact kc HR442)
   (case side2 => exact HC442.out)
   (case side3 => exact kc HR443)
   (case side4 => exact HC443.out)
   rintro e w' ⟨rfl, ⟨nd, rfl⟩⟩
   refine ⟨_, rfl, ?_⟩
   refine hK.out _ _ trivial (fun hHeld => ?_)
   clear hK K
   refine norm_ (a' := ?_) ?_ ?_
   rotate_left
   ·show Act.put _ (some 15) _ = _
    simp only [Act.put, List.setIfInBounds_toArray, List.set_cons_zero, List.set_cons_succ, i64_w, i32_w]
    rfl
   refine pu HT_ 9 16 1023 ?_
   refine un HT_ 10 17 2047 ?_
   refine un HT_ 11 18 4095 ?_
   refine un HT_ 12 19 8191 ?_
   refine un HT_ 13 20 16383 ?_
   refine un HT_ 14 21 32767 ?_
   refine un HT_ 15 22 65535 ?_
   refine un HT_ 16 23 131071 ?_
   refine un HT_ 17 24 262143 ?_
   refine un HT_ 18 25 524287 ?_
   refine un HT_ 19 26 1048575 ?_
   refine un HT_ 20 27 2097151 ?_
   refine un HT_ 21 28 4194303 ?_
   refine un HT_ 22 29 8388607 ?_
   refine un HT_ 23 30 16777215 ?_
   refine un HT_ 24 31 33554431 ?_
   refine un HT_ 25 32 67108863 ?_
   refine un HT_ 26 33 134217727 ?_
   refine un HT_ 27 34 268435455 ?_
   refine un HT_ 28 35 536870911 ?_
   refine pu HT_ 29 36 1073741823 ?_
   refine pu HT_ 30 6 2147483647 ?_
   refine done_ (done_of HT_.out (by kernel_rfl)) ?_
   try go_wp2
   go_ret
   exact ⟨by first | rfl | (simp [errW_none, errW_some] <;> rfl) | (simp only [← hji4]; first | rfl | (simp [errW_none, errW_some] <;> rfl)) | (simp [*, errW_none, errW_some] <;> rfl), bq⟩
 ·rw [if_neg c5] at H
  exact absurd H (by simp)
end Go.Proofs.YtkfdfpcdcabcoaaDoor.QName
