/- Walks: the printed functions, and that each call comes to them (6). -/
import Derived.Test.YtkfdfpcdcabcoaaDoorX
import Derived.Test.YtkfdfpcdcabcoaaDoorDA
import Derived.Test.YtkfdfpcdcabcoaaDoorDE
import Derived.Test.YtkfdfpcdcabcoaaDoorDD
namespace Go.Proofs.YtkfdfpcdcabcoaaDoor.QDesx
open Go.RowKit Go.Proofs.YtkfdfpcdcabcoaaDoorW.PrintWords Go.Proofs.YtkfdfpcdcabcoaaDoorW.PrintLast Go.Proofs.YtkfdfpcdcabcoaaDoorW.PrintMore
attribute [local go_sem] max2_int min2_int max_two min_two max_three min_three max_four min_four
set_option linter.unusedVariables false
set_option linter.unusedSimpArgs false

/-! ### impl_runOf: function 105 -/
mutual
def impl_runOf.l0 : Nat → List Int → List (List Int) → Int → Int → Option (List Int)
 | 0, _, _, _, _ => none
 | k + 1, x0, x12, x13, x14 => if x14 < x13 then (if 0 ≤ x14 then (if x14 < (x12.length : Int) then (impl_runOf.l1 k x0 (rd_L1 x12 x14) 0 x12 x13 x14) else (none)) else (none)) else (some x0)
def impl_runOf.l1 : Nat → List Int → List Int → Int → List (List Int) → Int → Int → Option (List Int)
 | 0, _, _, _, _, _, _ => none
 | k + 1, x0, x8, x9, x12, x13, x14 => if 0 < (x8.length : Int) then (if x9 < (rd x8 0) then (if 1 < (x8.length : Int) then (if x0.length < 17592186044416 then (impl_runOf.l1 k (x0 ++ [rd x8 1]) x8 (wrap64 (x9 + 1)) x12 x13 x14) else (none)) else (none)) else (impl_runOf.l0 k x0 x12 x13 (wrap64 (x14 + 1)))) else (none)
end
def impl_runOf.f (k : Nat) (l0 : List Int) (a1 : Int) (a2 : Int) : Option (List Int) := (impl_steps.f k a1 a2).bind fun t281 => (impl_runOf.l0 k l0 t281 (t281.length : Int) 0)
set_option maxHeartbeats 8000000 in
set_option maxRecDepth 100000 in
theorem impl_runOf.calls (k : Nat) (P0_ : Nat → Prop) (u9000_ : Value) (l0 : List Int) (a1 : Int) (a2 : Int) (r : List Int) (w0 w : World) (hB : Below w0.heap.size w0 w) (ho0 : Kd.R (Kd.int .i64) 2 w w0.heap.size P0_ u9000_ l0) (h : impl_runOf.f k l0 a1 a2 = some r) :
  Calls Tryd.prog 105 #[u9000_, .int .i64 a1, .int .i64 a2] w fun e w' => ∃ v0_ : Value, e = .returned (v0_) ∧ Kd.R (Kd.int .i64) 2 w' w0.heap.size (fun k_ => (P0_ k_ ∨ w.heap.size ≤ k_)) v0_ r ∧ Below w0.heap.size w0 w' ∧ Kept w w' (fun k_ => P0_ k_) := by
 have HO0 := Aside0.mk (show Kd.R (Kd.int .i64) 2 w w0.heap.size (fun k_ => (P0_ k_ ∨ w.heap.size ≤ k_)) u9000_ l0 from Kd.R_mono ho0 (fun k_ hk => (.inl hk)))
 have HK := Aside0.mk (Kept.refl w (fun k_ => P0_ k_))
 have HW0 := Aside0.mk hB.size
 have HB := Aside0.mk hB
 clear hB
 have H : ((impl_steps.f k a1 a2).bind fun t281 => (impl_runOf.l0 k l0 t281 (t281.length : Int) 0)) = some r := h
 clear h
 replace H := Option.bind_eq_some_iff.mp H
 obtain ⟨t281, A40, H⟩ := H
 replace H : (impl_runOf.l0 k l0 t281 (t281.length : Int) 0) = some r := H
 have A4 := Aside0.mk A40
 clear A40
 have H' := Aside0.mk H
 clear H
 go_enter Tryd.func105, Tryd.ntmps105
 go_wp2_with (first | ((with_reducible refine gate_callee (f := 118) rfl ?_); refine gL 12 Tryd.func118 #[.int .i64 a1, .int .i64 a2] ?_; (with_reducible refine (impl_steps.calls k a1 a2 t281 _ A4.out).mono ?_); rintro e w5 ⟨v282, rfl, ho0, hb⟩; refine ⟨_, rfl, ?_⟩; have HO283 := Aside0.mk (Kd.S_lower (Kd.S_new' (Kd.S_newM (M := fun k_ => (P0_ k_ ∨ w.heap.size ≤ k_)) ho0 (by first | exact HK.out.1 | exact (show Kept w _ (fun k_ => P0_ k_) from by repeat (first | (with_reducible first | exact HK.out | apply Kept.alloc | apply Kept.drewN | apply Kept.drew) | exact HK.out)).1) (fun k_ h_ => .inr h_)) (Kd.R_lt (by (with_reducible repeat (first | apply Kd.R_alloc | apply Kd.R_drewN | apply Kd.R_drew)); exact HO0.out))) (below_size bq)); replace HO0 := Aside0.mk (Kd.R_below (by (with_reducible repeat (first | apply Kd.R_alloc | apply Kd.R_drewN | apply Kd.R_drew)); exact HO0.out) hb); replace HK := Aside0.mk (Kept.below (S := (fun k_ => P0_ k_)) (by repeat (first | (with_reducible first | exact HK.out | apply Kept.alloc | apply Kept.drewN | apply Kept.drew) | exact HK.out)) hb); replace HB := Aside0.mk (below_step bq hb); (try clear hb); (try clear ho0); obtain ⟨Ao6, co6, eo6⟩ := Kd.S_slice HO283.out; subst eo6))
 go_loopg [0, 14] k (fun kq v0 v14 w' => ∃ (x0_1 : List Int) (x14_1 : Int), v14 = .int .i64 x14_1 ∧ Aside0 (impl_runOf.l0 kq x0_1 t281 (t281.length : Int) x14_1 = some r) ∧ Aside0 (kq ≤ k) ∧ Aside0 (Kd.R (Kd.int .i64) 2 w' w0.heap.size (fun k_ => (P0_ k_ ∨ w.heap.size ≤ k_)) v0 x0_1) ∧ Aside0 (Kd.S (Kd.slice 2 (Kd.int .i64)) 35 w' w0.heap.size (fun k_ => (P0_ k_ ∨ w.heap.size ≤ k_) ∧ some k_ ≠ (v0 : Value).ownBlock) (.slice Ao6 t281.length co6) t281) ∧ Aside0 (Kept w w' (fun k_ => P0_ k_)) ∧ Aside0 (Below w0.heap.size w0 w'))
 case atStart => exact ⟨(l0), (0), (by first | rfl | (simp; done) | (simp [*]; done)), H', ⟨Nat.le_refl _⟩, ⟨by (with_reducible repeat (first | apply Kd.R_alloc | apply Kd.R_drewN | apply Kd.R_drew)); exact HO0.out⟩, ⟨by (with_reducible repeat (first | apply Kd.S_alloc | apply Kd.S_drewN | apply Kd.S_drew)); exact Kd.S_mono HO283.out (fun _ hk => ⟨hk.1.1, hk.2⟩)⟩, ⟨by repeat (first | (with_reducible first | exact HK.out | apply Kept.alloc | apply Kept.drewN | apply Kept.drew) | exact HK.out)⟩, ⟨bq⟩⟩
 case round =>
  clear H'
  try clear c1
  try clear p2
  obtain ⟨x0_1, x14_1, rfl, HA, HK1, HO_0, HO_12, HK, HB⟩ := hrel
  cases gk with
  | zero => exact absurd HA.out (by simp [impl_runOf.l0])
  | succ k1 =>
   have H := HA.out
   clear HA
   simp only [impl_runOf.l0] at H
   by_cases c7 : x14_1 < (t281.length : Int)
   ·rw [if_pos c7] at H
    have c7b0 : decide (x14_1 < (t281.length : Int)) = true := decide_eq_true c7
    clear c7
    revert H
    refine ifr fun c8 H => ?_
    have c8b0 : decide (0 ≤ x14_1) = true := decide_eq_true c8
    clear c8
    revert H
    refine ifr fun c9 H => ?_
    have c9b0 : decide (x14_1 < (t281.length : Int)) = true := decide_eq_true c9
    clear c9
    have H' := Aside0.mk H
    clear H
    have p284 : 0 ≤ (x14_1 : Int) := ode
    have q284 : x14_1 < (t281.length : Int) := ode
    obtain ⟨ad284, A284_0, c284_0, e284, hx284_0, hl284_0, hi284_0⟩ := at_L1 (Kd.S_reads' HO_12.out).2.2 x14_1 p284 q284
    cases e284
    obtain ⟨ce284, hce284, hMe284, hcc284⟩ := Kd.S_get HO_12.out [] x14_1 p284 (by first | exact q284 | exact ode | (have e_ := (Kd.S_reads' HO_12.out).1; omega))
    obtain ⟨ve284_0, rfl, ge284_0⟩ := hMe284
    have hv284_0 := hcc284 0 _ rfl
    rw [Nat.add_zero, show ((Kd.slice 2 (Kd.int .i64))).sz = 1 from rfl, Nat.mul_one] at hv284_0
    replace hv284_0 := Option.some.inj (hv284_0.symm.trans hx284_0)
    rw [hv284_0] at ge284_0
    have HL284_0 := Aside0.mk (show Kd.R (Kd.int .i64) 2 _ _ _ _ (rd_L1 t281 x14_1) from ge284_0)
    clear hv284_0 ge284_0
    clear hcc284 hce284
    have HR284_0 := Aside0.mk hi284_0
    have HC284_0 := Aside0.mk hl284_0
    clear hi284_0 hl284_0
    replace p284 := eq_true p284
    replace q284 := eq_true q284
    go_wp2
    go_loopg [0, 9] k1 (fun kq v0 v9 w' => ∃ (x0_2 : List Int) (x9_2 : Int), v9 = .int .i64 x9_2 ∧ Aside0 (impl_runOf.l1 kq x0_2 (rd_L1 t281 x14_1) x9_2 t281 (t281.length : Int) x14_1 = some r) ∧ Aside0 (kq ≤ k1) ∧ Aside0 (Kd.R (Kd.int .i64) 2 w' w0.heap.size (fun k_ => (P0_ k_ ∨ w.heap.size ≤ k_)) v0 x0_2) ∧ Aside0 (Kd.S (Kd.slice 2 (Kd.int .i64)) 35 w' w0.heap.size (fun k_ => (P0_ k_ ∨ w.heap.size ≤ k_) ∧ some k_ ≠ (v0 : Value).ownBlock) (.slice (some ad284) t281.length co6) t281) ∧ Aside0 (Kd.R (Kd.int .i64) 2 w' w0.heap.size (fun k_ => True ∧ some k_ ≠ (v0 : Value).ownBlock) (.slice A284_0 (rd_L1 t281 x14_1).length c284_0) (rd_L1 t281 x14_1)) ∧ Aside0 (Kept w w' (fun k_ => P0_ k_)) ∧ Aside0 (Below w0.heap.size w0 w'))
    case atStart => exact ⟨(x0_1), (0), (by first | rfl | (simp; done) | (simp [*]; done)), H', ⟨Nat.le_refl _⟩, ⟨by (with_reducible repeat (first | apply Kd.R_alloc | apply Kd.R_drewN | apply Kd.R_drew)); exact HO_0.out⟩, ⟨by (with_reducible repeat (first | apply Kd.S_alloc | apply Kd.S_drewN | apply Kd.S_drew)); exact HO_12.out⟩, ⟨Kd.R_mono HL284_0.out (fun _ hk => ⟨trivial, hk.1.2⟩)⟩, ⟨by repeat (first | (with_reducible first | exact HK.out | apply Kept.alloc | apply Kept.drewN | apply Kept.drew) | exact HK.out)⟩, ⟨bq⟩⟩
    case round =>
     clear H'
     try clear c1
     try clear c2
     try clear p2
     try clear q2
     try clear hx2
     try clear c7
     try clear c7b0
     try clear c8
     try clear c8b0
     try clear c9
     try clear c9b0
     try clear hx284_0
     try clear p2
     try clear p284
     try clear q284
     obtain ⟨x0_2, x9_2, rfl, HA, HK2, HO_0, HO_12, HLX, HK, HB⟩ := hrel
     cases gk with
     | zero => exact absurd HA.out (by simp [impl_runOf.l1])
     | succ k2 =>
      clear HR284_0 HL284_0
      have HR284_0 := Aside0.mk (Kd.R_reads' HLX.out).2.2
      have H := HA.out
      clear HA
      simp only [impl_runOf.l1] at H
      revert H
      refine ifr fun c10 H => ?_
      have c10b0 : decide (0 < ((rd_L1 t281 x14_1).length : Int)) = true := decide_eq_true c10
      have c10b1 : decide (0 < (rd_L1 t281 x14_1).length) = true := decide_eq_true (by omega)
      clear c10
      by_cases c11 : x9_2 < (rd (rd_L1 t281 x14_1) 0)
      ·rw [if_pos c11] at H
       have c11b0 : decide (x9_2 < (rd (rd_L1 t281 x14_1) 0)) = true := decide_eq_true c11
       clear c11
       revert H
       refine ifr fun c12 H => ?_
       have c12b0 : decide (1 < ((rd_L1 t281 x14_1).length : Int)) = true := decide_eq_true c12
       have c12b1 : decide (1 < (rd_L1 t281 x14_1).length) = true := decide_eq_true (by omega)
       clear c12
       revert H
       refine ifr fun c13 H => ?_
       have LMc13 := Aside0.mk c13
       clear c13
       obtain ⟨y287, hy287⟩ : ∃ y_ : List Int, y_ = (x0_2 ++ [rd (rd_L1 t281 x14_1) 1]) := ⟨_, rfl⟩
       replace H : (impl_runOf.l1 k2 y287 (rd_L1 t281 x14_1) (wrap64 (x9_2 + 1)) t281 (t281.length : Int) x14_1) = some r := by first | (rw [hy287]; with_reducible exact H) | (have H2_ := (Option.bind_some _ _).symm.trans H; rw [hy287]; with_reducible exact H2_) | (have H2_ := (Option.bind_some _ _).symm.trans H; with_reducible exact H2_) | with_reducible exact H | (rw [hy287]; exact H) | exact H
       have Ny287 := Aside0.mk hy287
       clear hy287
       have H' := Aside0.mk H
       clear H
       have p285 : 0 ≤ (0 : Int) := (by omega)
       have q285 : 0 < ((rd_L1 t281 x14_1).length : Int) := ode
       obtain ⟨ad285, e285, hx285_0⟩ := Kd.at_int HR284_0.out 0 p285 q285
       cases e285
       have qi285 : (0 < (rd_L1 t281 x14_1).length) = True := eq_true (by omega)
       (try rw [show ((0 : Int)).toNat = 0 from rfl] at hx285_0)
       (try rw [Addr.add_zero'] at hx285_0)
       try replace hx285_0 := (HB.out.cell (World.block_lt_of_cell? w _ hx285_0)).trans hx285_0
       replace p285 := eq_true p285
       replace q285 := eq_true q285
       have p286 : 0 ≤ (1 : Int) := (by omega)
       have q286 : 1 < ((rd_L1 t281 x14_1).length : Int) := ode
       obtain ⟨ad286, e286, hx286_0⟩ := Kd.at_int HR284_0.out 1 p286 q286
       obtain rfl : ad285 = ad286 := (by injection e286)
       (try simp only [show (1 : Int).toNat = 1 from rfl, Nat.reduceMul, Nat.reduceEqDiff, Go.Addr.add, ↓reduceIte] at hx286_0)
       have qi286 : (1 < (rd_L1 t281 x14_1).length) = True := eq_true (by omega)
       (try rw [show ((1 : Int)).toNat = 1 from rfl] at hx286_0)
       try replace hx286_0 := (HB.out.cell (World.block_lt_of_cell? w _ hx286_0)).trans hx286_0
       replace p286 := eq_true p286
       replace q286 := eq_true q286
       go_wp2_with (first | ((with_reducible refine gate_builtin (b := .append) (xs := #[.tmp 25, .tmp 29]) rfl ?_); at_builtin; refine Kd.R_append (Kd.int .i64) (w0 := w0) w0.heap.size rfl (.tmp 25) (.tmp 29) 35 2 (.int .i64 0) 8 rfl Tryd.underlying35 info2 rfl (by decide) (by omega) u0 x0_2 (rd (rd_L1 t281 x14_1) 1) [.int .i64 (rd (rd_L1 t281 x14_1) 1)] (fun k_ => (P0_ k_ ∨ w.heap.size ≤ k_)) (fun _ => False) rfl rfl ?aP (fun _ hk => hk.elim) ?aF ?aO ?aB ?aS ?aL ?_; (case aP => exact rfl); (case aB => exact bq); (case aF => exact (fun k_ hk => (.inr (Nat.le_trans (by first | exact HK.out.1 | exact (show Kept w _ (fun k_ => P0_ k_) from by repeat (first | (with_reducible first | exact HK.out | apply Kept.alloc | apply Kept.drewN | apply Kept.drew) | exact HK.out)).1) hk)))); (case aO => exact (by (with_reducible repeat (first | apply Kd.R_alloc | apply Kd.R_drewN | apply Kd.R_drew)); exact HO_0.out)); (case aS => exact (below_size bq)); (case aL => have := LMc13.out; omega); intro v288 w14 ho hb hg hat; rw [← Ny287.out] at ho; have HLX2 := Aside0.mk (Kd.R_after HLX.out hg hat); clear HLX; have HLX := HLX2; clear HLX2; have n0_ := Aside0.mk (Kd.S_after (ok := (fun k_ => (P0_ k_ ∨ w.heap.size ≤ k_))) (by (with_reducible repeat (first | apply Kd.S_alloc | apply Kd.S_drewN | apply Kd.S_drew)); exact HO_12.out) hg hat); have n1_ := Aside0.mk (hb); have n2_ := Aside0.mk (Kept.of_grown (S := (fun k_ => P0_ k_)) hg (by repeat (first | (with_reducible first | exact HK.out | apply Kept.alloc | apply Kept.drewN | apply Kept.drew) | exact HK.out)) (fun k_ e_ => (HO_0.out.1 k_ e_))); have n3_ := Aside0.mk (ho); clear HO_12; clear HB; clear HK; clear HO_0; have HO_12 := n0_; have HB := n1_; have HK := n2_; have HO289 := n3_; clear n0_ n1_ n2_ n3_; clear ho hb hg hat))
       go_roundg k2
       case measure => have := HK1.out; have := HK2.out; omega
       case rel => exact ⟨(y287), (wrap64 (x9_2 + 1)), (by first | rfl | (simp; done) | (simp [*]; done)), H', ⟨by have := HK1.out; have := HK2.out; omega⟩, ⟨by (with_reducible repeat (first | apply Kd.R_alloc | apply Kd.R_drewN | apply Kd.R_drew)); exact HO289.out⟩, ⟨by (with_reducible repeat (first | apply Kd.S_alloc | apply Kd.S_drewN | apply Kd.S_drew)); exact HO_12.out⟩, ⟨HLX.out⟩, ⟨by repeat (first | (with_reducible first | exact HK.out | apply Kept.alloc | apply Kept.drewN | apply Kept.drew) | exact HK.out)⟩, ⟨bq⟩⟩
      ·rw [if_neg c11] at H
       have c11b0 : decide (x9_2 < (rd (rd_L1 t281 x14_1) 0)) = false := decide_eq_false c11
       clear c11
       have H' := Aside0.mk H
       clear H
       have p285 : 0 ≤ (0 : Int) := (by omega)
       have q285 : 0 < ((rd_L1 t281 x14_1).length : Int) := ode
       obtain ⟨ad285, e285, hx285_0⟩ := Kd.at_int HR284_0.out 0 p285 q285
       cases e285
       have qi285 : (0 < (rd_L1 t281 x14_1).length) = True := eq_true (by omega)
       (try rw [show ((0 : Int)).toNat = 0 from rfl] at hx285_0)
       (try rw [Addr.add_zero'] at hx285_0)
       try replace hx285_0 := (HB.out.cell (World.block_lt_of_cell? w _ hx285_0)).trans hx285_0
       replace p285 := eq_true p285
       replace q285 := eq_true q285
       go_wp2
       go_roundg k2
       case measure => have := HK1.out; have := HK2.out; omega
       case rel => exact ⟨(x0_2), (wrap64 (x14_1 + 1)), (by first | rfl | (simp; done) | (simp [*]; done)), H', ⟨by have := HK1.out; have := HK2.out; omega⟩, ⟨by (with_reducible repeat (first | apply Kd.R_alloc | apply Kd.R_drewN | apply Kd.R_drew)); exact HO_0.out⟩, ⟨by (with_reducible repeat (first | apply Kd.S_alloc | apply Kd.S_drewN | apply Kd.S_drew)); exact HO_12.out⟩, ⟨by repeat (first | (with_reducible first | exact HK.out | apply Kept.alloc | apply Kept.drewN | apply Kept.drew) | exact HK.out)⟩, ⟨bq⟩⟩
   ·rw [if_neg c7] at H
    have c7b0 : decide (x14_1 < (t281.length : Int)) = false := decide_eq_false c7
    clear c7
    obtain rfl := Option.some.inj H
    go_wp2
    go_ret
    exact ⟨_, eq_, by (with_reducible repeat (first | apply Kd.R_alloc | apply Kd.R_drewN | apply Kd.R_drew)); exact HO_0.out, bq, by repeat (first | (with_reducible first | exact HK.out | apply Kept.alloc | apply Kept.drewN | apply Kept.drew) | exact HK.out)⟩

/-! ### impl_sequence: function 89 -/
def impl_sequence.l0 : Nat → List Int → List Int → Int → Int → List Int → Option (List Int)
 | 0, _, _, _, _, _ => none
 | k + 1, x3, x4, x5, x6, x291000 => if x6 < (x3.length : Int) then (if 0 ≤ x6 then (if x6 < (x291000.length : Int) then (if 0 ≤ (wrap64 (x6 - 1)) then (if (wrap64 (x6 - 1)) < (x3.length : Int) then ((impl_runOf.f k x4 (wrap64 ((rd x291000 x6) - x5)) (rd x3 (wrap64 (x6 - 1)))).bind fun t300 => (impl_sequence.l0 k x3 t300 (rd x291000 x6) (wrap64 (x6 + 1)) x291000)) else (none)) else (none)) else (none)) else (none)) else (some x4)
def impl_sequence.f (k : Nat) (l0_0 : List Int) : Option (List Int) := (impl_pairsOf.f l0_0).bind fun t291 => (if t291 = 0 then (none) else ((impl_divisors.f k l0_0).bind fun t292 => (impl_sequence.l0 k t292 (([] : List Int)) 0 1 l0_0)))
def impl_sequence.T9 : Bool × List (List Nat × List Nat) := (true, [([], []), ([], []), ([1], [1]), ([], []), ([2, 3], [2, 3]), ([4], [4]), ([], []), ([5, 6], [5, 6]), ([], []), ([], []), ([9], [9]), ([8, 10], [8, 10]), ([11], [11]), ([0, 7, 12], [0, 7, 12]), ([13, 13, 0, 1, 2, 3, 4, 5, 6, 7, 8, 9, 10, 11, 12, 13], [0, 13])])
def impl_sequence.B9 : List Nat := [0, 0, 2, 0, 14, 30, 0, 126, 0, 0, 512, 1792, 3840, 8191, 16383]
theorem impl_sequence.tab9 : rtab .any (opsOf Tryd.f89 9) = impl_sequence.T9 := by kernel_rfl
theorem impl_sequence.bits9 : waitsOk impl_sequence.T9.2 impl_sequence.B9 = true := by kernel_rfl
set_option maxHeartbeats 8000000 in
set_option maxRecDepth 100000 in
theorem impl_sequence.calls (k : Nat) (A0_0 : Option Addr) (c0_0 : Nat) (l0_0 : List Int) (r : List Int) (w : World) (hr0_0 : Kd.C (Kd.int .i64) w A0_0 l0_0.length l0_0) (hc0_0 : l0_0.length ≤ c0_0) (h : impl_sequence.f k l0_0 = some r) :
  Calls Tryd.prog 89 #[.agg #[.slice A0_0 l0_0.length c0_0]] w fun e w' => ∃ v0_ : Value, e = .returned (v0_) ∧ Kd.R (Kd.int .i64) 2 w' w.heap.size (fun _ => True) v0_ r ∧ Below w.heap.size w w' := by
 have hu74 := Tryd.underlying74
 have HR0_0 := Aside0.mk hr0_0
 have HC0_0 := Aside0.mk hc0_0
 clear hr0_0 hc0_0
 have HB := Aside0.mk (Below.refl w.heap.size w)
 have H : ((impl_pairsOf.f l0_0).bind fun t291 => (if t291 = 0 then (none) else ((impl_divisors.f k l0_0).bind fun t292 => (impl_sequence.l0 k t292 (([] : List Int)) 0 1 l0_0)))) = some r := h
 clear h
 replace H := Option.bind_eq_some_iff.mp H
 obtain ⟨t291, A20, H⟩ := H
 replace H : (if t291 = 0 then (none) else ((impl_divisors.f k l0_0).bind fun t292 => (impl_sequence.l0 k t292 (([] : List Int)) 0 1 l0_0))) = some r := H
 have A2 := Aside0.mk A20
 clear A20
 by_cases c3 : t291 = 0
 ·rw [if_pos c3] at H
  exact absurd H (by simp)
 ·rw [if_neg c3] at H
  have c3b0 : (t291 == 0) = false := beq_eq_false_iff_ne.mpr c3
  have c3b1 : (t291 != 0) = true := bne_iff_ne.mpr c3
  replace H := Option.bind_eq_some_iff.mp H
  obtain ⟨t292, A40, H⟩ := H
  replace H : (impl_sequence.l0 k t292 (([] : List Int)) 0 1 l0_0) = some r := H
  have A4 := Aside0.mk A40
  clear A40
  obtain ⟨y295, hy295⟩ : ∃ y_ : List Int, y_ = (([] : List Int)) := ⟨_, rfl⟩
  replace H : (impl_sequence.l0 k t292 y295 0 1 l0_0) = some r := by first | (rw [hy295]; with_reducible exact H) | (have H2_ := (Option.bind_some _ _).symm.trans H; rw [hy295]; with_reducible exact H2_) | (have H2_ := (Option.bind_some _ _).symm.trans H; with_reducible exact H2_) | with_reducible exact H | (rw [hy295]; exact H) | exact H
  have Ny295 := Aside0.mk hy295
  clear hy295
  have H' := Aside0.mk H
  clear H
  go_enter Tryd.func89, Tryd.ntmps89
  go_wp2_with (first | ((with_reducible refine gate_dst (N := 1) rfl ?_); refine box_event ?hg (N := 1) ?hd (cs := #[.slice A0_0 l0_0.length c0_0]) (t := 74) ?hr ?_; (case hd => rfl); (case hg => rfl); (case hr => first | (go_simp; done) | (go_simp; rfl)); intro gb290 hg w5 hbox hb; have BK290 := Aside0.mk (hbox); have GW290 := Aside0.mk ((by rw [hg]; exact (below_size bq) : w.heap.size ≤ gb290)); have GE290 := Aside0.mk ((by rw [hg]; exact (below_size bq) : w.heap.size ≤ gb290)); replace HB := Aside0.mk (below_step bq hb); clear hb hbox hg; have hcz6_0 := bc0 BK290; have hfz6_0 := blk_frozen BK290.out 0) | ((with_reducible refine gate_callee (f := 104) rfl ?_); refine gL 8 Tryd.func104 #[.agg #[.slice A0_0 l0_0.length c0_0]] ?_; (with_reducible refine (impl_pairsOf.calls _ _ l0_0 t291 _ ?side1 ?side2 A2.out).mono ?_); (case side1 => exact kc HR0_0); (case side2 => exact HC0_0.out); rintro e w7 ⟨rfl, hb⟩; refine ⟨_, rfl, ?_⟩; replace BK290 := Aside0.mk (blk_below (g := gb290) (o := .cells #[.slice A0_0 l0_0.length c0_0] 74 (0, 0)) (bk BK290) hb); replace HB := Aside0.mk (below_step bq hb); (try clear hb); have hcz8_0 := bc0 BK290; have hfz8_0 := blk_frozen BK290.out 0) | ((with_reducible refine gate_callee (f := 103) rfl ?_); refine gL 13 Tryd.func103 #[.slice A0_0 l0_0.length c0_0] ?_; (with_reducible refine (impl_divisors.calls k _ _ l0_0 t292 _ ?side1 ?side2 A4.out).mono ?_); (case side1 => exact kc HR0_0); (case side2 => exact HC0_0.out); rintro e w9 ⟨v293, rfl, ho0, hb⟩; refine ⟨_, rfl, ?_⟩; have HO294 := Aside0.mk (Kd.R_lower ho0 (below_size bq)); replace BK290 := Aside0.mk (blk_below (g := gb290) (o := .cells #[.slice A0_0 l0_0.length c0_0] 74 (0, 0)) (bk BK290) hb); replace HB := Aside0.mk (below_step bq hb); (try clear hb); (try clear ho0)) | ((with_reducible refine gate_dst (N := 14) rfl ?_); refine Kd.R_lit (Kd.int .i64) _ 2 ?hg (N := 14) ?hd (xs := ([] : List Int)) (inner := []) (ok := fun _ => True) (okp := fun _ => True) ?hr ?hp (fun _ hk => hk) trivial (Below.refl _ _) (Nat.le_refl _) (by simp) ?_; (case hd => rfl); (case hg => rfl); (case hr => first | (go_simp; done) | (go_simp; rfl)); (case hp => exact (Reps.none _ _)); intro v296 w10 ho11 hb hg_ hnew_; clear hg_ hnew_; (first | rw [← Ny295.out] at ho11 | (simp only [Int.reduceToNat] at ho11; rw [← Ny295.out] at ho11)); have HO297 := Aside0.mk (Kd.R_lower (Kd.R_new' ho11 (Kd.R_lt (by (with_reducible repeat (first | apply Kd.R_alloc | apply Kd.R_drewN | apply Kd.R_drew)); exact HO294.out))) (below_size bq)); replace HO294 := Aside0.mk (Kd.R_elder' (by (with_reducible repeat (first | apply Kd.R_alloc | apply Kd.R_drewN | apply Kd.R_drew)); exact HO294.out) (Kd.R_base ho11) hb); replace BK290 := Aside0.mk (blk_below (g := gb290) (o := .cells #[.slice A0_0 l0_0.length c0_0] 74 (0, 0)) (bk BK290) hb); replace HB := Aside0.mk (below_step bq hb); clear hb ho11))
  go_loopg [4, 5, 6] k (fun kq v4 v5 v6 w' => ∃ (x4_1 : List Int) (x5_1 : Int) (x6_1 : Int), v5 = .int .i64 x5_1 ∧ v6 = .int .i64 x6_1 ∧ Aside0 (impl_sequence.l0 kq t292 x4_1 x5_1 x6_1 l0_0 = some r) ∧ Aside0 (kq ≤ k) ∧ Aside0 (Kd.R (Kd.int .i64) 2 w' w.heap.size (fun k_ => some k_ ≠ (v4 : Value).ownBlock) v293 t292) ∧ Aside0 (Kd.R (Kd.int .i64) 2 w' w.heap.size (fun k_ => some k_ ≠ (v293 : Value).ownBlock) v4 x4_1) ∧ Aside0 (w'.heap[gb290]? = some (.cells #[(.slice A0_0 l0_0.length c0_0)] 74 (0, 0))) ∧ Aside0 (Below w.heap.size w w'))
  case atStart => exact ⟨(y295), (0), (1), (by first | rfl | (simp; done) | (simp [*]; done)), (by first | rfl | (simp; done) | (simp [*]; done)), H', ⟨Nat.le_refl _⟩, ⟨by (with_reducible repeat (first | apply Kd.R_alloc | apply Kd.R_drewN | apply Kd.R_drew)); exact Kd.R_mono HO294.out (fun _ hk => hk.2)⟩, ⟨by (with_reducible repeat (first | apply Kd.R_alloc | apply Kd.R_drewN | apply Kd.R_drew)); exact Kd.R_mono HO297.out (fun _ hk => hk.2)⟩, ⟨bk BK290⟩, ⟨bq⟩⟩
  case round =>
   clear H'
   try clear c1
   try clear p2
   try clear c3
   try clear c3b0
   try clear c3b1
   try clear c8
   try clear c10
   try clear hcz6_0
   try clear hcz8_0
   try clear hfz6_0
   try clear hfz8_0
   obtain ⟨x4_1, x5_1, x6_1, rfl, rfl, HA, HK1, HO_3, HO_4, BK290, HB⟩ := hrel
   cases gk with
   | zero => exact absurd HA.out (by simp [impl_sequence.l0])
   | succ k1 =>
    have H := HA.out
    clear HA
    simp only [impl_sequence.l0] at H
    by_cases c12 : x6_1 < (t292.length : Int)
    ·rw [if_pos c12] at H
     have c12b0 : decide (x6_1 < (t292.length : Int)) = true := decide_eq_true c12
     clear c12
     revert H
     refine ifr fun c13 H => ?_
     have c13b0 : decide (0 ≤ x6_1) = true := decide_eq_true c13
     clear c13
     revert H
     refine ifr fun c14 H => ?_
     have c14b0 : decide (x6_1 < (l0_0.length : Int)) = true := decide_eq_true c14
     clear c14
     obtain ⟨ji15, hji15⟩ : ∃ j_ : Int, (wrap64 (x6_1 - 1)) = j_ := ⟨_, rfl⟩
     replace H : (if 0 ≤ (ji15) then (if (ji15) < (t292.length : Int) then ((impl_runOf.f k1 x4_1 (wrap64 ((rd l0_0 x6_1) - x5_1)) (rd t292 (ji15))).bind fun t300 => (impl_sequence.l0 k1 t292 t300 (rd l0_0 x6_1) (wrap64 (x6_1 + 1)) l0_0)) else (none)) else (none)) = some r := by first | (rw [hji15] at H; exact H) | (simp only [hji15] at H ⊢; exact H)
     have hji15w : (IntKind.i64.wrap (x6_1 - 1)) = ji15 := (i64_w _).trans hji15
     revert H
     refine ifr fun c16 H => ?_
     have c16b0 : decide (0 ≤ (ji15)) = true := decide_eq_true c16
     clear c16
     revert H
     refine ifr fun c17 H => ?_
     have c17b0 : decide ((ji15) < (t292.length : Int)) = true := decide_eq_true c17
     clear c17
     replace H := Option.bind_eq_some_iff.mp H
     obtain ⟨t300, A180, H⟩ := H
     replace H : (impl_sequence.l0 k1 t292 t300 (rd l0_0 x6_1) (wrap64 (x6_1 + 1)) l0_0) = some r := H
     have A18 := Aside0.mk A180
     clear A180
     have H' := Aside0.mk H
     clear H
     obtain ⟨Ao19, co19, eo19⟩ := Kd.R_slice HO_3.out
     subst eo19
     try go_wp2
     have n0_ := Aside0.mk (Kd.R_drew HO_3.out)
     have n1_ := Aside0.mk (Kd.R_drew HO_4.out)
     have n2_ := Aside0.mk (blk_drew BK290.out)
     have n3_ := Aside0.mk (below_drew1 HB.out)
     clear HO_3
     clear HO_4
     clear BK290
     clear HB
     have HO_3 := n0_
     have HO_4 := n1_
     have BK290 := n2_
     have HB := n3_
     clear n0_ n1_ n2_ n3_
     have p298 : 0 ≤ (x6_1 : Int) := ode
     have q298 : x6_1 < (l0_0.length : Int) := ode
     obtain ⟨ad298, e298, hx298_0⟩ := Kd.at_int HR0_0.out x6_1 p298 q298
     have hw298_0 := hx298_0
     cases e298
     try replace hx298_0 := (HB.out.cell (World.block_lt_of_cell? w _ hx298_0)).trans hx298_0
     replace p298 := eq_true p298
     replace q298 := eq_true q298
     have p299 : 0 ≤ ((ji15) : Int) := ode
     have q299 : (ji15) < (t292.length : Int) := ode
     obtain ⟨ad299, e299, hx299_0⟩ := Kd.at_int (Kd.R_reads' HO_3.out).2.2 (ji15) p299 q299
     cases e299
     replace p299 := eq_true p299
     replace q299 := eq_true q299
     obtain ⟨Ao21, co21, eo21⟩ := Kd.R_slice HO_4.out
     (first | subst eo21 | (injection eo21 with f1_ f2_ f3_; have f4_ := f1_.symm; have f5_ := f3_.symm; clear f1_ f2_ f3_; subst f4_; subst f5_))
     refine start_ (n := 15) (S := fun w' => w'.cell? ⟨gb290, 0, none⟩ = some (.slice (some ad298) l0_0.length c0_0) ∧ w'.cell? (ad298.add (x6_1).toNat) = some (.int .i64 (rd l0_0 x6_1)) ∧ w'.cell? (ad299.add ((ji15)).toNat) = some (.int .i64 (rd t292 (ji15)))) (ds := []) (bA 15 0) (by kernel_rfl) rfl (by kernel_rfl) ⟨(blk_cell BK290.out 0).trans rfl, ((HB.out.cell (World.block_lt_of_cell? w _ hw298_0)).trans hw298_0), hx299_0⟩ (fun hHeld => ?_); refine with_tabW impl_sequence.tab9 impl_sequence.bits9 (fun HT_ HW_ => ?_)
     generalize wr.drew = w20 at HO_3 HO_4 BK290 HB hx298_0 hx299_0 hHeld ⊢
     refine pu HT_ 0 21 1 ?_
     refine pu HT_ 1 22 3 ?_
     refine pu HT_ 3 24 11 ?_
     refine pu HT_ 6 27 75 ?_
     refine pu HT_ 8 29 331 ?_
     refine pu HT_ 9 30 843 ?_
     refine pu HT_ 10 31 1867 ?_
     refine pu HT_ 11 32 3915 ?_
     refine tk3 HT_ HW_ hHeld 2 23 3919 ?_
     refine pu HT_ 4 25 3935 ?_
     refine tk3 HT_ HW_ hHeld 5 26 3967 ?_
     refine pu HT_ 7 28 4095 ?_
     refine tk3 HT_ HW_ hHeld 12 33 8191 ?_
     refine one_ (i := 13) (N := some 34) (bA 15 16383) rfl rfl (one_of HT_.out (by kernel_rfl)) (by decide) (fun K hK => ?_)
     refine goes_ Tryd.func105 (by kernel_rfl) rfl #[.slice Ao21 x4_1.length co21, .int .i64 (wrap64 ((rd l0_0 x6_1) - x5_1)), .int .i64 (rd t292 (ji15))] (by rfl) rfl rfl (by (try simp only [List.map_toArray, List.map_cons, List.map_nil]); first | done | (simp only [hji15]; rfl) | rfl | (simp only [List.length_drop, List.length_take]; rfl)) ?_
     with_reducible refine (impl_runOf.calls k1 (fun k_ => some k_ = (.slice Ao21 x4_1.length co21 : Value).ownBlock) (.slice Ao21 x4_1.length co21) x4_1 (wrap64 ((rd l0_0 x6_1) - x5_1)) (rd t292 (ji15)) t300 w _ ?side1 ?side2 A18.out).mono ?_
     (case side1 => repeat (first | (with_reducible first | exact HB.out | apply below_alloc | apply pw_below_drewN | apply below_drew1 | refine below_set ?_ GE290.out) | exact HB.out))
     (case side2 => exact Kd.R_tight rfl HO_4.out)
     rintro e w22 ⟨v301, rfl, ho0, hb, hkp⟩
     have HS2_ := cell_kept (hHeld.2.2) hkp (by first | (rw [add_block]; exact (fun hs_ => (((HO_3.out).1 _ rfl)) hs_)) | (show ¬ _; simp only [add_block]; exact (fun hs_ => (((HO_3.out).1 _ rfl)) hs_)) | exact (fun hs_ => (((HO_3.out).1 _ rfl)) hs_))
     refine ⟨_, rfl, ?_⟩
     have n0_ := Aside0.mk (Kd.R_mono (ok' := fun k_ => some k_ ≠ (v301 : Value).ownBlock) (Kd.R_keptB (HO_3.out) hkp (fun k_ hk_ hs_ => (hk_) hs_)) (fun k_ hk_ => fun e_ => Or.elim (ho0.1 k_ e_.symm) (fun hs_ => hk_.2.1 hs_) (fun hn_ => Nat.not_le.2 hk_.2.2 hn_)))
     have n1_ := Aside0.mk (blk_kept (bk BK290) hkp (fun hs_ => (fun e_ => (Kd.R_ne HO_4.out BK290.out (by decide)) e_) hs_))
     have n2_ := Aside0.mk (Kd.R_mono (ok' := fun k_ => some k_ ≠ (.slice (some ad299) t292.length co19 : Value).ownBlock) ho0 (fun k_ hk_ => Or.elim hk_ (fun hs_ => fun e_ => (((HO_3.out).1 k_ e_.symm)) hs_) (fun hn_ => (Kd.fresh' (Kd.R_lt (by (with_reducible repeat (first | apply Kd.R_alloc | apply Kd.R_drewN | apply Kd.R_drew)); exact HO_3.out)) k_ hn_))))
     have n3_ := Aside0.mk (hb)
     clear HO_3
     clear BK290
     clear HB
     clear HO_4
     have HO_3 := n0_
     have BK290 := n1_
     have HO302 := n2_
     have HB := n3_
     clear n0_ n1_ n2_ n3_
     
     (try clear hkp)
     (try clear ho0)
     refine hK.out _ _ ⟨(blk_cell BK290.out 0).trans rfl, ((HB.out.cell (World.block_lt_of_cell? w _ hw298_0)).trans hw298_0), HS2_⟩ (fun hHeld => ?_)
     clear hK K
     refine norm_ (a' := ?_) ?_ ?_
     rotate_left
     ·show Act.put _ (some 34) _ = _
      simp only [Act.put, List.setIfInBounds_toArray, List.set_cons_zero, List.set_cons_succ, i64_w, i32_w]
      rfl
     refine pu HT_ 14 4 32767 ?_
     refine done_ (done_of HT_.out (by kernel_rfl)) ?_
     have hcz23_0 := bc0 BK290
     have hfz23_0 := blk_frozen BK290.out 0
     have p303 : 0 ≤ (x6_1 : Int) := ode
     have q303 : x6_1 < (l0_0.length : Int) := ode
     obtain ⟨ad303, e303, hx303_0⟩ := Kd.at_int HR0_0.out x6_1 p303 q303
     obtain rfl : ad298 = ad303 := (by injection e303)
     try replace hx303_0 := (HB.out.cell (World.block_lt_of_cell? w _ hx303_0)).trans hx303_0
     replace p303 := eq_true p303
     replace q303 := eq_true q303
     try go_wp2
     go_roundg k1
     case measure => have := HK1.out; omega
     case rel => exact ⟨(t300), (rd l0_0 x6_1), (wrap64 (x6_1 + 1)), (by first | rfl | (simp; done) | (simp [*]; done)), (by first | rfl | (simp; done) | (simp [*]; done)), H', ⟨by have := HK1.out; omega⟩, ⟨by (with_reducible repeat (first | apply Kd.R_alloc | apply Kd.R_drewN | apply Kd.R_drew)); exact HO_3.out⟩, ⟨by (with_reducible repeat (first | apply Kd.R_alloc | apply Kd.R_drewN | apply Kd.R_drew)); exact HO302.out⟩, ⟨bk BK290⟩, ⟨bq⟩⟩
    ·rw [if_neg c12] at H
     have c12b0 : decide (x6_1 < (t292.length : Int)) = false := decide_eq_false c12
     clear c12
     obtain rfl := Option.some.inj H
     obtain ⟨Ao24, co24, eo24⟩ := Kd.R_slice HO_3.out
     subst eo24
     go_wp2
     go_ret
     exact ⟨_, eq_, by (with_reducible repeat (first | apply Kd.R_alloc | apply Kd.R_drewN | apply Kd.R_drew)); exact Kd.R_mono HO_4.out (fun _ hk => trivial), bq⟩

/-! ### impl_firstOf: function 86 -/
def impl_firstOf.l0 : Nat → Int → List Int → Option (List Int)
 | 0, _, _ => none
 | k + 1, x1, x5 => if (x5.length : Int) < x1 then (if x5.length < 17592186044416 then (impl_firstOf.l0 k x1 (x5 ++ [1])) else (none)) else (if 0 ≤ x1 then (if x1 ≤ (x5.length : Int) then (some (x5.take (x1 : Int).toNat)) else (none)) else (none))
def impl_firstOf.f (k : Nat) (l0_0 : List Int) (a1 : Int) : Option (List Int) := (impl_sequence.f k l0_0).bind fun t305 => (impl_firstOf.l0 k a1 t305)
set_option maxHeartbeats 8000000 in
set_option maxRecDepth 100000 in
theorem impl_firstOf.calls (k : Nat) (A0_0 : Option Addr) (c0_0 : Nat) (l0_0 : List Int) (a1 : Int) (r : List Int) (w : World) (hr0_0 : Kd.C (Kd.int .i64) w A0_0 l0_0.length l0_0) (hc0_0 : l0_0.length ≤ c0_0) (h : impl_firstOf.f k l0_0 a1 = some r) :
  Calls Tryd.prog 86 #[.agg #[.slice A0_0 l0_0.length c0_0], .int .i64 a1] w fun e w' => ∃ v0_ : Value, e = .returned (v0_) ∧ Kd.V (Kd.int .i64) 2 w' w.heap.size (fun k_ => (w.heap.size ≤ k_)) v0_ r ∧ Below w.heap.size w w' := by
 have hu74 := Tryd.underlying74
 have HR0_0 := Aside0.mk hr0_0
 have HC0_0 := Aside0.mk hc0_0
 clear hr0_0 hc0_0
 have HB := Aside0.mk (Below.refl w.heap.size w)
 have H : ((impl_sequence.f k l0_0).bind fun t305 => (impl_firstOf.l0 k a1 t305)) = some r := h
 clear h
 replace H := Option.bind_eq_some_iff.mp H
 obtain ⟨t305, A30, H⟩ := H
 replace H : (impl_firstOf.l0 k a1 t305) = some r := H
 have A3 := Aside0.mk A30
 clear A30
 have H' := Aside0.mk H
 clear H
 go_enter Tryd.func86, Tryd.ntmps86
 go_wp2_with (first | ((with_reducible refine gate_dst (N := 2) rfl ?_); refine box_event ?hg (N := 2) ?hd (cs := #[.slice A0_0 l0_0.length c0_0]) (t := 74) ?hr ?_; (case hd => rfl); (case hg => rfl); (case hr => first | (go_simp; done) | (go_simp; rfl)); intro gb304 hg w4 hbox hb; have BK304 := Aside0.mk (hbox); have GW304 := Aside0.mk ((by rw [hg]; exact (below_size bq) : w.heap.size ≤ gb304)); have GE304 := Aside0.mk ((by rw [hg]; exact (below_size bq) : w.heap.size ≤ gb304)); replace HB := Aside0.mk (below_step bq hb); clear hb hbox hg; have hcz5_0 := bc0 BK304; have hfz5_0 := blk_frozen BK304.out 0) | ((with_reducible refine gate_callee (f := 89) rfl ?_); refine gL 7 Tryd.func89 #[.agg #[.slice A0_0 l0_0.length c0_0]] ?_; (with_reducible refine (impl_sequence.calls k _ _ l0_0 t305 _ ?side1 ?side2 A3.out).mono ?_); (case side1 => exact kc HR0_0); (case side2 => exact HC0_0.out); rintro e w6 ⟨v306, rfl, ho0, hb⟩; refine ⟨_, rfl, ?_⟩; have HO307 := Aside0.mk (Kd.R_lower (Kd.R_newM (M := fun k_ => (w.heap.size ≤ k_)) ho0 (below_size bq) (fun k_ h_ => h_)) (below_size bq)); replace BK304 := Aside0.mk (blk_below (g := gb304) (o := .cells #[.slice A0_0 l0_0.length c0_0] 74 (0, 0)) (bk BK304) hb); replace HB := Aside0.mk (below_step bq hb); (try clear hb); (try clear ho0)))
 go_loopg [5] k (fun kq v5 w' => ∃ (x5_1 : List Int), Aside0 (impl_firstOf.l0 kq a1 x5_1 = some r) ∧ Aside0 (kq ≤ k) ∧ Aside0 (Kd.R (Kd.int .i64) 2 w' w.heap.size (fun k_ => (w.heap.size ≤ k_)) v5 x5_1) ∧ Aside0 (w'.heap[gb304]? = some (.cells #[(.slice A0_0 l0_0.length c0_0)] 74 (0, 0))) ∧ Aside0 (Below w.heap.size w w'))
 case atStart => exact ⟨(t305), H', ⟨Nat.le_refl _⟩, ⟨by (with_reducible repeat (first | apply Kd.R_alloc | apply Kd.R_drewN | apply Kd.R_drew)); exact Kd.R_mono HO307.out (fun _ hk => hk.1)⟩, ⟨bk BK304⟩, ⟨bq⟩⟩
 case round =>
  clear H'
  try clear p2
  try clear hcz5_0
  try clear hfz5_0
  obtain ⟨x5_1, HA, HK1, HO_5, BK304, HB⟩ := hrel
  cases gk with
  | zero => exact absurd HA.out (by simp [impl_firstOf.l0])
  | succ k1 =>
   have H := HA.out
   clear HA
   simp only [impl_firstOf.l0] at H
   by_cases c7 : (x5_1.length : Int) < a1
   ·rw [if_pos c7] at H
    have c7b0 : decide ((x5_1.length : Int) < a1) = true := decide_eq_true c7
    clear c7
    revert H
    refine ifr fun c8 H => ?_
    have LMc8 := Aside0.mk c8
    clear c8
    obtain ⟨y308, hy308⟩ : ∃ y_ : List Int, y_ = (x5_1 ++ [1]) := ⟨_, rfl⟩
    replace H : (impl_firstOf.l0 k1 a1 y308) = some r := by first | (rw [hy308]; with_reducible exact H) | (have H2_ := (Option.bind_some _ _).symm.trans H; rw [hy308]; with_reducible exact H2_) | (have H2_ := (Option.bind_some _ _).symm.trans H; with_reducible exact H2_) | with_reducible exact H | (rw [hy308]; exact H) | exact H
    have Ny308 := Aside0.mk hy308
    clear hy308
    have H' := Aside0.mk H
    clear H
    obtain ⟨Ao9, co9, eo9⟩ := Kd.R_slice HO_5.out
    subst eo9
    go_wp2_with (first | ((with_reducible refine gate_builtin (b := .append) (xs := #[.tmp 12, .tmp 13]) rfl ?_); at_builtin; refine Kd.R_append (Kd.int .i64) (w0 := w) w.heap.size rfl (.tmp 12) (.tmp 13) 35 2 (.int .i64 0) 8 rfl Tryd.underlying35 info2 rfl (by decide) (by omega) (.slice Ao9 x5_1.length co9) x5_1 1 [.int .i64 1] (fun k_ => (w.heap.size ≤ k_)) (fun _ => False) rfl rfl ?aP (fun _ hk => hk.elim) ?aF ?aO ?aB ?aS ?aL ?_; (case aP => exact rfl); (case aB => exact bq); (case aF => exact (fun k_ hk => (Nat.le_trans (below_size bq) hk))); (case aO => exact (by (with_reducible repeat (first | apply Kd.R_alloc | apply Kd.R_drewN | apply Kd.R_drew)); exact HO_5.out)); (case aS => exact (below_size bq)); (case aL => have := LMc8.out; omega); intro v309 w10 ho hb hg hat; rw [← Ny308.out] at ho; have n0_ := Aside0.mk (blk_grown (g := gb304) (o := .cells #[.slice A0_0 l0_0.length c0_0] 74 (0, 0)) (bk BK304) hg (Kd.R_ne HO_5.out BK304.out (by decide))); have n1_ := Aside0.mk (hb); have n2_ := Aside0.mk (ho); clear BK304; clear HB; clear HO_5; have BK304 := n0_; have HB := n1_; have HO310 := n2_; clear n0_ n1_ n2_; clear ho hb hg hat))
    go_roundg k1
    case measure => have := HK1.out; omega
    case rel => exact ⟨(y308), H', ⟨by have := HK1.out; omega⟩, ⟨by (with_reducible repeat (first | apply Kd.R_alloc | apply Kd.R_drewN | apply Kd.R_drew)); exact HO310.out⟩, ⟨bk BK304⟩, ⟨bq⟩⟩
   ·rw [if_neg c7] at H
    have c7b0 : decide ((x5_1.length : Int) < a1) = false := decide_eq_false c7
    clear c7
    by_cases c11 : 0 ≤ a1
    ·rw [if_pos c11] at H
     have c11b0 := eq_true c11
     have c11b1 : decide (0 ≤ a1) = true := decide_eq_true c11
     clear c11
     revert H
     refine ifr fun c12 H => ?_
     have c12b0 := eq_true c12
     have c12b1 : decide (a1 ≤ (x5_1.length : Int)) = true := decide_eq_true c12
     clear c12
     obtain ⟨y311, hy311⟩ : ∃ y_ : List Int, y_ = (x5_1.take (a1 : Int).toNat) := ⟨_, rfl⟩
     replace H : (some y311) = some r := by first | (rw [hy311]; with_reducible exact H) | (have H2_ := (Option.bind_some _ _).symm.trans H; rw [hy311]; with_reducible exact H2_) | (have H2_ := (Option.bind_some _ _).symm.trans H; with_reducible exact H2_) | with_reducible exact H | (rw [hy311]; exact H) | exact H
     have Ny311 := Aside0.mk hy311
     clear hy311
     obtain rfl := Option.some.inj H
     obtain ⟨Ao13, co13, eo13⟩ := Kd.R_slice HO_5.out
     subst eo13
     have q14 : (a1 : Int) ≤ ((x5_1.length : Int) : Int) := ode
     obtain ⟨i014, hi014, _, hsz14, _⟩ := info_parts info2
     have hroom14 : x5_1.length ≤ co13 := (Kd.R_reads' HO_5.out).2.1
     have hC14 : Kd.F (Kd.int .i64) _ _ Ao13 x5_1.length x5_1 := (Kd.V_at (base := w.heap.size) (Kd.R_V (Kd.R_types (HO_5.out) BK304.out (by decide)))).2.2
     have hcut14 := cut_tom (P := Tryd.prog) 35 2 .i64 Tryd.underlying35 hi014 Ao13 x5_1.length co13 a1 (ode) q14 hroom14
     have hr14 := Kd.F_take (m := (a1 : Int).toNat) hC14 (by omega)
     have hy14 : y311.length = (a1 : Int).toNat := (by rw [Ny311.out, List.length_take]; omega)
     rw [← Ny311.out] at hr14
     rw [← hy14] at hcut14
     have HO315 := Aside0.mk (show Kd.V (Kd.int .i64) 2 _ w.heap.size _ (.slice Ao13 y311.length y311.length) y311 from Kd.V_mk (by omega) hr14)
     have HC315 := Aside0.mk (show y311.length ≤ y311.length from by omega)
     clear hr14 hC14 hroom14 hi014 hsz14
     have KY14 := Aside0.mk hy14
     clear hy14
     replace q14 := eq_true q14
     go_wp2
     go_ret
     exact ⟨_, eq_, by (with_reducible repeat (first | apply Kd.V_alloc | apply Kd.V_drewN | apply Kd.V_drew)); exact Kd.V_mono HO315.out (fun _ hk => hk.1), bq⟩
    ·rw [if_neg c11] at H
     exact absurd H (by simp)

/-! ### impl_proximatesOf: function 54 -/
def impl_proximatesOf.f (k : Nat) (l0_0 : List Int) (a1 : Int) : Option ((List (List Int))) := (impl_firstOf.f k l0_0 a1).bind fun t317 => ((impl_proximates.f k t317).bind fun t320 => (some t320))
set_option maxHeartbeats 8000000 in
set_option maxRecDepth 100000 in
theorem impl_proximatesOf.calls (k : Nat) (A0_0 : Option Addr) (c0_0 : Nat) (l0_0 : List Int) (a1 : Int) (r : List (List Int)) (w : World) (hr0_0 : Kd.C (Kd.int .i64) w A0_0 l0_0.length l0_0) (hc0_0 : l0_0.length ≤ c0_0) (h : impl_proximatesOf.f k l0_0 a1 = some r) :
  Calls Tryd.prog 54 #[.agg #[.slice A0_0 l0_0.length c0_0], .int .i64 a1] w fun e w' => ∃ v0_ : Value, e = .returned (v0_) ∧ Kd.S (Kd.slice 2 (Kd.int .i64)) 35 w' w.heap.size (fun _ => True) v0_ r ∧ Below w.heap.size w w' := by
 have hu74 := Tryd.underlying74
 have HR0_0 := Aside0.mk hr0_0
 have HC0_0 := Aside0.mk hc0_0
 clear hr0_0 hc0_0
 have HB := Aside0.mk (Below.refl w.heap.size w)
 have H : ((impl_firstOf.f k l0_0 a1).bind fun t317 => ((impl_proximates.f k t317).bind fun t320 => (some t320))) = some r := h
 clear h
 replace H := Option.bind_eq_some_iff.mp H
 obtain ⟨t317, A30, H⟩ := H
 replace H : ((impl_proximates.f k t317).bind fun t320 => (some t320)) = some r := H
 have A3 := Aside0.mk A30
 clear A30
 replace H := Option.bind_eq_some_iff.mp H
 obtain ⟨t320, A40, H⟩ := H
 replace H : (some t320) = some r := H
 have A4 := Aside0.mk A40
 clear A40
 obtain rfl := Option.some.inj H
 go_enter Tryd.func54, Tryd.ntmps54
 go_wp2_with (first | ((with_reducible refine gate_dst (N := 2) rfl ?_); refine box_event ?hg (N := 2) ?hd (cs := #[.slice A0_0 l0_0.length c0_0]) (t := 74) ?hr ?_; (case hd => rfl); (case hg => rfl); (case hr => first | (go_simp; done) | (go_simp; rfl)); intro gb316 hg w5 hbox hb; have BK316 := Aside0.mk (hbox); have GW316 := Aside0.mk ((by rw [hg]; exact (below_size bq) : w.heap.size ≤ gb316)); have GE316 := Aside0.mk ((by rw [hg]; exact (below_size bq) : w.heap.size ≤ gb316)); replace HB := Aside0.mk (below_step bq hb); clear hb hbox hg; have hcz6_0 := bc0 BK316; have hfz6_0 := blk_frozen BK316.out 0) | ((with_reducible refine gate_callee (f := 86) rfl ?_); refine gL 7 Tryd.func86 #[.agg #[.slice A0_0 l0_0.length c0_0], .int .i64 a1] ?_; (with_reducible refine (impl_firstOf.calls k _ _ l0_0 a1 t317 _ ?side1 ?side2 A3.out).mono ?_); (case side1 => exact kc HR0_0); (case side2 => exact HC0_0.out); rintro e w7 ⟨v318, rfl, ho0, hb⟩; refine ⟨_, rfl, ?_⟩; have HO319 := Aside0.mk (Kd.V_lower (Kd.V_mono (ok' := fun k_ => k_ ≠ gb316) ho0 (fun k_ hk_ => (Kd.freshB (g := gb316) (o := .cells #[.slice A0_0 l0_0.length c0_0] 74 (0, 0)) (bk BK316) k_ hk_))) (below_size bq)); replace BK316 := Aside0.mk (blk_below (g := gb316) (o := .cells #[.slice A0_0 l0_0.length c0_0] 74 (0, 0)) (bk BK316) hb); replace HB := Aside0.mk (below_step bq hb); (try clear hb); (try clear ho0); obtain ⟨Ao8, co8, eo8⟩ := Kd.V_slice HO319.out; subst eo8) | ((with_reducible refine gate_callee (f := 85) rfl ?_); refine gL 8 Tryd.func85 #[.slice Ao8 t317.length co8] ?_; (with_reducible refine (impl_proximates.calls k _ _ t317 t320 _ ?side1 ?side2 A4.out).mono ?_); (case side1 => repeat (first | exact (Kd.V_reads' HO319.out).2.2 | (with_reducible refine Kd.C_alloc ?_ _) | (with_reducible refine Kd.C_drewN ?_ _) | (with_reducible refine Kd.C_drew ?_))); (case side2 => exact (Kd.V_reads' HO319.out).2.1); rintro e w9 ⟨v321, rfl, ho0, hb⟩; refine ⟨_, rfl, ?_⟩; replace HO319 := Aside0.mk (Kd.V_elder' (by (with_reducible repeat (first | apply Kd.V_alloc | apply Kd.V_drewN | apply Kd.V_drew)); exact HO319.out) (Kd.S_base ho0) hb); have HO322 := Aside0.mk (Kd.S_lower ho0 (below_size bq)); replace BK316 := Aside0.mk (blk_below (g := gb316) (o := .cells #[.slice A0_0 l0_0.length c0_0] 74 (0, 0)) (bk BK316) hb); replace HB := Aside0.mk (below_step bq hb); (try clear hb); (try clear ho0)))
 go_ret
 exact ⟨_, eq_, by (with_reducible repeat (first | apply Kd.S_alloc | apply Kd.S_drewN | apply Kd.S_drew)); exact HO322.out, bq⟩
end Go.Proofs.YtkfdfpcdcabcoaaDoor.QDesx
