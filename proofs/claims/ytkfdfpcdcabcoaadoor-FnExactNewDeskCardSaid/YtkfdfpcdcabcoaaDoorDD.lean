/- Walks: the printed functions, and that each call comes to them (4). -/
import Derived.Test.YtkfdfpcdcabcoaaDoorX
import Derived.Test.YtkfdfpcdcabcoaaDoorDA
namespace Go.Proofs.YtkfdfpcdcabcoaaDoor.QDesx
open Go.RowKit Go.Proofs.YtkfdfpcdcabcoaaDoorW.PrintWords Go.Proofs.YtkfdfpcdcabcoaaDoorW.PrintLast Go.Proofs.YtkfdfpcdcabcoaaDoorW.PrintMore
attribute [local go_sem] max2_int min2_int max_two min_two max_three min_three max_four min_four
set_option linter.unusedVariables false
set_option linter.unusedSimpArgs false

/-! ### impl_inRange: function 81 -/
def impl_inRange.f (a0 : Int) (a1 : Int) (a2 : Int) : Option (Bool) := if a1 ≤ a0 then (some (decide (a0 ≤ a2))) else (some false)
set_option maxHeartbeats 8000000 in
set_option maxRecDepth 100000 in
theorem impl_inRange.calls (a0 : Int) (a1 : Int) (a2 : Int) (r : Bool) (w : World) (h : impl_inRange.f a0 a1 a2 = some r) :
  Calls Tryd.prog 81 #[.int .i64 a0, .int .i64 a1, .int .i64 a2] w fun e w' => e = .returned (.bool r) ∧ Drawn0 w w' := by
 have H : (if a1 ≤ a0 then (some (decide (a0 ≤ a2))) else (some false)) = some r := h
 clear h
 by_cases c4 : a1 ≤ a0
 ·rw [if_pos c4] at H
  have c4b0 : decide (a1 ≤ a0) = true := decide_eq_true c4
  clear c4
  obtain rfl := Option.some.inj H
  go_enter Tryd.func81, Tryd.ntmps81
  go_wp2
  go_ret
  exact ⟨by first | rfl | (simp; done) | (simp [*]; done), by repeat (first | exact Drawn0.refl _ | apply Drawn0.step)⟩
 ·rw [if_neg c4] at H
  have c4b0 : decide (a1 ≤ a0) = false := decide_eq_false c4
  clear c4
  obtain rfl := Option.some.inj H
  go_enter Tryd.func81, Tryd.ntmps81
  go_wp2
  go_ret
  exact ⟨by first | rfl | (simp; done) | (simp [*]; done), by repeat (first | exact Drawn0.refl _ | apply Drawn0.step)⟩

/-! ### impl_isTable: function 51 -/
mutual
def impl_isTable.l0 : Nat → List (List Int) → Int → List (List Int) → Int → Int → Option (Bool)
 | 0, _, _, _, _, _ => none
 | k + 1, x0, x1, x17, x18, x19 => if x19 < x18 then (if 0 ≤ x19 then (if x19 < (x17.length : Int) then (if ((rd_L1 x17 x19).length : Int) = x1 then (impl_isTable.l1 k x0 x1 x19 x17 x18 x19 (rd_L1 x17 x19) ((rd_L1 x17 x19).length : Int) 0) else (none)) else (none)) else (none)) else (impl_isTable.l2 k x0 x0 (x0.length : Int) 0)
def impl_isTable.l1 : Nat → List (List Int) → Int → Int → List (List Int) → Int → Int → List Int → Int → Int → Option (Bool)
 | 0, _, _, _, _, _, _, _, _, _ => none
 | k + 1, x0, x1, x5, x17, x18, x19, x28, x29, x30 => if x30 < x29 then (if 0 ≤ x30 then (if x30 < (x28.length : Int) then (if x5 = x30 then (if (rd x28 x30) = 0 then (impl_isTable.l1 k x0 x1 x5 x17 x18 x19 x28 x29 (wrap64 (x30 + 1))) else (none)) else ((impl_inRange.f (rd x28 x30) 1 200).bind fun t218 => (if t218 = true then (impl_isTable.l1 k x0 x1 x5 x17 x18 x19 x28 x29 (wrap64 (x30 + 1))) else (none)))) else (none)) else (none)) else (impl_isTable.l0 k x0 x1 x17 x18 (wrap64 (x19 + 1)))
def impl_isTable.l2 : Nat → List (List Int) → List (List Int) → Int → Int → Option (Bool)
 | 0, _, _, _, _ => none
 | k + 1, x0, x54, x55, x56 => if x56 < x55 then (if 0 ≤ x56 then (if x56 < (x54.length : Int) then (impl_isTable.l3 k x0 x56 x54 x55 x56 (rd_L1 x54 x56) ((rd_L1 x54 x56).length : Int) 0) else (none)) else (none)) else (some true)
def impl_isTable.l3 : Nat → List (List Int) → Int → List (List Int) → Int → Int → List Int → Int → Int → Option (Bool)
 | 0, _, _, _, _, _, _, _, _ => none
 | k + 1, x0, x9, x54, x55, x56, x61, x62, x63 => if x63 < x62 then (if 0 ≤ x63 then (if x63 < (x61.length : Int) then (if x63 < (x0.length : Int) then (if 0 ≤ x9 then (if x9 < ((rd_L1 x0 x63).length : Int) then (if (rd (rd_L1 x0 x63) x9) = (rd x61 x63) then (impl_isTable.l3 k x0 x9 x54 x55 x56 x61 x62 (wrap64 (x63 + 1))) else (none)) else (none)) else (none)) else (none)) else (none)) else (none)) else (impl_isTable.l2 k x0 x54 x55 (wrap64 (x56 + 1)))
end
def impl_isTable.f (k : Nat) (l0 : List (List Int)) (a1 : Int) : Option (Bool) := if (l0.length : Int) = a1 then (impl_isTable.l0 k l0 a1 l0 (l0.length : Int) 0) else (none)
set_option maxHeartbeats 8000000 in
set_option maxRecDepth 100000 in
theorem impl_isTable.calls (k : Nat) (A0 : Option Addr) (c0 : Nat) (l0 : List (List Int)) (a1 : Int) (r : Bool) (w : World) (hr0 : Kd.C (Kd.slice 2 (Kd.int .i64)) w A0 l0.length l0) (hc0 : l0.length ≤ c0) (h : impl_isTable.f k l0 a1 = some r) :
  Calls Tryd.prog 51 #[.slice A0 l0.length c0, .int .i64 a1] w fun e w' => e = .returned (.bool r) ∧ Drawn0 w w' := by
 have HR0 := Aside0.mk hr0
 have HC0 := Aside0.mk hc0
 clear hr0 hc0
 have H : (if (l0.length : Int) = a1 then (impl_isTable.l0 k l0 a1 l0 (l0.length : Int) 0) else (none)) = some r := h
 clear h
 by_cases c3 : (l0.length : Int) = a1
 ·rw [if_pos c3] at H
  have c3b0 : ((l0.length : Int) == a1) = true := beq_iff_eq.mpr c3
  have c3b1 : ((l0.length : Int) != a1) = false := bne_eq_false_iff_eq.mpr c3
  clear c3
  have H' := Aside0.mk H
  clear H
  go_enter Tryd.func51, Tryd.ntmps51
  go_wp2
  go_loopg [19] k (fun kq v19 w' => ∃ (x19_1 : Int), v19 = .int .i64 x19_1 ∧ Aside0 (impl_isTable.l0 kq l0 a1 l0 (l0.length : Int) x19_1 = some r) ∧ Aside0 (kq ≤ k) ∧ Drawn0 w w')
  case atStart => exact ⟨(0), (by first | rfl | (simp; done) | (simp [*]; done)), H', ⟨Nat.le_refl _⟩, by repeat (first | exact Drawn0.refl _ | apply Drawn0.step)⟩
  case round =>
   clear H'
   try clear p2
   try clear c3
   try clear c3b0
   try clear c3b1
   obtain ⟨x19_1, rfl, HA, HK1, ⟨m1, rfl⟩⟩ := hrel
   cases gk with
   | zero => exact absurd HA.out (by simp [impl_isTable.l0])
   | succ k1 =>
    have H := HA.out
    clear HA
    simp only [impl_isTable.l0] at H
    by_cases c4 : x19_1 < (l0.length : Int)
    ·rw [if_pos c4] at H
     have c4b0 : decide (x19_1 < (l0.length : Int)) = true := decide_eq_true c4
     clear c4
     revert H
     refine ifr fun c5 H => ?_
     have c5b0 : decide (0 ≤ x19_1) = true := decide_eq_true c5
     clear c5
     revert H
     refine ifr fun c6 H => ?_
     have c6b0 : decide (x19_1 < (l0.length : Int)) = true := decide_eq_true c6
     clear c6
     revert H
     refine ifr fun c7 H => ?_
     have c7b0 : (((rd_L1 l0 x19_1).length : Int) == a1) = true := beq_iff_eq.mpr c7
     have c7b1 : (((rd_L1 l0 x19_1).length : Int) != a1) = false := bne_eq_false_iff_eq.mpr c7
     clear c7
     have H' := Aside0.mk H
     clear H
     have p216 : 0 ≤ (x19_1 : Int) := ode
     have q216 : x19_1 < (l0.length : Int) := ode
     obtain ⟨ad216, A216_0, c216_0, e216, hx216_0, hl216_0, hi216_0⟩ := at_L1 HR0.out x19_1 p216 q216
     cases e216
     have HR216_0 := Aside0.mk hi216_0
     have HC216_0 := Aside0.mk hl216_0
     clear hi216_0 hl216_0
     replace p216 := eq_true p216
     replace q216 := eq_true q216
     go_wp2
     go_loopg [30] k1 (fun kq v30 w' => ∃ (x30_2 : Int), v30 = .int .i64 x30_2 ∧ Aside0 (impl_isTable.l1 kq l0 a1 x19_1 l0 (l0.length : Int) x19_1 (rd_L1 l0 x19_1) ((rd_L1 l0 x19_1).length : Int) x30_2 = some r) ∧ Aside0 (kq ≤ k1) ∧ Drawn0 w w')
     case atStart => exact ⟨(0), (by first | rfl | (simp; done) | (simp [*]; done)), H', ⟨Nat.le_refl _⟩, by repeat (first | exact Drawn0.refl _ | apply Drawn0.step)⟩
     case round =>
      clear H'
      try clear c2
      try clear p2
      try clear q2
      try clear hx2
      try clear c3
      try clear c3b0
      try clear c3b1
      try clear c4
      try clear c4b0
      try clear c5
      try clear c5b0
      try clear c6
      try clear c6b0
      try clear c7
      try clear c7b0
      try clear c7b1
      try clear hx216_0
      try clear p2
      try clear p216
      try clear q216
      obtain ⟨x30_2, rfl, HA, HK2, ⟨m2, rfl⟩⟩ := hrel
      cases gk with
      | zero => exact absurd HA.out (by simp [impl_isTable.l1])
      | succ k2 =>
       have H := HA.out
       clear HA
       simp only [impl_isTable.l1] at H
       by_cases c8 : x30_2 < ((rd_L1 l0 x19_1).length : Int)
       ·rw [if_pos c8] at H
        have c8b0 : decide (x30_2 < ((rd_L1 l0 x19_1).length : Int)) = true := decide_eq_true c8
        clear c8
        revert H
        refine ifr fun c9 H => ?_
        have c9b0 : decide (0 ≤ x30_2) = true := decide_eq_true c9
        clear c9
        revert H
        refine ifr fun c10 H => ?_
        have c10b0 : decide (x30_2 < ((rd_L1 l0 x19_1).length : Int)) = true := decide_eq_true c10
        clear c10
        by_cases c11 : x19_1 = x30_2
        ·rw [if_pos c11] at H
         have c11b0 : (x19_1 == x30_2) = true := beq_iff_eq.mpr c11
         have c11b1 : (x19_1 != x30_2) = false := bne_eq_false_iff_eq.mpr c11
         clear c11
         revert H
         refine ifr fun c12 H => ?_
         have c12b0 : ((rd (rd_L1 l0 x19_1) x30_2) == 0) = true := beq_iff_eq.mpr c12
         have c12b1 : ((rd (rd_L1 l0 x19_1) x30_2) != 0) = false := bne_eq_false_iff_eq.mpr c12
         clear c12
         have H' := Aside0.mk H
         clear H
         have p217 : 0 ≤ (x30_2 : Int) := ode
         have q217 : x30_2 < ((rd_L1 l0 x19_1).length : Int) := ode
         obtain ⟨ad217, e217, hx217_0⟩ := Kd.at_int HR216_0.out x30_2 p217 q217
         cases e217
         replace p217 := eq_true p217
         replace q217 := eq_true q217
         go_wp2
         go_roundg k2
         case measure => have := HK1.out; have := HK2.out; omega
         case rel => exact ⟨(wrap64 (x30_2 + 1)), (by first | rfl | (simp; done) | (simp [*]; done)), H', ⟨by have := HK1.out; have := HK2.out; omega⟩, by repeat (first | exact Drawn0.refl _ | apply Drawn0.step)⟩
        ·rw [if_neg c11] at H
         have c11b0 : (x19_1 == x30_2) = false := beq_eq_false_iff_ne.mpr c11
         have c11b1 : (x19_1 != x30_2) = true := bne_iff_ne.mpr c11
         replace H := Option.bind_eq_some_iff.mp H
         obtain ⟨t218, A130, H⟩ := H
         replace H : (if t218 = true then (impl_isTable.l1 k2 l0 a1 x19_1 l0 (l0.length : Int) x19_1 (rd_L1 l0 x19_1) ((rd_L1 l0 x19_1).length : Int) (wrap64 (x30_2 + 1))) else (none)) = some r := H
         have A13 := Aside0.mk A130
         clear A130
         by_cases c14 : t218 = true
         ·subst c14
          have H1 : (impl_isTable.l1 k2 l0 a1 x19_1 l0 (l0.length : Int) x19_1 (rd_L1 l0 x19_1) ((rd_L1 l0 x19_1).length : Int) (wrap64 (x30_2 + 1))) = some r := by rw [if_pos rfl] at H; exact H
          clear H
          have H := H1
          clear H1
          have H' := Aside0.mk H
          clear H
          have p217 : 0 ≤ (x30_2 : Int) := ode
          have q217 : x30_2 < ((rd_L1 l0 x19_1).length : Int) := ode
          obtain ⟨ad217, e217, hx217_0⟩ := Kd.at_int HR216_0.out x30_2 p217 q217
          cases e217
          replace p217 := eq_true p217
          replace q217 := eq_true q217
          go_wp2_with (first | (go_at_call 81; (with_reducible refine (impl_inRange.calls (rd (rd_L1 l0 x19_1) x30_2) 1 200 true _ A13.out).mono ?_); rintro e w' ⟨rfl, ⟨nd, rfl⟩⟩))
          go_roundg k2
          case measure => have := HK1.out; have := HK2.out; omega
          case rel => exact ⟨(wrap64 (x30_2 + 1)), (by first | rfl | (simp; done) | (simp [*]; done)), H', ⟨by have := HK1.out; have := HK2.out; omega⟩, by repeat (first | exact Drawn0.refl _ | apply Drawn0.step)⟩
         ·replace c14 := Bool.eq_false_iff.mpr c14
          subst c14
          have H1 : (none) = some r := by rw [if_neg (show ¬ (false = true) by decide)] at H; exact H
          clear H
          have H := H1
          clear H1
          exact absurd H (by simp)
       ·rw [if_neg c8] at H
        have c8b0 : decide (x30_2 < ((rd_L1 l0 x19_1).length : Int)) = false := decide_eq_false c8
        clear c8
        have H' := Aside0.mk H
        clear H
        go_wp2
        go_roundg k2
        case measure => have := HK1.out; have := HK2.out; omega
        case rel => exact ⟨(wrap64 (x19_1 + 1)), (by first | rfl | (simp; done) | (simp [*]; done)), H', ⟨by have := HK1.out; have := HK2.out; omega⟩, by repeat (first | exact Drawn0.refl _ | apply Drawn0.step)⟩
    ·rw [if_neg c4] at H
     have c4b0 : decide (x19_1 < (l0.length : Int)) = false := decide_eq_false c4
     clear c4
     have H' := Aside0.mk H
     clear H
     go_wp2
     go_loopg [56] k1 (fun kq v56 w' => ∃ (x56_2 : Int), v56 = .int .i64 x56_2 ∧ Aside0 (impl_isTable.l2 kq l0 l0 (l0.length : Int) x56_2 = some r) ∧ Aside0 (kq ≤ k1) ∧ Drawn0 w w')
     case atStart => exact ⟨(0), (by first | rfl | (simp; done) | (simp [*]; done)), H', ⟨Nat.le_refl _⟩, by repeat (first | exact Drawn0.refl _ | apply Drawn0.step)⟩
     case round =>
      clear H'
      try clear c1
      try clear c2
      try clear p2
      try clear q2
      try clear hx2
      try clear c3
      try clear c3b0
      try clear c3b1
      try clear c4
      try clear c4b0
      try clear c5
      try clear c5b0
      try clear c6
      try clear c6b0
      try clear p6
      try clear c7
      try clear c7b0
      try clear c7b1
      try clear c8
      try clear c8b0
      try clear c9
      try clear c9b0
      try clear c10
      try clear c10b0
      try clear c11
      try clear c11b0
      try clear c11b1
      try clear c12
      try clear c12b0
      try clear c12b1
      try clear c14
      try clear hx216_0
      try clear hx217_0
      try clear p2
      try clear p216
      try clear p217
      try clear q2
      try clear q216
      try clear q217
      obtain ⟨x56_2, rfl, HA, HK2, ⟨m2, rfl⟩⟩ := hrel
      cases gk with
      | zero => exact absurd HA.out (by simp [impl_isTable.l2])
      | succ k2 =>
       have H := HA.out
       clear HA
       simp only [impl_isTable.l2] at H
       by_cases c15 : x56_2 < (l0.length : Int)
       ·rw [if_pos c15] at H
        have c15b0 : decide (x56_2 < (l0.length : Int)) = true := decide_eq_true c15
        clear c15
        revert H
        refine ifr fun c16 H => ?_
        have c16b0 : decide (0 ≤ x56_2) = true := decide_eq_true c16
        clear c16
        revert H
        refine ifr fun c17 H => ?_
        have c17b0 : decide (x56_2 < (l0.length : Int)) = true := decide_eq_true c17
        clear c17
        have H' := Aside0.mk H
        clear H
        have p219 : 0 ≤ (x56_2 : Int) := ode
        have q219 : x56_2 < (l0.length : Int) := ode
        obtain ⟨ad219, A219_0, c219_0, e219, hx219_0, hl219_0, hi219_0⟩ := at_L1 HR0.out x56_2 p219 q219
        cases e219
        have HR219_0 := Aside0.mk hi219_0
        have HC219_0 := Aside0.mk hl219_0
        clear hi219_0 hl219_0
        replace p219 := eq_true p219
        replace q219 := eq_true q219
        go_wp2
        go_loopg [63] k2 (fun kq v63 w' => ∃ (x63_3 : Int), v63 = .int .i64 x63_3 ∧ Aside0 (impl_isTable.l3 kq l0 x56_2 l0 (l0.length : Int) x56_2 (rd_L1 l0 x56_2) ((rd_L1 l0 x56_2).length : Int) x63_3 = some r) ∧ Aside0 (kq ≤ k2) ∧ Drawn0 w w')
        case atStart => exact ⟨(0), (by first | rfl | (simp; done) | (simp [*]; done)), H', ⟨Nat.le_refl _⟩, by repeat (first | exact Drawn0.refl _ | apply Drawn0.step)⟩
        case round =>
         clear H'
         try clear c1
         try clear c2
         try clear p2
         try clear q2
         try clear hx2
         try clear c3
         try clear c3b0
         try clear c3b1
         try clear c4
         try clear c4b0
         try clear c5
         try clear c5b0
         try clear c6
         try clear c6b0
         try clear p6
         try clear c7
         try clear c7b0
         try clear c7b1
         try clear c8
         try clear c8b0
         try clear c9
         try clear c9b0
         try clear c10
         try clear c10b0
         try clear c11
         try clear c11b0
         try clear c11b1
         try clear c12
         try clear c12b0
         try clear c12b1
         try clear c14
         try clear c15
         try clear c15b0
         try clear c16
         try clear c16b0
         try clear c17
         try clear c17b0
         try clear hx216_0
         try clear hx217_0
         try clear hx219_0
         try clear p2
         try clear p216
         try clear p217
         try clear p219
         try clear p6
         try clear q2
         try clear q216
         try clear q217
         try clear q219
         obtain ⟨x63_3, rfl, HA, HK3, ⟨m3, rfl⟩⟩ := hrel
         cases gk with
         | zero => exact absurd HA.out (by simp [impl_isTable.l3])
         | succ k3 =>
          have H := HA.out
          clear HA
          simp only [impl_isTable.l3] at H
          by_cases c18 : x63_3 < ((rd_L1 l0 x56_2).length : Int)
          ·rw [if_pos c18] at H
           have c18b0 : decide (x63_3 < ((rd_L1 l0 x56_2).length : Int)) = true := decide_eq_true c18
           clear c18
           revert H
           refine ifr fun c19 H => ?_
           have c19b0 : decide (0 ≤ x63_3) = true := decide_eq_true c19
           clear c19
           revert H
           refine ifr fun c20 H => ?_
           have c20b0 : decide (x63_3 < ((rd_L1 l0 x56_2).length : Int)) = true := decide_eq_true c20
           clear c20
           revert H
           refine ifr fun c21 H => ?_
           have c21b0 : decide (x63_3 < (l0.length : Int)) = true := decide_eq_true c21
           clear c21
           revert H
           refine ifr fun c22 H => ?_
           have c22b0 : decide (0 ≤ x56_2) = true := decide_eq_true c22
           clear c22
           revert H
           refine ifr fun c23 H => ?_
           have c23b0 : decide (x56_2 < ((rd_L1 l0 x63_3).length : Int)) = true := decide_eq_true c23
           clear c23
           revert H
           refine ifr fun c24 H => ?_
           have c24b0 : ((rd (rd_L1 l0 x63_3) x56_2) == (rd (rd_L1 l0 x56_2) x63_3)) = true := beq_iff_eq.mpr c24
           have c24b1 : ((rd (rd_L1 l0 x63_3) x56_2) != (rd (rd_L1 l0 x56_2) x63_3)) = false := bne_eq_false_iff_eq.mpr c24
           clear c24
           have H' := Aside0.mk H
           clear H
           have p220 : 0 ≤ (x63_3 : Int) := ode
           have q220 : x63_3 < ((rd_L1 l0 x56_2).length : Int) := ode
           obtain ⟨ad220, e220, hx220_0⟩ := Kd.at_int HR219_0.out x63_3 p220 q220
           cases e220
           replace p220 := eq_true p220
           replace q220 := eq_true q220
           have p221 : 0 ≤ (x63_3 : Int) := ode
           have q221 : x63_3 < (l0.length : Int) := ode
           obtain ⟨ad221, A221_0, c221_0, e221, hx221_0, hl221_0, hi221_0⟩ := at_L1 HR0.out x63_3 p221 q221
           obtain rfl : ad219 = ad221 := (by injection e221)
           have HR221_0 := Aside0.mk hi221_0
           have HC221_0 := Aside0.mk hl221_0
           clear hi221_0 hl221_0
           replace p221 := eq_true p221
           replace q221 := eq_true q221
           have p222 : 0 ≤ (x56_2 : Int) := ode
           have q222 : x56_2 < ((rd_L1 l0 x63_3).length : Int) := ode
           obtain ⟨ad222, e222, hx222_0⟩ := Kd.at_int HR221_0.out x56_2 p222 q222
           cases e222
           replace p222 := eq_true p222
           replace q222 := eq_true q222
           go_wp2
           go_roundg k3
           case measure => have := HK1.out; have := HK2.out; have := HK3.out; omega
           case rel => exact ⟨(wrap64 (x63_3 + 1)), (by first | rfl | (simp; done) | (simp [*]; done)), H', ⟨by have := HK1.out; have := HK2.out; have := HK3.out; omega⟩, by repeat (first | exact Drawn0.refl _ | apply Drawn0.step)⟩
          ·rw [if_neg c18] at H
           have c18b0 : decide (x63_3 < ((rd_L1 l0 x56_2).length : Int)) = false := decide_eq_false c18
           clear c18
           have H' := Aside0.mk H
           clear H
           go_wp2
           go_roundg k3
           case measure => have := HK1.out; have := HK2.out; have := HK3.out; omega
           case rel => exact ⟨(wrap64 (x56_2 + 1)), (by first | rfl | (simp; done) | (simp [*]; done)), H', ⟨by have := HK1.out; have := HK2.out; have := HK3.out; omega⟩, by repeat (first | exact Drawn0.refl _ | apply Drawn0.step)⟩
       ·rw [if_neg c15] at H
        have c15b0 : decide (x56_2 < (l0.length : Int)) = false := decide_eq_false c15
        clear c15
        obtain rfl := Option.some.inj H
        go_wp2
        go_ret
        exact ⟨by first | rfl | (simp; done) | (simp [*]; done), by repeat (first | exact Drawn0.refl _ | apply Drawn0.step)⟩
 ·rw [if_neg c3] at H
  exact absurd H (by simp)

/-! ### impl_ascends: function 82 -/
def impl_ascends.l0 : Nat → List Int → Int → Option (Bool)
 | 0, _, _ => none
 | k + 1, x0, x3 => if x3 < (x0.length : Int) then (if 0 ≤ x3 then (if 0 ≤ (wrap64 (x3 - 1)) then (if (wrap64 (x3 - 1)) < (x0.length : Int) then (if (rd x0 x3) ≤ (rd x0 (wrap64 (x3 - 1))) then (none) else (impl_ascends.l0 k x0 (wrap64 (x3 + 1)))) else (none)) else (none)) else (none)) else (some true)
def impl_ascends.f (k : Nat) (l0 : List Int) : Option (Bool) := impl_ascends.l0 k l0 1
set_option maxHeartbeats 8000000 in
set_option maxRecDepth 100000 in
theorem impl_ascends.calls (k : Nat) (A0 : Option Addr) (c0 : Nat) (l0 : List Int) (r : Bool) (w : World) (hr0 : Kd.C (Kd.int .i64) w A0 l0.length l0) (hc0 : l0.length ≤ c0) (h : impl_ascends.f k l0 = some r) :
  Calls Tryd.prog 82 #[.slice A0 l0.length c0] w fun e w' => e = .returned (.bool r) ∧ Drawn0 w w' := by
 have HR0 := Aside0.mk hr0
 have HC0 := Aside0.mk hc0
 clear hr0 hc0
 have H : (impl_ascends.l0 k l0 1) = some r := h
 clear h
 have H' := Aside0.mk H
 clear H
 go_enter Tryd.func82, Tryd.ntmps82
 go_wp2
 repeat (go_quiet (fail); try go_wp2)
 go_loopg [3] k (fun kq v3 w' => ∃ (x3_1 : Int), v3 = .int .i64 x3_1 ∧ Aside0 (impl_ascends.l0 kq l0 x3_1 = some r) ∧ Aside0 (kq ≤ k) ∧ Drawn0 w w')
 case atStart => exact ⟨(1), (by first | rfl | (simp; done) | (simp [*]; done)), H', ⟨Nat.le_refl _⟩, by repeat (first | exact Drawn0.refl _ | apply Drawn0.step)⟩
 case round =>
  clear H'
  obtain ⟨x3_1, rfl, HA, HK1, ⟨m1, rfl⟩⟩ := hrel
  cases gk with
  | zero => exact absurd HA.out (by simp [impl_ascends.l0])
  | succ k1 =>
   have H := HA.out
   clear HA
   simp only [impl_ascends.l0] at H
   by_cases c2 : x3_1 < (l0.length : Int)
   ·rw [if_pos c2] at H
    have c2b0 : decide (x3_1 < (l0.length : Int)) = true := decide_eq_true c2
    clear c2
    revert H
    refine ifr fun c3 H => ?_
    have c3b0 : decide (0 ≤ x3_1) = true := decide_eq_true c3
    clear c3
    obtain ⟨ji4, hji4⟩ : ∃ j_ : Int, (wrap64 (x3_1 - 1)) = j_ := ⟨_, rfl⟩
    replace H : (if 0 ≤ (ji4) then (if (ji4) < (l0.length : Int) then (if (rd l0 x3_1) ≤ (rd l0 (ji4)) then (none) else (impl_ascends.l0 k1 l0 (wrap64 (x3_1 + 1)))) else (none)) else (none)) = some r := by first | (rw [hji4] at H; exact H) | (simp only [hji4] at H ⊢; exact H)
    have hji4w : (IntKind.i64.wrap (x3_1 - 1)) = ji4 := (i64_w _).trans hji4
    revert H
    refine ifr fun c5 H => ?_
    have c5b0 : decide (0 ≤ (ji4)) = true := decide_eq_true c5
    clear c5
    revert H
    refine ifr fun c6 H => ?_
    have c6b0 : decide ((ji4) < (l0.length : Int)) = true := decide_eq_true c6
    clear c6
    by_cases c7 : (rd l0 x3_1) ≤ (rd l0 (ji4))
    ·rw [if_pos c7] at H
     exact absurd H (by simp)
    ·rw [if_neg c7] at H
     have c7b0 : decide ((rd l0 x3_1) ≤ (rd l0 (ji4))) = false := decide_eq_false c7
     clear c7
     have H' := Aside0.mk H
     clear H
     have p223 : 0 ≤ (x3_1 : Int) := ode
     have q223 : x3_1 < (l0.length : Int) := ode
     obtain ⟨ad223, e223, hx223_0⟩ := Kd.at_int HR0.out x3_1 p223 q223
     cases e223
     replace p223 := eq_true p223
     replace q223 := eq_true q223
     have p224 : 0 ≤ ((ji4) : Int) := ode
     have q224 : (ji4) < (l0.length : Int) := ode
     obtain ⟨ad224, e224, hx224_0⟩ := Kd.at_int HR0.out (ji4) p224 q224
     obtain rfl : ad223 = ad224 := (by injection e224)
     replace p224 := eq_true p224
     replace q224 := eq_true q224
     go_wp2
     repeat (go_quiet (fail); try go_wp2)
     go_roundg k1
     case measure => have := HK1.out; omega
     case rel => exact ⟨(wrap64 (x3_1 + 1)), (by first | rfl | (simp; done) | (simp [*]; done)), H', ⟨by have := HK1.out; omega⟩, by repeat (first | exact Drawn0.refl _ | apply Drawn0.step)⟩
   ·rw [if_neg c2] at H
    have c2b0 : decide (x3_1 < (l0.length : Int)) = false := decide_eq_false c2
    clear c2
    obtain rfl := Option.some.inj H
    go_wp2
    repeat (go_quiet (fail); try go_wp2)
    go_ret
    exact ⟨by first | rfl | (simp; done) | (simp [*]; done), by repeat (first | exact Drawn0.refl _ | apply Drawn0.step)⟩

/-! ### impl_within: function 83 -/
def impl_within.l0 : Nat → Int → Int → List Int → Int → Int → Option (Bool)
 | 0, _, _, _, _, _ => none
 | k + 1, x1, x2, x9, x10, x11 => if x11 < x10 then (if 0 ≤ x11 then (if x11 < (x9.length : Int) then ((impl_inRange.f (rd x9 x11) x1 x2).bind fun t226 => (if t226 = true then (impl_within.l0 k x1 x2 x9 x10 (wrap64 (x11 + 1))) else (none))) else (none)) else (none)) else (some true)
def impl_within.f (k : Nat) (l0 : List Int) (a1 : Int) (a2 : Int) : Option (Bool) := impl_within.l0 k a1 a2 l0 (l0.length : Int) 0
set_option maxHeartbeats 8000000 in
set_option maxRecDepth 100000 in
theorem impl_within.calls (k : Nat) (A0 : Option Addr) (c0 : Nat) (l0 : List Int) (a1 : Int) (a2 : Int) (r : Bool) (w : World) (hr0 : Kd.C (Kd.int .i64) w A0 l0.length l0) (hc0 : l0.length ≤ c0) (h : impl_within.f k l0 a1 a2 = some r) :
  Calls Tryd.prog 83 #[.slice A0 l0.length c0, .int .i64 a1, .int .i64 a2] w fun e w' => e = .returned (.bool r) ∧ Drawn0 w w' := by
 have HR0 := Aside0.mk hr0
 have HC0 := Aside0.mk hc0
 clear hr0 hc0
 have H : (impl_within.l0 k a1 a2 l0 (l0.length : Int) 0) = some r := h
 clear h
 have H' := Aside0.mk H
 clear H
 go_enter Tryd.func83, Tryd.ntmps83
 go_wp2
 go_loopg [11] k (fun kq v11 w' => ∃ (x11_1 : Int), v11 = .int .i64 x11_1 ∧ Aside0 (impl_within.l0 kq a1 a2 l0 (l0.length : Int) x11_1 = some r) ∧ Aside0 (kq ≤ k) ∧ Drawn0 w w')
 case atStart => exact ⟨(0), (by first | rfl | (simp; done) | (simp [*]; done)), H', ⟨Nat.le_refl _⟩, by repeat (first | exact Drawn0.refl _ | apply Drawn0.step)⟩
 case round =>
  clear H'
  try clear p2
  obtain ⟨x11_1, rfl, HA, HK1, ⟨m1, rfl⟩⟩ := hrel
  cases gk with
  | zero => exact absurd HA.out (by simp [impl_within.l0])
  | succ k1 =>
   have H := HA.out
   clear HA
   simp only [impl_within.l0] at H
   by_cases c4 : x11_1 < (l0.length : Int)
   ·rw [if_pos c4] at H
    have c4b0 : decide (x11_1 < (l0.length : Int)) = true := decide_eq_true c4
    clear c4
    revert H
    refine ifr fun c5 H => ?_
    have c5b0 : decide (0 ≤ x11_1) = true := decide_eq_true c5
    clear c5
    revert H
    refine ifr fun c6 H => ?_
    have c6b0 : decide (x11_1 < (l0.length : Int)) = true := decide_eq_true c6
    clear c6
    replace H := Option.bind_eq_some_iff.mp H
    obtain ⟨t226, A70, H⟩ := H
    replace H : (if t226 = true then (impl_within.l0 k1 a1 a2 l0 (l0.length : Int) (wrap64 (x11_1 + 1))) else (none)) = some r := H
    have A7 := Aside0.mk A70
    clear A70
    by_cases c8 : t226 = true
    ·subst c8
     have H1 : (impl_within.l0 k1 a1 a2 l0 (l0.length : Int) (wrap64 (x11_1 + 1))) = some r := by rw [if_pos rfl] at H; exact H
     clear H
     have H := H1
     clear H1
     have H' := Aside0.mk H
     clear H
     have p225 : 0 ≤ (x11_1 : Int) := ode
     have q225 : x11_1 < (l0.length : Int) := ode
     obtain ⟨ad225, e225, hx225_0⟩ := Kd.at_int HR0.out x11_1 p225 q225
     cases e225
     replace p225 := eq_true p225
     replace q225 := eq_true q225
     go_wp2_with (first | ((with_reducible refine gate_callee (f := 81) rfl ?_); refine gL 18 Tryd.func81 #[.int .i64 (rd l0 x11_1), .int .i64 a1, .int .i64 a2] ?_; (with_reducible refine (impl_inRange.calls (rd l0 x11_1) a1 a2 true _ A7.out).mono ?_); rintro e w' ⟨rfl, ⟨nd, rfl⟩⟩; refine ⟨_, rfl, ?_⟩))
     go_roundg k1
     case measure => have := HK1.out; omega
     case rel => exact ⟨(wrap64 (x11_1 + 1)), (by first | rfl | (simp; done) | (simp [*]; done)), H', ⟨by have := HK1.out; omega⟩, by repeat (first | exact Drawn0.refl _ | apply Drawn0.step)⟩
    ·replace c8 := Bool.eq_false_iff.mpr c8
     subst c8
     have H1 : (none) = some r := by rw [if_neg (show ¬ (false = true) by decide)] at H; exact H
     clear H
     have H := H1
     clear H1
     exact absurd H (by simp)
   ·rw [if_neg c4] at H
    have c4b0 : decide (x11_1 < (l0.length : Int)) = false := decide_eq_false c4
    clear c4
    obtain rfl := Option.some.inj H
    go_wp2
    go_ret
    exact ⟨by first | rfl | (simp; done) | (simp [*]; done), by repeat (first | exact Drawn0.refl _ | apply Drawn0.step)⟩

/-! ### impl_abs: function 129 -/
def impl_abs.f (a0 : Int) : Option (Int) := if a0 < 0 then (none) else (some a0)
set_option maxHeartbeats 8000000 in
set_option maxRecDepth 100000 in
theorem impl_abs.calls (a0 : Int) (r : Int) (w : World) (h : impl_abs.f a0 = some r) :
  Calls Tryd.prog 129 #[.int .i64 a0] w fun e w' => e = .returned (.int .i64 r) ∧ Drawn0 w w' := by
 have H : (if a0 < 0 then (none) else (some a0)) = some r := h
 clear h
 by_cases c2 : a0 < 0
 ·rw [if_pos c2] at H
  exact absurd H (by simp)
 ·rw [if_neg c2] at H
  have c2b0 : decide (a0 < 0) = false := decide_eq_false c2
  clear c2
  obtain rfl := Option.some.inj H
  go_enter Tryd.func129, Tryd.ntmps129
  go_wp2
  go_ret
  exact ⟨by first | rfl | (simp; done) | (simp [*]; done), by repeat (first | exact Drawn0.refl _ | apply Drawn0.step)⟩

/-! ### impl_divisor: function 117 -/
def impl_divisor.l0 : Nat → Int → Int → Option (Int)
 | 0, _, _ => none
 | k + 1, x0, x1 => if x1 > 0 then (if x1 = 0 then (none) else (impl_divisor.l0 k x1 (Int.tmod x0 x1))) else (some x0)
def impl_divisor.f (k : Nat) (a0 : Int) (a1 : Int) : Option (Int) := (impl_abs.f a0).bind fun t227 => ((impl_abs.f a1).bind fun t228 => (impl_divisor.l0 k t227 t228))
set_option maxHeartbeats 8000000 in
set_option maxRecDepth 100000 in
theorem impl_divisor.calls (k : Nat) (a0 : Int) (a1 : Int) (r : Int) (w : World) (h : impl_divisor.f k a0 a1 = some r) :
  Calls Tryd.prog 117 #[.int .i64 a0, .int .i64 a1] w fun e w' => e = .returned (.int .i64 r) ∧ Drawn0 w w' := by
 have H : ((impl_abs.f a0).bind fun t227 => ((impl_abs.f a1).bind fun t228 => (impl_divisor.l0 k t227 t228))) = some r := h
 clear h
 replace H := Option.bind_eq_some_iff.mp H
 obtain ⟨t227, A30, H⟩ := H
 replace H : ((impl_abs.f a1).bind fun t228 => (impl_divisor.l0 k t227 t228)) = some r := H
 have A3 := Aside0.mk A30
 clear A30
 replace H := Option.bind_eq_some_iff.mp H
 obtain ⟨t228, A40, H⟩ := H
 replace H : (impl_divisor.l0 k t227 t228) = some r := H
 have A4 := Aside0.mk A40
 clear A40
 have H' := Aside0.mk H
 clear H
 go_enter Tryd.func117, Tryd.ntmps117
 go_wp2_with (first | (go_at_call 129; (with_reducible refine (impl_abs.calls a0 t227 _ A3.out).mono ?_); rintro e w' ⟨rfl, ⟨nd, rfl⟩⟩; (try first | exact ⟨rfl, _, World.drewN_drewN _ _ _⟩ | exact ⟨rfl, _, Eq.trans (World.drewN_drewN _ _ _) (congrArg (World.drewN _) (Nat.add_assoc _ _ _))⟩)) | (go_at_call 129; (with_reducible refine (impl_abs.calls a1 t228 _ A4.out).mono ?_); rintro e w' ⟨rfl, ⟨nd, rfl⟩⟩; (try first | exact ⟨rfl, _, World.drewN_drewN _ _ _⟩ | exact ⟨rfl, _, Eq.trans (World.drewN_drewN _ _ _) (congrArg (World.drewN _) (Nat.add_assoc _ _ _))⟩)))
 repeat (go_quiet (first | (go_at_call 129; (with_reducible refine (impl_abs.calls a0 t227 _ A3.out).mono ?_); rintro e w' ⟨rfl, ⟨nd, rfl⟩⟩; (try first | exact ⟨rfl, _, World.drewN_drewN _ _ _⟩ | exact ⟨rfl, _, Eq.trans (World.drewN_drewN _ _ _) (congrArg (World.drewN _) (Nat.add_assoc _ _ _))⟩)) | (go_at_call 129; (with_reducible refine (impl_abs.calls a1 t228 _ A4.out).mono ?_); rintro e w' ⟨rfl, ⟨nd, rfl⟩⟩; (try first | exact ⟨rfl, _, World.drewN_drewN _ _ _⟩ | exact ⟨rfl, _, Eq.trans (World.drewN_drewN _ _ _) (congrArg (World.drewN _) (Nat.add_assoc _ _ _))⟩))); try go_wp2_with (first | (go_at_call 129; (with_reducible refine (impl_abs.calls a0 t227 _ A3.out).mono ?_); rintro e w' ⟨rfl, ⟨nd, rfl⟩⟩; (try first | exact ⟨rfl, _, World.drewN_drewN _ _ _⟩ | exact ⟨rfl, _, Eq.trans (World.drewN_drewN _ _ _) (congrArg (World.drewN _) (Nat.add_assoc _ _ _))⟩)) | (go_at_call 129; (with_reducible refine (impl_abs.calls a1 t228 _ A4.out).mono ?_); rintro e w' ⟨rfl, ⟨nd, rfl⟩⟩; (try first | exact ⟨rfl, _, World.drewN_drewN _ _ _⟩ | exact ⟨rfl, _, Eq.trans (World.drewN_drewN _ _ _) (congrArg (World.drewN _) (Nat.add_assoc _ _ _))⟩))))
 go_loopg [0, 1] k (fun kq v0 v1 w' => ∃ (x0_1 : Int) (x1_1 : Int), v0 = .int .i64 x0_1 ∧ v1 = .int .i64 x1_1 ∧ Aside0 (impl_divisor.l0 kq x0_1 x1_1 = some r) ∧ Aside0 (kq ≤ k) ∧ Drawn0 w w')
 case atStart => exact ⟨(t227), (t228), (by first | rfl | (simp; done) | (simp [*]; done)), (by first | rfl | (simp; done) | (simp [*]; done)), H', ⟨Nat.le_refl _⟩, by repeat (first | exact Drawn0.refl _ | apply Drawn0.step)⟩
 case round =>
  clear H'
  try clear c1
  try clear p2
  obtain ⟨x0_1, x1_1, rfl, rfl, HA, HK1, ⟨m1, rfl⟩⟩ := hrel
  cases gk with
  | zero => exact absurd HA.out (by simp [impl_divisor.l0])
  | succ k1 =>
   have H := HA.out
   clear HA
   simp only [impl_divisor.l0] at H
   by_cases c5 : x1_1 > 0
   ·rw [if_pos c5] at H
    have c5b0 : decide (0 < x1_1) = true := decide_eq_true c5
    clear c5
    by_cases c6 : x1_1 = 0
    ·rw [if_pos c6] at H
     exact absurd H (by simp)
    ·rw [if_neg c6] at H
     have c6b0 : (x1_1 == 0) = false := beq_eq_false_iff_ne.mpr c6
     have c6b1 : (x1_1 != 0) = true := bne_iff_ne.mpr c6
     have H' := Aside0.mk H
     clear H
     go_wp2
     repeat (go_quiet (fail); try go_wp2)
     go_roundg k1
     case measure => have := HK1.out; omega
     case rel => exact ⟨(x1_1), (Int.tmod x0_1 x1_1), (by first | rfl | (simp; done) | (simp [*]; done)), (by first | rfl | (simp; done) | (simp [*]; done)), H', ⟨by have := HK1.out; omega⟩, by repeat (first | exact Drawn0.refl _ | apply Drawn0.step)⟩
   ·rw [if_neg c5] at H
    have c5b0 : decide (0 < x1_1) = false := decide_eq_false c5
    clear c5
    obtain rfl := Option.some.inj H
    go_wp2
    repeat (go_quiet (fail); try go_wp2)
    go_ret
    exact ⟨by first | rfl | (simp; done) | (simp [*]; done), by repeat (first | exact Drawn0.refl _ | apply Drawn0.step)⟩

/-! ### impl_divisors: function 103 -/
def impl_divisors.l0 : Nat → List Int → Int → List Int → Int → Int → Option (List Int)
 | 0, _, _, _, _, _ => none
 | k + 1, x3, x4, x8, x9, x10 => if x10 < x9 then (if 0 ≤ x10 then (if x10 < (x8.length : Int) then ((impl_divisor.f k x4 (rd x8 x10)).bind fun t233 => (if x3.length < 17592186044416 then (impl_divisors.l0 k (x3 ++ [t233]) t233 x8 x9 (wrap64 (x10 + 1))) else (none))) else (none)) else (none)) else (some x3)
def impl_divisors.f (k : Nat) (l0 : List Int) : Option (List Int) := impl_divisors.l0 k (([] : List Int)) 0 l0 (l0.length : Int) 0
set_option maxHeartbeats 8000000 in
set_option maxRecDepth 100000 in
theorem impl_divisors.calls (k : Nat) (A0 : Option Addr) (c0 : Nat) (l0 : List Int) (r : List Int) (w : World) (hr0 : Kd.C (Kd.int .i64) w A0 l0.length l0) (hc0 : l0.length ≤ c0) (h : impl_divisors.f k l0 = some r) :
  Calls Tryd.prog 103 #[.slice A0 l0.length c0] w fun e w' => ∃ v0_ : Value, e = .returned (v0_) ∧ Kd.R (Kd.int .i64) 2 w' w.heap.size (fun _ => True) v0_ r ∧ Below w.heap.size w w' := by
 have HR0 := Aside0.mk hr0
 have HC0 := Aside0.mk hc0
 clear hr0 hc0
 have HB := Aside0.mk (Below.refl w.heap.size w)
 have H : (impl_divisors.l0 k (([] : List Int)) 0 l0 (l0.length : Int) 0) = some r := h
 clear h
 obtain ⟨y229, hy229⟩ : ∃ y_ : List Int, y_ = (([] : List Int)) := ⟨_, rfl⟩
 replace H : (impl_divisors.l0 k y229 0 l0 (l0.length : Int) 0) = some r := by first | (rw [hy229]; with_reducible exact H) | (have H2_ := (Option.bind_some _ _).symm.trans H; rw [hy229]; with_reducible exact H2_) | (have H2_ := (Option.bind_some _ _).symm.trans H; with_reducible exact H2_) | with_reducible exact H | (rw [hy229]; exact H) | exact H
 have Ny229 := Aside0.mk hy229
 clear hy229
 have H' := Aside0.mk H
 clear H
 go_enter Tryd.func103, Tryd.ntmps103
 go_wp2_with (first | ((with_reducible refine gate_dst (N := 7) rfl ?_); refine Kd.R_lit (Kd.int .i64) _ 2 ?hg (N := 7) ?hd (xs := ([] : List Int)) (inner := []) (ok := fun _ => True) (okp := fun _ => True) ?hr ?hp (fun _ hk => hk) trivial (Below.refl _ _) (Nat.le_refl _) (by simp) ?_; (case hd => rfl); (case hg => rfl); (case hr => first | (go_simp; done) | (go_simp; rfl)); (case hp => exact (Reps.none _ _)); intro v230 w2 ho3 hb hg_ hnew_; clear hg_ hnew_; (first | rw [← Ny229.out] at ho3 | (simp only [Int.reduceToNat] at ho3; rw [← Ny229.out] at ho3)); have HO231 := Aside0.mk (Kd.R_lower ho3 (below_size bq)); replace HB := Aside0.mk (below_step bq hb); clear hb ho3))
 go_loopg [3, 4, 10] k (fun kq v3 v4 v10 w' => ∃ (x3_1 : List Int) (x4_1 : Int) (x10_1 : Int), v4 = .int .i64 x4_1 ∧ v10 = .int .i64 x10_1 ∧ Aside0 (impl_divisors.l0 kq x3_1 x4_1 l0 (l0.length : Int) x10_1 = some r) ∧ Aside0 (kq ≤ k) ∧ Aside0 (Kd.R (Kd.int .i64) 2 w' w.heap.size (fun _ => True) v3 x3_1) ∧ Aside0 (Below w.heap.size w w'))
 case atStart => exact ⟨(y229), (0), (0), (by first | rfl | (simp; done) | (simp [*]; done)), (by first | rfl | (simp; done) | (simp [*]; done)), H', ⟨Nat.le_refl _⟩, ⟨by (with_reducible repeat (first | apply Kd.R_alloc | apply Kd.R_drewN | apply Kd.R_drew)); exact HO231.out⟩, ⟨bq⟩⟩
 case round =>
  clear H'
  try clear c1
  try clear p2
  obtain ⟨x3_1, x4_1, x10_1, rfl, rfl, HA, HK1, HO_3, HB⟩ := hrel
  cases gk with
  | zero => exact absurd HA.out (by simp [impl_divisors.l0])
  | succ k1 =>
   have H := HA.out
   clear HA
   simp only [impl_divisors.l0] at H
   by_cases c4 : x10_1 < (l0.length : Int)
   ·rw [if_pos c4] at H
    have c4b0 : decide (x10_1 < (l0.length : Int)) = true := decide_eq_true c4
    clear c4
    revert H
    refine ifr fun c5 H => ?_
    have c5b0 : decide (0 ≤ x10_1) = true := decide_eq_true c5
    clear c5
    revert H
    refine ifr fun c6 H => ?_
    have c6b0 : decide (x10_1 < (l0.length : Int)) = true := decide_eq_true c6
    clear c6
    replace H := Option.bind_eq_some_iff.mp H
    obtain ⟨t233, A70, H⟩ := H
    replace H : (if x3_1.length < 17592186044416 then (impl_divisors.l0 k1 (x3_1 ++ [t233]) t233 l0 (l0.length : Int) (wrap64 (x10_1 + 1))) else (none)) = some r := H
    have A7 := Aside0.mk A70
    clear A70
    revert H
    refine ifr fun c8 H => ?_
    have LMc8 := Aside0.mk c8
    clear c8
    obtain ⟨y234, hy234⟩ : ∃ y_ : List Int, y_ = (x3_1 ++ [t233]) := ⟨_, rfl⟩
    replace H : (impl_divisors.l0 k1 y234 t233 l0 (l0.length : Int) (wrap64 (x10_1 + 1))) = some r := by first | (rw [hy234]; with_reducible exact H) | (have H2_ := (Option.bind_some _ _).symm.trans H; rw [hy234]; with_reducible exact H2_) | (have H2_ := (Option.bind_some _ _).symm.trans H; with_reducible exact H2_) | with_reducible exact H | (rw [hy234]; exact H) | exact H
    have Ny234 := Aside0.mk hy234
    clear hy234
    have H' := Aside0.mk H
    clear H
    have p232 : 0 ≤ (x10_1 : Int) := ode
    have q232 : x10_1 < (l0.length : Int) := ode
    obtain ⟨ad232, e232, hx232_0⟩ := Kd.at_int HR0.out x10_1 p232 q232
    cases e232
    try replace hx232_0 := (HB.out.cell (World.block_lt_of_cell? w _ hx232_0)).trans hx232_0
    replace p232 := eq_true p232
    replace q232 := eq_true q232
    go_wp2_with (first | ((with_reducible refine gate_callee (f := 117) rfl ?_); refine gL 16 Tryd.func117 #[.int .i64 x4_1, .int .i64 (rd l0 x10_1)] ?_; (with_reducible refine (impl_divisor.calls k1 x4_1 (rd l0 x10_1) t233 _ A7.out).mono ?_); rintro e w' ⟨rfl, ⟨nd, rfl⟩⟩; refine ⟨_, rfl, ?_⟩) | ((with_reducible refine gate_builtin (b := .append) (xs := #[.tmp 17, .tmp 19]) rfl ?_); at_builtin; refine Kd.R_append (Kd.int .i64) (w0 := w) w.heap.size rfl (.tmp 17) (.tmp 19) 35 2 (.int .i64 0) 8 rfl Tryd.underlying35 info2 rfl (by decide) (by omega) u3 x3_1 t233 [.int .i64 t233] (fun _ => True) (fun _ => False) rfl rfl ?aP (fun _ hk => hk.elim) ?aF ?aO ?aB ?aS ?aL ?_; (case aP => exact rfl); (case aB => exact bq); (case aF => exact (fun _ _ => trivial)); (case aO => exact (by (with_reducible repeat (first | apply Kd.R_alloc | apply Kd.R_drewN | apply Kd.R_drew)); exact HO_3.out)); (case aS => exact (below_size bq)); (case aL => have := LMc8.out; omega); intro v235 w9 ho hb hg hat; rw [← Ny234.out] at ho; have n0_ := Aside0.mk (hb); have n1_ := Aside0.mk (ho); clear HB; clear HO_3; have HB := n0_; have HO236 := n1_; clear n0_ n1_; clear ho hb hg hat))
    go_roundg k1
    case measure => have := HK1.out; omega
    case rel => exact ⟨(y234), (t233), (wrap64 (x10_1 + 1)), (by first | rfl | (simp; done) | (simp [*]; done)), (by first | rfl | (simp; done) | (simp [*]; done)), H', ⟨by have := HK1.out; omega⟩, ⟨by (with_reducible repeat (first | apply Kd.R_alloc | apply Kd.R_drewN | apply Kd.R_drew)); exact HO236.out⟩, ⟨bq⟩⟩
   ·rw [if_neg c4] at H
    have c4b0 : decide (x10_1 < (l0.length : Int)) = false := decide_eq_false c4
    clear c4
    obtain rfl := Option.some.inj H
    go_wp2
    go_ret
    exact ⟨_, eq_, by (with_reducible repeat (first | apply Kd.R_alloc | apply Kd.R_drewN | apply Kd.R_drew)); exact HO_3.out, bq⟩

/-! ### impl_falls: function 84 -/
def impl_falls.l0 : Nat → List Int → Int → Option (Bool)
 | 0, _, _ => none
 | k + 1, x3, x4 => if x4 < (x3.length : Int) then (if 0 ≤ x4 then (if 0 ≤ (wrap64 (x4 - 1)) then (if (wrap64 (x4 - 1)) < (x3.length : Int) then (if (rd x3 x4) ≥ (rd x3 (wrap64 (x4 - 1))) then (none) else (impl_falls.l0 k x3 (wrap64 (x4 + 1)))) else (none)) else (none)) else (none)) else (if 0 ≤ (wrap64 ((x3.length : Int) - 1)) then (if (wrap64 ((x3.length : Int) - 1)) < (x3.length : Int) then (some ((rd x3 (wrap64 ((x3.length : Int) - 1))) == 1)) else (none)) else (none))
def impl_falls.f (k : Nat) (l0 : List Int) : Option (Bool) := (impl_divisors.f k l0).bind fun t237 => (impl_falls.l0 k t237 1)
set_option maxHeartbeats 8000000 in
set_option maxRecDepth 100000 in
theorem impl_falls.calls (k : Nat) (A0 : Option Addr) (c0 : Nat) (l0 : List Int) (r : Bool) (w : World) (hr0 : Kd.C (Kd.int .i64) w A0 l0.length l0) (hc0 : l0.length ≤ c0) (h : impl_falls.f k l0 = some r) :
  Calls Tryd.prog 84 #[.slice A0 l0.length c0] w fun e w' => e = .returned (.bool r) ∧ Below w.heap.size w w' := by
 have HR0 := Aside0.mk hr0
 have HC0 := Aside0.mk hc0
 clear hr0 hc0
 have HB := Aside0.mk (Below.refl w.heap.size w)
 have H : ((impl_divisors.f k l0).bind fun t237 => (impl_falls.l0 k t237 1)) = some r := h
 clear h
 replace H := Option.bind_eq_some_iff.mp H
 obtain ⟨t237, A20, H⟩ := H
 replace H : (impl_falls.l0 k t237 1) = some r := H
 have A2 := Aside0.mk A20
 clear A20
 have H' := Aside0.mk H
 clear H
 go_enter Tryd.func84, Tryd.ntmps84
 go_wp2_with (first | (go_at_call 103; (with_reducible refine (impl_divisors.calls k _ _ l0 t237 _ ?side1 ?side2 A2.out).mono ?_); (case side1 => repeat (first | exact HR0.out | (with_reducible refine Kd.C_alloc ?_ _) | (with_reducible refine Kd.C_drewN ?_ _) | (with_reducible refine Kd.C_drew ?_))); (case side2 => exact HC0.out); rintro e w3 ⟨v238, rfl, ho0, hb⟩; have HO239 := Aside0.mk (Kd.R_lower ho0 (below_size bq)); replace HB := Aside0.mk (below_step bq hb); (try clear hb); (try clear ho0)))
 repeat (go_quiet (first | (go_at_call 103; (with_reducible refine (impl_divisors.calls k _ _ l0 t237 _ ?side1 ?side2 A2.out).mono ?_); (case side1 => repeat (first | exact HR0.out | (with_reducible refine Kd.C_alloc ?_ _) | (with_reducible refine Kd.C_drewN ?_ _) | (with_reducible refine Kd.C_drew ?_))); (case side2 => exact HC0.out); rintro e w3 ⟨v238, rfl, ho0, hb⟩; have HO239 := Aside0.mk (Kd.R_lower ho0 (below_size bq)); replace HB := Aside0.mk (below_step bq hb); (try clear hb); (try clear ho0))); try go_wp2_with (first | (go_at_call 103; (with_reducible refine (impl_divisors.calls k _ _ l0 t237 _ ?side1 ?side2 A2.out).mono ?_); (case side1 => repeat (first | exact HR0.out | (with_reducible refine Kd.C_alloc ?_ _) | (with_reducible refine Kd.C_drewN ?_ _) | (with_reducible refine Kd.C_drew ?_))); (case side2 => exact HC0.out); rintro e w3 ⟨v238, rfl, ho0, hb⟩; have HO239 := Aside0.mk (Kd.R_lower ho0 (below_size bq)); replace HB := Aside0.mk (below_step bq hb); (try clear hb); (try clear ho0))))
 go_loopg [4] k (fun kq v4 w' => ∃ (x4_1 : Int), v4 = .int .i64 x4_1 ∧ Aside0 (impl_falls.l0 kq t237 x4_1 = some r) ∧ Aside0 (kq ≤ k) ∧ Aside0 (Kd.R (Kd.int .i64) 2 w' w.heap.size (fun _ => True) v238 t237) ∧ Aside0 (Below w.heap.size w w'))
 case atStart => exact ⟨(1), (by first | rfl | (simp; done) | (simp [*]; done)), H', ⟨Nat.le_refl _⟩, ⟨by (with_reducible repeat (first | apply Kd.R_alloc | apply Kd.R_drewN | apply Kd.R_drew)); exact HO239.out⟩, ⟨bq⟩⟩
 case round =>
  clear H'
  try clear p2
  obtain ⟨x4_1, rfl, HA, HK1, HO_3, HB⟩ := hrel
  cases gk with
  | zero => exact absurd HA.out (by simp [impl_falls.l0])
  | succ k1 =>
   have H := HA.out
   clear HA
   simp only [impl_falls.l0] at H
   by_cases c4 : x4_1 < (t237.length : Int)
   ·rw [if_pos c4] at H
    have c4b0 : decide (x4_1 < (t237.length : Int)) = true := decide_eq_true c4
    clear c4
    revert H
    refine ifr fun c5 H => ?_
    have c5b0 : decide (0 ≤ x4_1) = true := decide_eq_true c5
    clear c5
    obtain ⟨ji6, hji6⟩ : ∃ j_ : Int, (wrap64 (x4_1 - 1)) = j_ := ⟨_, rfl⟩
    replace H : (if 0 ≤ (ji6) then (if (ji6) < (t237.length : Int) then (if (rd t237 x4_1) ≥ (rd t237 (ji6)) then (none) else (impl_falls.l0 k1 t237 (wrap64 (x4_1 + 1)))) else (none)) else (none)) = some r := by first | (rw [hji6] at H; exact H) | (simp only [hji6] at H ⊢; exact H)
    have hji6w : (IntKind.i64.wrap (x4_1 - 1)) = ji6 := (i64_w _).trans hji6
    revert H
    refine ifr fun c7 H => ?_
    have c7b0 : decide (0 ≤ (ji6)) = true := decide_eq_true c7
    clear c7
    revert H
    refine ifr fun c8 H => ?_
    have c8b0 : decide ((ji6) < (t237.length : Int)) = true := decide_eq_true c8
    clear c8
    by_cases c9 : (rd t237 x4_1) ≥ (rd t237 (ji6))
    ·rw [if_pos c9] at H
     exact absurd H (by simp)
    ·rw [if_neg c9] at H
     have c9b0 : decide ((rd t237 (ji6)) ≤ (rd t237 x4_1)) = false := decide_eq_false c9
     clear c9
     have H' := Aside0.mk H
     clear H
     obtain ⟨Ao10, co10, eo10⟩ := Kd.R_slice HO_3.out
     subst eo10
     have p240 : 0 ≤ (x4_1 : Int) := ode
     have q240 : x4_1 < (t237.length : Int) := ode
     obtain ⟨ad240, e240, hx240_0⟩ := Kd.at_int (Kd.R_reads' HO_3.out).2.2 x4_1 p240 q240
     cases e240
     replace p240 := eq_true p240
     replace q240 := eq_true q240
     have p241 : 0 ≤ ((ji6) : Int) := ode
     have q241 : (ji6) < (t237.length : Int) := ode
     obtain ⟨ad241, e241, hx241_0⟩ := Kd.at_int (Kd.R_reads' HO_3.out).2.2 (ji6) p241 q241
     obtain rfl : ad240 = ad241 := (by injection e241)
     replace p241 := eq_true p241
     replace q241 := eq_true q241
     go_wp2
     repeat (go_quiet (fail); try go_wp2)
     go_roundg k1
     case measure => have := HK1.out; omega
     case rel => exact ⟨(wrap64 (x4_1 + 1)), (by first | rfl | (simp; done) | (simp [*]; done)), H', ⟨by have := HK1.out; omega⟩, ⟨by (with_reducible repeat (first | apply Kd.R_alloc | apply Kd.R_drewN | apply Kd.R_drew)); exact HO_3.out⟩, ⟨bq⟩⟩
   ·rw [if_neg c4] at H
    have c4b0 : decide (x4_1 < (t237.length : Int)) = false := decide_eq_false c4
    clear c4
    obtain ⟨ji11, hji11⟩ : ∃ j_ : Int, (wrap64 ((t237.length : Int) - 1)) = j_ := ⟨_, rfl⟩
    replace H : (if 0 ≤ (ji11) then (if (ji11) < (t237.length : Int) then (some ((rd t237 (ji11)) == 1)) else (none)) else (none)) = some r := by first | (rw [hji11] at H; exact H) | (simp only [hji11] at H ⊢; exact H)
    have hji11w : (IntKind.i64.wrap ((t237.length : Int) - 1)) = ji11 := (i64_w _).trans hji11
    by_cases c12 : 0 ≤ (ji11)
    ·rw [if_pos c12] at H
     have c12b0 : decide (0 ≤ (ji11)) = true := decide_eq_true c12
     clear c12
     revert H
     refine ifr fun c13 H => ?_
     have c13b0 : decide ((ji11) < (t237.length : Int)) = true := decide_eq_true c13
     clear c13
     obtain rfl := Option.some.inj H
     obtain ⟨Ao14, co14, eo14⟩ := Kd.R_slice HO_3.out
     subst eo14
     have p242 : 0 ≤ ((ji11) : Int) := ode
     have q242 : (ji11) < (t237.length : Int) := ode
     obtain ⟨ad242, e242, hx242_0⟩ := Kd.at_int (Kd.R_reads' HO_3.out).2.2 (ji11) p242 q242
     cases e242
     replace p242 := eq_true p242
     replace q242 := eq_true q242
     go_wp2
     repeat (go_quiet (fail); try go_wp2)
     go_ret
     exact ⟨by first | rfl | (simp [errW_none, errW_some] <;> rfl) | (simp only [← hji11]; first | rfl | (simp [errW_none, errW_some] <;> rfl)) | (simp [*, errW_none, errW_some] <;> rfl), bq⟩
    ·rw [if_neg c12] at H
     exact absurd H (by simp)
end Go.Proofs.YtkfdfpcdcabcoaaDoor.QDesx
