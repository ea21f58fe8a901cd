/- Walks: the printed functions, and that each call comes to them (13). -/
import Derived.Test.YtkfdfpcdcabcoaaDoorX
import Derived.Test.YtkfdfpcdcabcoaaDoorDA
import Derived.Test.YtkfdfpcdcabcoaaDoorDL
import Derived.Test.YtkfdfpcdcabcoaaDoorDD
namespace Go.Proofs.YtkfdfpcdcabcoaaDoor.QDesx
open Go.RowKit Go.Proofs.YtkfdfpcdcabcoaaDoorW.PrintWords Go.Proofs.YtkfdfpcdcabcoaaDoorW.PrintLast Go.Proofs.YtkfdfpcdcabcoaaDoorW.PrintMore
attribute [local go_sem] max2_int min2_int max_two min_two max_three min_three max_four min_four
set_option linter.unusedVariables false
set_option linter.unusedSimpArgs false

/-! ### impl_polyTerm: function 68 -/
def impl_polyTerm.f (k : Nat) (a0 : ByteArray) : Option (List Int × Bool) := if a0.toList = ([] : List UInt8) then (if (¬ a0.toList = ([] : List UInt8)) then ((impl_exponentOf.f k a0 120).bind fun bt467 => (if bt467.2.2 = true then ((impl_exponentOf.f k bt467.2.1 121).bind fun bt470 => ((some (([bt467.1, bt470.1, 1] : List Int) : List Int)).bind fun y473 => (if bt470.2.2 = true then (some (y473, (bt470.2.1.toList == ([] : List UInt8)))) else (some (y473, false))))) else (none))) else (none)) else (if 0 < (a0.size : Int) then (if (bt a0 0) = 120 then (if (¬ a0.toList = ([] : List UInt8)) then ((impl_exponentOf.f k a0 120).bind fun bt476 => (if bt476.2.2 = true then ((impl_exponentOf.f k bt476.2.1 121).bind fun bt479 => ((some (([bt476.1, bt479.1, 1] : List Int) : List Int)).bind fun y482 => (if bt479.2.2 = true then (some (y482, (bt479.2.1.toList == ([] : List UInt8)))) else (some (y482, false))))) else (none))) else (none)) else (if (bt a0 0) = 121 then (if (¬ a0.toList = ([] : List UInt8)) then ((impl_exponentOf.f k a0 120).bind fun bt485 => (if bt485.2.2 = true then ((impl_exponentOf.f k bt485.2.1 121).bind fun bt488 => ((some (([bt485.1, bt488.1, 1] : List Int) : List Int)).bind fun y491 => (if bt488.2.2 = true then (some (y491, (bt488.2.1.toList == ([] : List UInt8)))) else (some (y491, false))))) else (none))) else (none)) else (none))) else (none))
set_option maxHeartbeats 8000000 in
set_option maxRecDepth 100000 in
theorem impl_polyTerm.calls (k : Nat) (a0 : ByteArray) (r1 : List Int) (r2 : Bool) (w : World) (h : impl_polyTerm.f k a0 = some (r1, r2)) :
  Calls Tryd.prog 68 #[.string a0] w fun e w' => ∃ v0_ : Value, e = .returned (.tuple #[v0_, .bool r2]) ∧ Kd.R (Kd.int .i64) 2 w' w.heap.size (fun _ => True) v0_ r1 ∧ Below w.heap.size w w' := by
 have HB := Aside0.mk (Below.refl w.heap.size w)
 have H : (if a0.toList = ([] : List UInt8) then (if (¬ a0.toList = ([] : List UInt8)) then ((impl_exponentOf.f k a0 120).bind fun bt467 => (if bt467.2.2 = true then ((impl_exponentOf.f k bt467.2.1 121).bind fun bt470 => ((some (([bt467.1, bt470.1, 1] : List Int) : List Int)).bind fun y473 => (if bt470.2.2 = true then (some (y473, (bt470.2.1.toList == ([] : List UInt8)))) else (some (y473, false))))) else (none))) else (none)) else (if 0 < (a0.size : Int) then (if (bt a0 0) = 120 then (if (¬ a0.toList = ([] : List UInt8)) then ((impl_exponentOf.f k a0 120).bind fun bt476 => (if bt476.2.2 = true then ((impl_exponentOf.f k bt476.2.1 121).bind fun bt479 => ((some (([bt476.1, bt479.1, 1] : List Int) : List Int)).bind fun y482 => (if bt479.2.2 = true then (some (y482, (bt479.2.1.toList == ([] : List UInt8)))) else (some (y482, false))))) else (none))) else (none)) else (if (bt a0 0) = 121 then (if (¬ a0.toList = ([] : List UInt8)) then ((impl_exponentOf.f k a0 120).bind fun bt485 => (if bt485.2.2 = true then ((impl_exponentOf.f k bt485.2.1 121).bind fun bt488 => ((some (([bt485.1, bt488.1, 1] : List Int) : List Int)).bind fun y491 => (if bt488.2.2 = true then (some (y491, (bt488.2.1.toList == ([] : List UInt8)))) else (some (y491, false))))) else (none))) else (none)) else (none))) else (none))) = some (r1, r2) := h
 clear h
 by_cases c2 : a0.toList = ([] : List UInt8)
 ·rw [if_pos c2] at H
  rw [if_neg (not_not_intro c2)] at H
  exact absurd H (by simp)
 ·rw [if_neg c2] at H
  have c2b0 : (a0.toList == ([] : List UInt8)) = false := beq_eq_false_iff_ne.mpr c2
  have c2b1 : (a0.toList != ([] : List UInt8)) = true := bne_iff_ne.mpr c2
  by_cases c12 : 0 < (a0.size : Int)
  ·rw [if_pos c12] at H
   have c12b0 : decide (0 < (a0.size : Int)) = true := decide_eq_true c12
   have c12b1 : decide (0 < a0.size) = true := decide_eq_true (by omega)
   clear c12
   by_cases c14 : (bt a0 0) = 120
   ·rw [if_pos c14] at H
    have c14b0 : ((bt a0 0) == 120) = true := beq_iff_eq.mpr c14
    have c14b1 : ((bt a0 0) != 120) = false := bne_eq_false_iff_eq.mpr c14
    clear c14
    revert H
    refine ifr fun c15 H => ?_
    clear c15
    replace H := Option.bind_eq_some_iff.mp H
    obtain ⟨⟨t476, t477, t478⟩, A160, H⟩ := H
    replace H : (if t478 = true then ((impl_exponentOf.f k t477 121).bind fun bt479 => ((some (([t476, bt479.1, 1] : List Int) : List Int)).bind fun y482 => (if bt479.2.2 = true then (some (y482, (bt479.2.1.toList == ([] : List UInt8)))) else (some (y482, false))))) else (none)) = some (r1, r2) := H
    have A16 := Aside0.mk A160
    clear A160
    by_cases c17 : t478 = true
    ·subst c17
     have H1 : ((impl_exponentOf.f k t477 121).bind fun bt479 => ((some (([t476, bt479.1, 1] : List Int) : List Int)).bind fun y482 => (if bt479.2.2 = true then (some (y482, (bt479.2.1.toList == ([] : List UInt8)))) else (some (y482, false))))) = some (r1, r2) := by rw [if_pos rfl] at H; exact H
     clear H
     have H := H1
     clear H1
     replace H := Option.bind_eq_some_iff.mp H
     obtain ⟨⟨t479, t480, t481⟩, A180, H⟩ := H
     replace H : ((some (([t476, t479, 1] : List Int) : List Int)).bind fun y482 => (if t481 = true then (some (y482, (t480.toList == ([] : List UInt8)))) else (some (y482, false)))) = some (r1, r2) := H
     have A18 := Aside0.mk A180
     clear A180
     obtain ⟨y482, hy482⟩ : ∃ y_ : List Int, y_ = (([t476, t479, 1] : List Int)) := ⟨_, rfl⟩
     replace H : (if t481 = true then (some (y482, (t480.toList == ([] : List UInt8)))) else (some (y482, false))) = some (r1, r2) := by first | (rw [hy482]; with_reducible exact H) | (have H2_ := (Option.bind_some _ _).symm.trans H; rw [hy482]; with_reducible exact H2_) | (have H2_ := (Option.bind_some _ _).symm.trans H; with_reducible exact H2_) | with_reducible exact H | (rw [hy482]; exact H) | exact H
     have Ny482 := Aside0.mk hy482
     clear hy482
     by_cases c19 : t481 = true
     ·subst c19
      have H1 : (some (y482, (t480.toList == ([] : List UInt8)))) = some (r1, r2) := by rw [if_pos rfl] at H; exact H
      clear H
      have H := H1
      clear H1
      simp only [Option.some.injEq, Prod.mk.injEq] at H
      obtain ⟨rfl, rfl⟩ := H
      have p13 : 0 ≤ (0 : Int) := (by omega)
      have q13 : 0 < a0.size := (by have : (0 : Int) < (a0.size : Int) := ode; omega)
      have hx13 : ∀ h : 0 < a0.size, ((a0[0]'h).toNat : Int) = bt a0 0 := bt_at a0 0
      clear p13
      have qi13 : (0 < (a0.size : Int)) = True := eq_true (ode)
      replace q13 := eq_true q13
      go_enter Tryd.func68, Tryd.ntmps68
      go_wp2_with (first | ((with_reducible refine gate_callee (f := 97) rfl ?_); refine gL 33 Tryd.func97 #[.string a0, .int .u8 120] ?_; (with_reducible refine (impl_exponentOf.calls k a0 120 t476 t477 true _ A16.out).mono ?_); rintro e w' ⟨rfl, ⟨nd, rfl⟩⟩; refine ⟨_, rfl, ?_⟩) | ((with_reducible refine gate_callee (f := 97) rfl ?_); refine gL 41 Tryd.func97 #[.string t477, .int .u8 121] ?_; (with_reducible refine (impl_exponentOf.calls k t477 121 t479 t480 true _ A18.out).mono ?_); rintro e w' ⟨rfl, ⟨nd, rfl⟩⟩; refine ⟨_, rfl, ?_⟩) | ((with_reducible refine gate_dst (N := 48) rfl ?_); refine Kd.R_lit (Kd.int .i64) _ 2 ?hg (N := 48) ?hd (xs := ([t476, t479, 1] : List Int)) (inner := [.int .i64 t476, .int .i64 t479, .int .i64 1]) (ok := fun _ => True) (okp := fun _ => True) ?hr ?hp (fun _ hk => hk) trivial (Below.refl _ _) (Nat.le_refl _) (by simp) ?_; (case hd => rfl); (case hg => rfl); (case hr => first | (go_simp; done) | (go_simp; rfl)); (case hp => exact (Reps.one (show Kd.M (Kd.int .i64) _ _ _ t476 [.int .i64 t476] from rfl) (Reps.one (show Kd.M (Kd.int .i64) _ _ _ t479 [.int .i64 t479] from rfl) (Reps.one (show Kd.M (Kd.int .i64) _ _ _ 1 [.int .i64 1] from rfl) (Reps.none _ _))))); intro v483 w20 ho21 hb hg_ hnew_; clear hg_ hnew_; (first | rw [← Ny482.out] at ho21 | (simp only [Int.reduceToNat] at ho21; rw [← Ny482.out] at ho21)); have HO484 := Aside0.mk (Kd.R_lower ho21 (below_size bq)); replace HB := Aside0.mk (below_step bq hb); clear hb ho21))
      go_ret2
      exact ⟨_, eq_, by (with_reducible repeat (first | apply Kd.R_alloc | apply Kd.R_drewN | apply Kd.R_drew)); exact HO484.out, bq⟩
     ·replace c19 := Bool.eq_false_iff.mpr c19
      subst c19
      have H1 : (some (y482, false)) = some (r1, r2) := by rw [if_neg (show ¬ (false = true) by decide)] at H; exact H
      clear H
      have H := H1
      clear H1
      simp only [Option.some.injEq, Prod.mk.injEq] at H
      obtain ⟨rfl, rfl⟩ := H
      have p13 : 0 ≤ (0 : Int) := (by omega)
      have q13 : 0 < a0.size := (by have : (0 : Int) < (a0.size : Int) := ode; omega)
      have hx13 : ∀ h : 0 < a0.size, ((a0[0]'h).toNat : Int) = bt a0 0 := bt_at a0 0
      clear p13
      have qi13 : (0 < (a0.size : Int)) = True := eq_true (ode)
      replace q13 := eq_true q13
      go_enter Tryd.func68, Tryd.ntmps68
      go_wp2_with (first | ((with_reducible refine gate_callee (f := 97) rfl ?_); refine gL 33 Tryd.func97 #[.string a0, .int .u8 120] ?_; (with_reducible refine (impl_exponentOf.calls k a0 120 t476 t477 true _ A16.out).mono ?_); rintro e w' ⟨rfl, ⟨nd, rfl⟩⟩; refine ⟨_, rfl, ?_⟩) | ((with_reducible refine gate_callee (f := 97) rfl ?_); refine gL 41 Tryd.func97 #[.string t477, .int .u8 121] ?_; (with_reducible refine (impl_exponentOf.calls k t477 121 t479 t480 false _ A18.out).mono ?_); rintro e w' ⟨rfl, ⟨nd, rfl⟩⟩; refine ⟨_, rfl, ?_⟩) | ((with_reducible refine gate_dst (N := 48) rfl ?_); refine Kd.R_lit (Kd.int .i64) _ 2 ?hg (N := 48) ?hd (xs := ([t476, t479, 1] : List Int)) (inner := [.int .i64 t476, .int .i64 t479, .int .i64 1]) (ok := fun _ => True) (okp := fun _ => True) ?hr ?hp (fun _ hk => hk) trivial (Below.refl _ _) (Nat.le_refl _) (by simp) ?_; (case hd => rfl); (case hg => rfl); (case hr => first | (go_simp; done) | (go_simp; rfl)); (case hp => exact (Reps.one (show Kd.M (Kd.int .i64) _ _ _ t476 [.int .i64 t476] from rfl) (Reps.one (show Kd.M (Kd.int .i64) _ _ _ t479 [.int .i64 t479] from rfl) (Reps.one (show Kd.M (Kd.int .i64) _ _ _ 1 [.int .i64 1] from rfl) (Reps.none _ _))))); intro v483 w22 ho23 hb hg_ hnew_; clear hg_ hnew_; (first | rw [← Ny482.out] at ho23 | (simp only [Int.reduceToNat] at ho23; rw [← Ny482.out] at ho23)); have HO484 := Aside0.mk (Kd.R_lower ho23 (below_size bq)); replace HB := Aside0.mk (below_step bq hb); clear hb ho23))
      go_ret2
      exact ⟨_, eq_, by (with_reducible repeat (first | apply Kd.R_alloc | apply Kd.R_drewN | apply Kd.R_drew)); exact HO484.out, bq⟩
    ·replace c17 := Bool.eq_false_iff.mpr c17
     subst c17
     have H1 : (none) = some (r1, r2) := by rw [if_neg (show ¬ (false = true) by decide)] at H; exact H
     clear H
     have H := H1
     clear H1
     exact absurd H (by simp)
   ·rw [if_neg c14] at H
    have c14b0 : ((bt a0 0) == 120) = false := beq_eq_false_iff_ne.mpr c14
    have c14b1 : ((bt a0 0) != 120) = true := bne_iff_ne.mpr c14
    revert H
    refine ifr fun c25 H => ?_
    have c25b0 : ((bt a0 0) == 121) = true := beq_iff_eq.mpr c25
    have c25b1 : ((bt a0 0) != 121) = false := bne_eq_false_iff_eq.mpr c25
    clear c25
    revert H
    refine ifr fun c26 H => ?_
    clear c26
    replace H := Option.bind_eq_some_iff.mp H
    obtain ⟨⟨t485, t486, t487⟩, A270, H⟩ := H
    replace H : (if t487 = true then ((impl_exponentOf.f k t486 121).bind fun bt488 => ((some (([t485, bt488.1, 1] : List Int) : List Int)).bind fun y491 => (if bt488.2.2 = true then (some (y491, (bt488.2.1.toList == ([] : List UInt8)))) else (some (y491, false))))) else (none)) = some (r1, r2) := H
    have A27 := Aside0.mk A270
    clear A270
    by_cases c28 : t487 = true
    ·subst c28
     have H1 : ((impl_exponentOf.f k t486 121).bind fun bt488 => ((some (([t485, bt488.1, 1] : List Int) : List Int)).bind fun y491 => (if bt488.2.2 = true then (some (y491, (bt488.2.1.toList == ([] : List UInt8)))) else (some (y491, false))))) = some (r1, r2) := by rw [if_pos rfl] at H; exact H
     clear H
     have H := H1
     clear H1
     replace H := Option.bind_eq_some_iff.mp H
     obtain ⟨⟨t488, t489, t490⟩, A290, H⟩ := H
     replace H : ((some (([t485, t488, 1] : List Int) : List Int)).bind fun y491 => (if t490 = true then (some (y491, (t489.toList == ([] : List UInt8)))) else (some (y491, false)))) = some (r1, r2) := H
     have A29 := Aside0.mk A290
     clear A290
     obtain ⟨y491, hy491⟩ : ∃ y_ : List Int, y_ = (([t485, t488, 1] : List Int)) := ⟨_, rfl⟩
     replace H : (if t490 = true then (some (y491, (t489.toList == ([] : List UInt8)))) else (some (y491, false))) = some (r1, r2) := by first | (rw [hy491]; with_reducible exact H) | (have H2_ := (Option.bind_some _ _).symm.trans H; rw [hy491]; with_reducible exact H2_) | (have H2_ := (Option.bind_some _ _).symm.trans H; with_reducible exact H2_) | with_reducible exact H | (rw [hy491]; exact H) | exact H
     have Ny491 := Aside0.mk hy491
     clear hy491
     by_cases c30 : t490 = true
     ·subst c30
      have H1 : (some (y491, (t489.toList == ([] : List UInt8)))) = some (r1, r2) := by rw [if_pos rfl] at H; exact H
      clear H
      have H := H1
      clear H1
      simp only [Option.some.injEq, Prod.mk.injEq] at H
      obtain ⟨rfl, rfl⟩ := H
      have p13 : 0 ≤ (0 : Int) := (by omega)
      have q13 : 0 < a0.size := (by have : (0 : Int) < (a0.size : Int) := ode; omega)
      have hx13 : ∀ h : 0 < a0.size, ((a0[0]'h).toNat : Int) = bt a0 0 := bt_at a0 0
      clear p13
      have qi13 : (0 < (a0.size : Int)) = True := eq_true (ode)
      replace q13 := eq_true q13
      have p24 : 0 ≤ (0 : Int) := (by omega)
      have q24 : 0 < a0.size := (by have : (0 : Int) < (a0.size : Int) := ode; omega)
      have hx24 : ∀ h : 0 < a0.size, ((a0[0]'h).toNat : Int) = bt a0 0 := bt_at a0 0
      clear p24
      have qi24 : (0 < (a0.size : Int)) = True := eq_true (ode)
      replace q24 := eq_true q24
      go_enter Tryd.func68, Tryd.ntmps68
      go_wp2_with (first | ((with_reducible refine gate_callee (f := 97) rfl ?_); refine gL 33 Tryd.func97 #[.string a0, .int .u8 120] ?_; (with_reducible refine (impl_exponentOf.calls k a0 120 t485 t486 true _ A27.out).mono ?_); rintro e w' ⟨rfl, ⟨nd, rfl⟩⟩; refine ⟨_, rfl, ?_⟩) | ((with_reducible refine gate_callee (f := 97) rfl ?_); refine gL 41 Tryd.func97 #[.string t486, .int .u8 121] ?_; (with_reducible refine (impl_exponentOf.calls k t486 121 t488 t489 true _ A29.out).mono ?_); rintro e w' ⟨rfl, ⟨nd, rfl⟩⟩; refine ⟨_, rfl, ?_⟩) | ((with_reducible refine gate_dst (N := 48) rfl ?_); refine Kd.R_lit (Kd.int .i64) _ 2 ?hg (N := 48) ?hd (xs := ([t485, t488, 1] : List Int)) (inner := [.int .i64 t485, .int .i64 t488, .int .i64 1]) (ok := fun _ => True) (okp := fun _ => True) ?hr ?hp (fun _ hk => hk) trivial (Below.refl _ _) (Nat.le_refl _) (by simp) ?_; (case hd => rfl); (case hg => rfl); (case hr => first | (go_simp; done) | (go_simp; rfl)); (case hp => exact (Reps.one (show Kd.M (Kd.int .i64) _ _ _ t485 [.int .i64 t485] from rfl) (Reps.one (show Kd.M (Kd.int .i64) _ _ _ t488 [.int .i64 t488] from rfl) (Reps.one (show Kd.M (Kd.int .i64) _ _ _ 1 [.int .i64 1] from rfl) (Reps.none _ _))))); intro v492 w31 ho32 hb hg_ hnew_; clear hg_ hnew_; (first | rw [← Ny491.out] at ho32 | (simp only [Int.reduceToNat] at ho32; rw [← Ny491.out] at ho32)); have HO493 := Aside0.mk (Kd.R_lower ho32 (below_size bq)); replace HB := Aside0.mk (below_step bq hb); clear hb ho32))
      go_ret2
      exact ⟨_, eq_, by (with_reducible repeat (first | apply Kd.R_alloc | apply Kd.R_drewN | apply Kd.R_drew)); exact HO493.out, bq⟩
     ·replace c30 := Bool.eq_false_iff.mpr c30
      subst c30
      have H1 : (some (y491, false)) = some (r1, r2) := by rw [if_neg (show ¬ (false = true) by decide)] at H; exact H
      clear H
      have H := H1
      clear H1
      simp only [Option.some.injEq, Prod.mk.injEq] at H
      obtain ⟨rfl, rfl⟩ := H
      have p13 : 0 ≤ (0 : Int) := (by omega)
      have q13 : 0 < a0.size := (by have : (0 : Int) < (a0.size : Int) := ode; omega)
      have hx13 : ∀ h : 0 < a0.size, ((a0[0]'h).toNat : Int) = bt a0 0 := bt_at a0 0
      clear p13
      have qi13 : (0 < (a0.size : Int)) = True := eq_true (ode)
      replace q13 := eq_true q13
      have p24 : 0 ≤ (0 : Int) := (by omega)
      have q24 : 0 < a0.size := (by have : (0 : Int) < (a0.size : Int) := ode; omega)
      have hx24 : ∀ h : 0 < a0.size, ((a0[0]'h).toNat : Int) = bt a0 0 := bt_at a0 0
      clear p24
      have qi24 : (0 < (a0.size : Int)) = True := eq_true (ode)
      replace q24 := eq_true q24
      go_enter Tryd.func68, Tryd.ntmps68
      go_wp2_with (first | ((with_reducible refine gate_callee (f := 97) rfl ?_); refine gL 33 Tryd.func97 #[.string a0, .int .u8 120] ?_; (with_reducible refine (impl_exponentOf.calls k a0 120 t485 t486 true _ A27.out).mono ?_); rintro e w' ⟨rfl, ⟨nd, rfl⟩⟩; refine ⟨_, rfl, ?_⟩) | ((with_reducible refine gate_callee (f := 97) rfl ?_); refine gL 41 Tryd.func97 #[.string t486, .int .u8 121] ?_; (with_reducible refine (impl_exponentOf.calls k t486 121 t488 t489 false _ A29.out).mono ?_); rintro e w' ⟨rfl, ⟨nd, rfl⟩⟩; refine ⟨_, rfl, ?_⟩) | ((with_reducible refine gate_dst (N := 48) rfl ?_); refine Kd.R_lit (Kd.int .i64) _ 2 ?hg (N := 48) ?hd (xs := ([t485, t488, 1] : List Int)) (inner := [.int .i64 t485, .int .i64 t488, .int .i64 1]) (ok := fun _ => True) (okp := fun _ => True) ?hr ?hp (fun _ hk => hk) trivial (Below.refl _ _) (Nat.le_refl _) (by simp) ?_; (case hd => rfl); (case hg => rfl); (case hr => first | (go_simp; done) | (go_simp; rfl)); (case hp => exact (Reps.one (show Kd.M (Kd.int .i64) _ _ _ t485 [.int .i64 t485] from rfl) (Reps.one (show Kd.M (Kd.int .i64) _ _ _ t488 [.int .i64 t488] from rfl) (Reps.one (show Kd.M (Kd.int .i64) _ _ _ 1 [.int .i64 1] from rfl) (Reps.none _ _))))); intro v492 w33 ho34 hb hg_ hnew_; clear hg_ hnew_; (first | rw [← Ny491.out] at ho34 | (simp only [Int.reduceToNat] at ho34; rw [← Ny491.out] at ho34)); have HO493 := Aside0.mk (Kd.R_lower ho34 (below_size bq)); replace HB := Aside0.mk (below_step bq hb); clear hb ho34))
      go_ret2
      exact ⟨_, eq_, by (with_reducible repeat (first | apply Kd.R_alloc | apply Kd.R_drewN | apply Kd.R_drew)); exact HO493.out, bq⟩
    ·replace c28 := Bool.eq_false_iff.mpr c28
     subst c28
     have H1 : (none) = some (r1, r2) := by rw [if_neg (show ¬ (false = true) by decide)] at H; exact H
     clear H
     have H := H1
     clear H1
     exact absurd H (by simp)
  ·rw [if_neg c12] at H
   exact absurd H (by simp)

/-! ### impl_compared: function 112 -/
def impl_compared.f (a0 : Int) (a1 : Int) : Option (Int) := if a0 < a1 then (some (-1)) else (if a0 > a1 then (none) else (none))
set_option maxHeartbeats 8000000 in
set_option maxRecDepth 100000 in
theorem impl_compared.calls (a0 : Int) (a1 : Int) (r : Int) (w : World) (h : impl_compared.f a0 a1 = some r) :
  Calls Tryd.prog 112 #[.int .i64 a0, .int .i64 a1] w fun e w' => e = .returned (.int .i64 r) ∧ Drawn0 w w' := by
 have H : (if a0 < a1 then (some (-1)) else (if a0 > a1 then (none) else (none))) = some r := h
 clear h
 by_cases c3 : a0 < a1
 ·rw [if_pos c3] at H
  have c3b0 : decide (a0 < a1) = true := decide_eq_true c3
  clear c3
  obtain rfl := Option.some.inj H
  go_enter Tryd.func112, Tryd.ntmps112
  go_wp2
  go_ret
  exact ⟨by first | rfl | (simp; done) | (simp [*]; done), by repeat (first | exact Drawn0.refl _ | apply Drawn0.step)⟩
 ·rw [if_neg c3] at H
  have c3b0 : decide (a0 < a1) = false := decide_eq_false c3
  clear c3
  by_cases c4 : a0 > a1
  ·rw [if_pos c4] at H
   exact absurd H (by simp)
  ·rw [if_neg c4] at H
   exact absurd H (by simp)

/-! ### impl_compareTerms: function 98 -/
def impl_compareTerms.f (l0 : List Int) (l1 : List Int) : Option (Int) := if 0 < (l0.length : Int) then (if 1 < (l0.length : Int) then (if 0 < (l1.length : Int) then (if 1 < (l1.length : Int) then ((impl_compared.f (wrap64 ((rd l0 0) + (rd l0 1))) (wrap64 ((rd l1 0) + (rd l1 1)))).bind fun t498 => (if t498 = 0 then (none) else (some t498))) else (none)) else (none)) else (none)) else (none)
set_option maxHeartbeats 8000000 in
set_option maxRecDepth 100000 in
theorem impl_compareTerms.calls (A0 : Option Addr) (c0 : Nat) (l0 : List Int) (A1 : Option Addr) (c1 : Nat) (l1 : List Int) (r : Int) (w : World) (hr0 : Kd.C (Kd.int .i64) w A0 l0.length l0) (hc0 : l0.length ≤ c0) (hr1 : Kd.C (Kd.int .i64) w A1 l1.length l1) (hc1 : l1.length ≤ c1) (h : impl_compareTerms.f l0 l1 = some r) :
  Calls Tryd.prog 98 #[.slice A0 l0.length c0, .slice A1 l1.length c1] w fun e w' => e = .returned (.int .i64 r) ∧ Drawn0 w w' := by
 have HR0 := Aside0.mk hr0
 have HC0 := Aside0.mk hc0
 clear hr0 hc0
 have HR1 := Aside0.mk hr1
 have HC1 := Aside0.mk hc1
 clear hr1 hc1
 have H : (if 0 < (l0.length : Int) then (if 1 < (l0.length : Int) then (if 0 < (l1.length : Int) then (if 1 < (l1.length : Int) then ((impl_compared.f (wrap64 ((rd l0 0) + (rd l0 1))) (wrap64 ((rd l1 0) + (rd l1 1)))).bind fun t498 => (if t498 = 0 then (none) else (some t498))) else (none)) else (none)) else (none)) else (none)) = some r := h
 clear h
 by_cases c3 : 0 < (l0.length : Int)
 ·rw [if_pos c3] at H
  have c3b0 : decide (0 < (l0.length : Int)) = true := decide_eq_true c3
  have c3b1 : decide (0 < l0.length) = true := decide_eq_true (by omega)
  clear c3
  revert H
  refine ifr fun c4 H => ?_
  have c4b0 : decide (1 < (l0.length : Int)) = true := decide_eq_true c4
  have c4b1 : decide (1 < l0.length) = true := decide_eq_true (by omega)
  clear c4
  revert H
  refine ifr fun c5 H => ?_
  have c5b0 : decide (0 < (l1.length : Int)) = true := decide_eq_true c5
  have c5b1 : decide (0 < l1.length) = true := decide_eq_true (by omega)
  clear c5
  revert H
  refine ifr fun c6 H => ?_
  have c6b0 : decide (1 < (l1.length : Int)) = true := decide_eq_true c6
  have c6b1 : decide (1 < l1.length) = true := decide_eq_true (by omega)
  clear c6
  replace H := Option.bind_eq_some_iff.mp H
  obtain ⟨t498, A70, H⟩ := H
  replace H : (if t498 = 0 then (none) else (some t498)) = some r := H
  have A7 := Aside0.mk A70
  clear A70
  by_cases c8 : t498 = 0
  ·rw [if_pos c8] at H
   exact absurd H (by simp)
  ·rw [if_neg c8] at H
   have c8b0 : (t498 == 0) = false := beq_eq_false_iff_ne.mpr c8
   have c8b1 : (t498 != 0) = true := bne_iff_ne.mpr c8
   obtain rfl := Option.some.inj H
   have p494 : 0 ≤ (0 : Int) := (by omega)
   have q494 : 0 < (l0.length : Int) := ode
   obtain ⟨ad494, e494, hx494_0⟩ := Kd.at_int HR0.out 0 p494 q494
   cases e494
   have qi494 : (0 < l0.length) = True := eq_true (by omega)
   (try rw [show ((0 : Int)).toNat = 0 from rfl] at hx494_0)
   (try rw [Addr.add_zero'] at hx494_0)
   replace p494 := eq_true p494
   replace q494 := eq_true q494
   have p495 : 0 ≤ (1 : Int) := (by omega)
   have q495 : 1 < (l0.length : Int) := ode
   obtain ⟨ad495, e495, hx495_0⟩ := Kd.at_int HR0.out 1 p495 q495
   obtain rfl : ad494 = ad495 := (by injection e495)
   (try simp only [show (1 : Int).toNat = 1 from rfl, Nat.reduceMul, Nat.reduceEqDiff, Go.Addr.add, ↓reduceIte] at hx495_0)
   have qi495 : (1 < l0.length) = True := eq_true (by omega)
   (try rw [show ((1 : Int)).toNat = 1 from rfl] at hx495_0)
   replace p495 := eq_true p495
   replace q495 := eq_true q495
   have p496 : 0 ≤ (0 : Int) := (by omega)
   have q496 : 0 < (l1.length : Int) := ode
   obtain ⟨ad496, e496, hx496_0⟩ := Kd.at_int HR1.out 0 p496 q496
   cases e496
   have qi496 : (0 < l1.length) = True := eq_true (by omega)
   (try rw [show ((0 : Int)).toNat = 0 from rfl] at hx496_0)
   (try rw [Addr.add_zero'] at hx496_0)
   replace p496 := eq_true p496
   replace q496 := eq_true q496
   have p497 : 0 ≤ (1 : Int) := (by omega)
   have q497 : 1 < (l1.length : Int) := ode
   obtain ⟨ad497, e497, hx497_0⟩ := Kd.at_int HR1.out 1 p497 q497
   obtain rfl : ad496 = ad497 := (by injection e497)
   (try simp only [show (1 : Int).toNat = 1 from rfl, Nat.reduceMul, Nat.reduceEqDiff, Go.Addr.add, ↓reduceIte] at hx497_0)
   have qi497 : (1 < l1.length) = True := eq_true (by omega)
   (try rw [show ((1 : Int)).toNat = 1 from rfl] at hx497_0)
   replace p497 := eq_true p497
   replace q497 := eq_true q497
   go_enter Tryd.func98, Tryd.ntmps98
   go_wp2_with (first | (go_at_call 112; (with_reducible refine (impl_compared.calls (wrap64 ((rd l0 0) + (rd l0 1))) (wrap64 ((rd l1 0) + (rd l1 1))) t498 _ A7.out).mono ?_); rintro e w' ⟨rfl, ⟨nd, rfl⟩⟩; (try first | exact ⟨rfl, _, World.drewN_drewN _ _ _⟩ | exact ⟨rfl, _, Eq.trans (World.drewN_drewN _ _ _) (congrArg (World.drewN _) (Nat.add_assoc _ _ _))⟩)))
   repeat (go_quiet (first | (go_at_call 112; (with_reducible refine (impl_compared.calls (wrap64 ((rd l0 0) + (rd l0 1))) (wrap64 ((rd l1 0) + (rd l1 1))) t498 _ A7.out).mono ?_); rintro e w' ⟨rfl, ⟨nd, rfl⟩⟩; (try first | exact ⟨rfl, _, World.drewN_drewN _ _ _⟩ | exact ⟨rfl, _, Eq.trans (World.drewN_drewN _ _ _) (congrArg (World.drewN _) (Nat.add_assoc _ _ _))⟩))); try go_wp2_with (first | (go_at_call 112; (with_reducible refine (impl_compared.calls (wrap64 ((rd l0 0) + (rd l0 1))) (wrap64 ((rd l1 0) + (rd l1 1))) t498 _ A7.out).mono ?_); rintro e w' ⟨rfl, ⟨nd, rfl⟩⟩; (try first | exact ⟨rfl, _, World.drewN_drewN _ _ _⟩ | exact ⟨rfl, _, Eq.trans (World.drewN_drewN _ _ _) (congrArg (World.drewN _) (Nat.add_assoc _ _ _))⟩))))
   go_ret
   exact ⟨by first | rfl | (simp; done) | (simp [*]; done), by repeat (first | exact Drawn0.refl _ | apply Drawn0.step)⟩
 ·rw [if_neg c3] at H
  exact absurd H (by simp)

/-! ### impl_IsPoly: function 69 -/
mutual
def impl_IsPoly.l0 : Nat → List (List Int) → Int → Int → List (List Int) → Option (Bool)
 | 0, _, _, _, _ => none
 | k + 1, x10, x11, x12, x500000 => if x12 < x11 then (if 0 ≤ x12 then (if x12 < (x10.length : Int) then (if ((rd_L1 x10 x12).length : Int) = 3 then (if 2 ≤ ((rd_L1 x10 x12).length : Int) then ((impl_within.f k ((rd_L1 x10 x12).take 2) 0 60).bind fun t502 => (if t502 = true then (if 2 < ((rd_L1 x10 x12).length : Int) then ((impl_inRange.f (rd (rd_L1 x10 x12) 2) 1 55440).bind fun t504 => (impl_IsPoly.j1 k x12 (rd_L1 x10 x12) x10 x11 x12 (!t504) x500000)) else (none)) else (impl_IsPoly.j1 k x12 (rd_L1 x10 x12) x10 x11 x12 true x500000))) else (none)) else (impl_IsPoly.j1 k x12 (rd_L1 x10 x12) x10 x11 x12 true x500000)) else (none)) else (none)) else (some true)
def impl_IsPoly.j1 : Nat → Int → List Int → List (List Int) → Int → Int → Bool → List (List Int) → Option (Bool)
 | 0, _, _, _, _, _, _, _ => none
 | k + 1, x3, x4, x10, x11, x12, x32, x500000 => if x32 = true then (none) else (if x3 > 0 then (if 0 ≤ (wrap64 (x3 - 1)) then (if (wrap64 (x3 - 1)) < (x500000.length : Int) then ((impl_compareTerms.f (rd_L1 x500000 (wrap64 (x3 - 1))) x4).bind fun t506 => (if t506 ≥ 0 then (none) else (impl_IsPoly.l0 k x10 x11 (wrap64 (x12 + 1)) x500000))) else (none)) else (none)) else (impl_IsPoly.l0 k x10 x11 (wrap64 (x12 + 1)) x500000))
end
def impl_IsPoly.f (k : Nat) (l0_0 : List (List Int)) : Option (Bool) := if (l0_0.length : Int) > 200 then (none) else (impl_IsPoly.l0 k l0_0 (l0_0.length : Int) 0 l0_0)
set_option maxHeartbeats 8000000 in
set_option maxRecDepth 100000 in
theorem impl_IsPoly.calls (k : Nat) (A0_0 : Option Addr) (c0_0 : Nat) (l0_0 : List (List Int)) (r : Bool) (w : World) (hr0_0 : Kd.C (Kd.slice 2 (Kd.int .i64)) w A0_0 l0_0.length l0_0) (hc0_0 : l0_0.length ≤ c0_0) (h : impl_IsPoly.f k l0_0 = some r) :
  Calls Tryd.prog 69 #[.agg #[.slice A0_0 l0_0.length c0_0]] w fun e w' => e = .returned (.bool r) ∧ Below w.heap.size w w' := by
 have hu39 := Tryd.underlying39
 have HR0_0 := Aside0.mk hr0_0
 have HC0_0 := Aside0.mk hc0_0
 clear hr0_0 hc0_0
 have HB := Aside0.mk (Below.refl w.heap.size w)
 have H : (if (l0_0.length : Int) > 200 then (none) else (impl_IsPoly.l0 k l0_0 (l0_0.length : Int) 0 l0_0)) = some r := h
 clear h
 by_cases c2 : (l0_0.length : Int) > 200
 ·rw [if_pos c2] at H
  exact absurd H (by simp)
 ·rw [if_neg c2] at H
  have c2b0 : decide (200 < (l0_0.length : Int)) = false := decide_eq_false c2
  have c2b1 : decide (200 < l0_0.length) = false := decide_eq_false (by omega)
  clear c2
  have H' := Aside0.mk H
  clear H
  go_enter Tryd.func69, Tryd.ntmps69
  go_wp2_with (first | ((with_reducible refine gate_dst (N := 1) rfl ?_); refine box_event ?hg (N := 1) ?hd (cs := #[.slice A0_0 l0_0.length c0_0]) (t := 39) ?hr ?_; (case hd => rfl); (case hg => rfl); (case hr => first | (go_simp; done) | (go_simp; rfl)); intro gb499 hg w3 hbox hb; have BK499 := Aside0.mk (hbox); have GW499 := Aside0.mk ((by rw [hg]; exact (below_size bq) : w.heap.size ≤ gb499)); have GE499 := Aside0.mk ((by rw [hg]; exact (below_size bq) : w.heap.size ≤ gb499)); replace HB := Aside0.mk (below_step bq hb); clear hb hbox hg; have hcz4_0 := bc0 BK499; have hfz4_0 := blk_frozen BK499.out 0))
  go_loopg [12] k (fun kq v12 w' => ∃ (x12_1 : Int), v12 = .int .i64 x12_1 ∧ Aside0 (impl_IsPoly.l0 kq l0_0 (l0_0.length : Int) x12_1 l0_0 = some r) ∧ Aside0 (kq ≤ k) ∧ Aside0 (w'.heap[gb499]? = some (.cells #[(.slice A0_0 l0_0.length c0_0)] 39 (0, 0))) ∧ Aside0 (Below w.heap.size w w'))
  case atStart => exact ⟨(0), (by first | rfl | (simp; done) | (simp [*]; done)), H', ⟨Nat.le_refl _⟩, ⟨bk BK499⟩, ⟨bq⟩⟩
  case round =>
   clear H'
   try clear c2
   try clear c2b0
   try clear c2b1
   try clear p2
   try clear hcz4_0
   try clear hfz4_0
   obtain ⟨x12_1, rfl, HA, HK1, BK499, HB⟩ := hrel
   cases gk with
   | zero => exact absurd HA.out (by simp [impl_IsPoly.l0])
   | succ k1 =>
    have H := HA.out
    clear HA
    simp only [impl_IsPoly.l0] at H
    by_cases c5 : x12_1 < (l0_0.length : Int)
    ·rw [if_pos c5] at H
     have c5b0 : decide (x12_1 < (l0_0.length : Int)) = true := decide_eq_true c5
     clear c5
     revert H
     refine ifr fun c6 H => ?_
     have c6b0 : decide (0 ≤ x12_1) = true := decide_eq_true c6
     clear c6
     revert H
     refine ifr fun c7 H => ?_
     have c7b0 : decide (x12_1 < (l0_0.length : Int)) = true := decide_eq_true c7
     clear c7
     have HC8 := Aside0.mk H
     clear H
     have p500 : 0 ≤ (x12_1 : Int) := ode
     have q500 : x12_1 < (l0_0.length : Int) := ode
     obtain ⟨ad500, A500_0, c500_0, e500, hx500_0, hl500_0, hi500_0⟩ := at_L1 HR0_0.out x12_1 p500 q500
     cases e500
     try replace hx500_0 := (HB.out.cell (World.block_lt_of_cell? w _ hx500_0)).trans hx500_0
     have HR500_0 := Aside0.mk hi500_0
     have HC500_0 := Aside0.mk hl500_0
     clear hi500_0 hl500_0
     replace p500 := eq_true p500
     replace q500 := eq_true q500
     go_upto_region 6 with (fail)
     go_cut [32] (fun v32 wc => ∃ (kq : Nat) (x32_7 : Bool), v32 = .bool x32_7 ∧ Aside0 (impl_IsPoly.j1 kq x12_1 (rd_L1 l0_0 x12_1) l0_0 (l0_0.length : Int) x12_1 x32_7 l0_0 = some r) ∧ Aside0 (kq ≤ k1) ∧ Aside0 (wc.heap[gb499]? = some (.cells #[(.slice (some ad500) l0_0.length c0_0)] 39 (0, 0))) ∧ Aside0 (Below w.heap.size w wc))
     case first =>
      have H := HC8.out
      clear HC8
      by_cases c9 : ((rd_L1 l0_0 x12_1).length : Int) = 3
      ·rw [if_pos c9] at H
       have c9b0 : (((rd_L1 l0_0 x12_1).length : Int) == 3) = true := beq_iff_eq.mpr c9
       have c9b1 : (((rd_L1 l0_0 x12_1).length : Int) != 3) = false := bne_eq_false_iff_eq.mpr c9
       clear c9
       (first | rw [c9b0] | (simp only [i64_w, i32_w]; rw [c9b0]) | skip)
       revert H
       refine ifr fun c10 H => ?_
       have c10b0 := eq_true c10
       have c10b1 : decide (2 ≤ ((rd_L1 l0_0 x12_1).length : Int)) = true := decide_eq_true c10
       clear c10
       replace H := Option.bind_eq_some_iff.mp H
       obtain ⟨t502, A110, H⟩ := H
       replace H : (if t502 = true then (if 2 < ((rd_L1 l0_0 x12_1).length : Int) then ((impl_inRange.f (rd (rd_L1 l0_0 x12_1) 2) 1 55440).bind fun t504 => (impl_IsPoly.j1 k1 x12_1 (rd_L1 l0_0 x12_1) l0_0 (l0_0.length : Int) x12_1 (!t504) l0_0)) else (none)) else (impl_IsPoly.j1 k1 x12_1 (rd_L1 l0_0 x12_1) l0_0 (l0_0.length : Int) x12_1 true l0_0)) = some r := H
       have A11 := Aside0.mk A110
       clear A110
       by_cases c12 : t502 = true
       ·subst c12
        have H1 : (if 2 < ((rd_L1 l0_0 x12_1).length : Int) then ((impl_inRange.f (rd (rd_L1 l0_0 x12_1) 2) 1 55440).bind fun t504 => (impl_IsPoly.j1 k1 x12_1 (rd_L1 l0_0 x12_1) l0_0 (l0_0.length : Int) x12_1 (!t504) l0_0)) else (none)) = some r := by rw [if_pos rfl] at H; exact H
        clear H
        have H := H1
        clear H1
        revert H
        refine ifr fun c13 H => ?_
        have c13b0 : decide (2 < ((rd_L1 l0_0 x12_1).length : Int)) = true := decide_eq_true c13
        have c13b1 : decide (2 < (rd_L1 l0_0 x12_1).length) = true := decide_eq_true (by omega)
        clear c13
        replace H := Option.bind_eq_some_iff.mp H
        obtain ⟨t504, A140, H⟩ := H
        replace H : (impl_IsPoly.j1 k1 x12_1 (rd_L1 l0_0 x12_1) l0_0 (l0_0.length : Int) x12_1 (!t504) l0_0) = some r := H
        have A14 := Aside0.mk A140
        clear A140
        have H' := Aside0.mk H
        clear H
        obtain ⟨i015, hi015, _, hsz15, _⟩ := info_parts info2
        obtain ⟨hcut15, hA15, hC15⟩ := print_take_of (P := Tryd.prog) (Value.int .i64) 0 35 2 .i64 Tryd.underlying35 hi015 hsz15 A500_0 c500_0 (rd_L1 l0_0 x12_1) 2 (by omega) (ode) HC500_0.out
        have HR501 := Aside0.mk (Kd.C_of_reads (h1 := fun _ => rfl) (hA15 _ (Kd.reads_of_C HR500_0.out)))
        have HC501 := Aside0.mk hC15
        clear hA15 hC15 hi015 hsz15
        go_wp2_with (first | (go_at_call 83; rw [← List.length_take]; (with_reducible refine (impl_within.calls k1 _ _ ((rd_L1 l0_0 x12_1).take 2) 0 60 true _ ?side1 ?side2 A11.out).mono ?_); (case side1 => exact kc HR501); (case side2 => exact HC501.out); rintro e w' ⟨rfl, ⟨nd, rfl⟩⟩; have p503 : 0 ≤ (2 : Int) := (by omega); have q503 : 2 < ((rd_L1 l0_0 x12_1).length : Int) := ode; obtain ⟨ad503, e503, hx503_0⟩ := Kd.at_int HR500_0.out 2 p503 q503; cases e503; (try simp only [show (2 : Int).toNat = 2 from rfl, Nat.reduceMul, Nat.reduceEqDiff, Go.Addr.add, ↓reduceIte] at hx503_0); have qi503 : (2 < (rd_L1 l0_0 x12_1).length) = True := eq_true (by omega); (try rw [show ((2 : Int)).toNat = 2 from rfl] at hx503_0); replace hx503_0 := (HB.out.cell (World.block_lt_of_cell? w _ hx503_0)).trans hx503_0; replace p503 := eq_true p503; replace q503 := eq_true q503) | (go_at_call 81; (with_reducible refine (impl_inRange.calls (rd (rd_L1 l0_0 x12_1) 2) 1 55440 t504 _ A14.out).mono ?_); rintro e w' ⟨rfl, ⟨nd, rfl⟩⟩))
        go_meet
        case rel => exact ⟨_, (!t504), (by first | rfl | (simp; done) | (simp [*]; done)), H', ⟨by have := HK1.out; first | omega | exact Nat.le_refl _⟩, ⟨bk BK499⟩, ⟨bq⟩⟩
       ·replace c12 := Bool.eq_false_iff.mpr c12
        subst c12
        have H1 : (impl_IsPoly.j1 k1 x12_1 (rd_L1 l0_0 x12_1) l0_0 (l0_0.length : Int) x12_1 true l0_0) = some r := by rw [if_neg (show ¬ (false = true) by decide)] at H; exact H
        clear H
        have H := H1
        clear H1
        have H' := Aside0.mk H
        clear H
        obtain ⟨i016, hi016, _, hsz16, _⟩ := info_parts info2
        obtain ⟨hcut16, hA16, hC16⟩ := print_take_of (P := Tryd.prog) (Value.int .i64) 0 35 2 .i64 Tryd.underlying35 hi016 hsz16 A500_0 c500_0 (rd_L1 l0_0 x12_1) 2 (by omega) (ode) HC500_0.out
        have HR501 := Aside0.mk (Kd.C_of_reads (h1 := fun _ => rfl) (hA16 _ (Kd.reads_of_C HR500_0.out)))
        have HC501 := Aside0.mk hC16
        clear hA16 hC16 hi016 hsz16
        go_wp2_with (first | (go_at_call 83; rw [← List.length_take]; (with_reducible refine (impl_within.calls k1 _ _ ((rd_L1 l0_0 x12_1).take 2) 0 60 false _ ?side1 ?side2 A11.out).mono ?_); (case side1 => exact kc HR501); (case side2 => exact HC501.out); rintro e w' ⟨rfl, ⟨nd, rfl⟩⟩))
        go_meet
        case rel => exact ⟨_, (true), (by first | rfl | (simp; done) | (simp [*]; done)), H', ⟨by have := HK1.out; first | omega | exact Nat.le_refl _⟩, ⟨bk BK499⟩, ⟨bq⟩⟩
      ·rw [if_neg c9] at H
       have c9b0 : (((rd_L1 l0_0 x12_1).length : Int) == 3) = false := beq_eq_false_iff_ne.mpr c9
       have c9b1 : (((rd_L1 l0_0 x12_1).length : Int) != 3) = true := bne_iff_ne.mpr c9
       (first | rw [c9b0] | (simp only [i64_w, i32_w]; rw [c9b0]) | skip)
       have H' := Aside0.mk H
       clear H
       go_wp2
       go_meet
       case rel => exact ⟨_, (true), (by first | rfl | (simp; done) | (simp [*]; done)), H', ⟨by have := HK1.out; first | omega | exact Nat.le_refl _⟩, ⟨bk BK499⟩, ⟨bq⟩⟩
     case rest =>
      clear HC8
      try clear c1
      try clear c2
      try clear c2b0
      try clear c2b1
      try clear p2
      try clear c5
      try clear c5b0
      try clear p5
      try clear q5
      try clear hx5
      try clear qi5
      try clear c6
      try clear c6b0
      try clear c7
      try clear c7b0
      try clear c9
      try clear c9b0
      try clear c9b1
      try clear c10
      try clear c10b0
      try clear c10b1
      try clear c12
      try clear c13
      try clear c13b0
      try clear c13b1
      try clear hcz4_0
      try clear hfz4_0
      try clear hx500_0
      try clear hx503_0
      try clear p2
      try clear p500
      try clear p503
      try clear q500
      try clear q503
      obtain ⟨kq, x32_7, rfl, HA, HJ7, BK499, HB⟩ := hcut
      cases kq with
      | zero => exact absurd HA.out (by simp [impl_IsPoly.j1])
      | succ kj7 =>
       have H := HA.out
       clear HA
       simp only [impl_IsPoly.j1] at H
       by_cases c17 : x32_7 = true
       ·subst c17
        have H1 : (none) = some r := by rw [if_pos rfl] at H; exact H
        clear H
        have H := H1
        clear H1
        exact absurd H (by simp)
       ·replace c17 := Bool.eq_false_iff.mpr c17
        subst c17
        have H1 : (if x12_1 > 0 then (if 0 ≤ (wrap64 (x12_1 - 1)) then (if (wrap64 (x12_1 - 1)) < (l0_0.length : Int) then ((impl_compareTerms.f (rd_L1 l0_0 (wrap64 (x12_1 - 1))) (rd_L1 l0_0 x12_1)).bind fun t506 => (if t506 ≥ 0 then (none) else (impl_IsPoly.l0 kj7 l0_0 (l0_0.length : Int) (wrap64 (x12_1 + 1)) l0_0))) else (none)) else (none)) else (impl_IsPoly.l0 kj7 l0_0 (l0_0.length : Int) (wrap64 (x12_1 + 1)) l0_0)) = some r := by rw [if_neg (show ¬ (false = true) by decide)] at H; exact H
        clear H
        have H := H1
        clear H1
        by_cases c18 : x12_1 > 0
        ·rw [if_pos c18] at H
         have c18b0 : decide (0 < x12_1) = true := decide_eq_true c18
         clear c18
         obtain ⟨ji19, hji19⟩ : ∃ j_ : Int, (wrap64 (x12_1 - 1)) = j_ := ⟨_, rfl⟩
         replace H : (if 0 ≤ (ji19) then (if (ji19) < (l0_0.length : Int) then ((impl_compareTerms.f (rd_L1 l0_0 (ji19)) (rd_L1 l0_0 x12_1)).bind fun t506 => (if t506 ≥ 0 then (none) else (impl_IsPoly.l0 kj7 l0_0 (l0_0.length : Int) (wrap64 (x12_1 + 1)) l0_0))) else (none)) else (none)) = some r := by first | (rw [hji19] at H; exact H) | (simp only [hji19] at H ⊢; exact H)
         have hji19w : (IntKind.i64.wrap (x12_1 - 1)) = ji19 := (i64_w _).trans hji19
         revert H
         refine ifr fun c20 H => ?_
         have c20b0 : decide (0 ≤ (ji19)) = true := decide_eq_true c20
         clear c20
         revert H
         refine ifr fun c21 H => ?_
         have c21b0 : decide ((ji19) < (l0_0.length : Int)) = true := decide_eq_true c21
         clear c21
         replace H := Option.bind_eq_some_iff.mp H
         obtain ⟨t506, A220, H⟩ := H
         replace H : (if t506 ≥ 0 then (none) else (impl_IsPoly.l0 kj7 l0_0 (l0_0.length : Int) (wrap64 (x12_1 + 1)) l0_0)) = some r := H
         have A22 := Aside0.mk A220
         clear A220
         by_cases c23 : t506 ≥ 0
         ·rw [if_pos c23] at H
          exact absurd H (by simp)
         ·rw [if_neg c23] at H
          have c23b0 : decide (0 ≤ t506) = false := decide_eq_false c23
          clear c23
          have H' := Aside0.mk H
          clear H
          have hcz24_0 := bc0 BK499
          have hfz24_0 := blk_frozen BK499.out 0
          have p505 : 0 ≤ ((ji19) : Int) := ode
          have q505 : (ji19) < (l0_0.length : Int) := ode
          obtain ⟨ad505, A505_0, c505_0, e505, hx505_0, hl505_0, hi505_0⟩ := at_L1 HR0_0.out (ji19) p505 q505
          obtain rfl : ad500 = ad505 := (by injection e505)
          try replace hx505_0 := (HB.out.cell (World.block_lt_of_cell? w _ hx505_0)).trans hx505_0
          have HR505_0 := Aside0.mk hi505_0
          have HC505_0 := Aside0.mk hl505_0
          clear hi505_0 hl505_0
          replace p505 := eq_true p505
          replace q505 := eq_true q505
          go_wp2_with (first | (go_at_call 98; (with_reducible refine (impl_compareTerms.calls _ _ (rd_L1 l0_0 (ji19)) _ _ (rd_L1 l0_0 x12_1) t506 _ ?side1 ?side2 ?side3 ?side4 A22.out).mono ?_); (case side1 => exact kc HR505_0); (case side2 => exact HC505_0.out); (case side3 => exact kc HR500_0); (case side4 => exact HC500_0.out); rintro e w' ⟨rfl, ⟨nd, rfl⟩⟩))
          go_roundg kj7
          case measure => have := HK1.out; have := HJ7.out; omega
          case rel => exact ⟨(wrap64 (x12_1 + 1)), (by first | rfl | (simp; done) | (simp [*]; done)), H', ⟨by have := HK1.out; have := HJ7.out; omega⟩, ⟨bk BK499⟩, ⟨bq⟩⟩
        ·rw [if_neg c18] at H
         have c18b0 : decide (0 < x12_1) = false := decide_eq_false c18
         clear c18
         have H' := Aside0.mk H
         clear H
         go_wp2
         go_roundg kj7
         case measure => have := HK1.out; have := HJ7.out; omega
         case rel => exact ⟨(wrap64 (x12_1 + 1)), (by first | rfl | (simp; done) | (simp [*]; done)), H', ⟨by have := HK1.out; have := HJ7.out; omega⟩, ⟨bk BK499⟩, ⟨bq⟩⟩
    ·rw [if_neg c5] at H
     have c5b0 : decide (x12_1 < (l0_0.length : Int)) = false := decide_eq_false c5
     clear c5
     obtain rfl := Option.some.inj H
     go_wp2
     go_ret
     exact ⟨eq_, bq⟩

/-! ### impl_decimal: function 24 -/
def impl_decimal.f (a0 : Int) : Option (ByteArray) := if -9223372036854775808 ≤ a0 then (if a0 ≤ 9223372036854775807 then (some ⟨(Lib.itoa a0).toArray⟩) else none) else none
theorem impl_decimal.calls (a0 : Int) (r : ByteArray) (w : World) (hG : Lib.TabIs Tryd.prog w "internal/strconv.uint64pow10" .u64 Lib.pow10Tab) (h : impl_decimal.f a0 = some r) :
  Calls Tryd.prog 24 #[.int .i64 a0] w fun e w' => e = .returned (.string r) ∧ Below w.heap.size w w' := by
 unfold impl_decimal.f at h
 by_cases h0 : -9223372036854775808 ≤ a0
 rotate_left
 ·rw [if_neg h0] at h
  exact absurd h (by simp)
 by_cases h1 : a0 ≤ 9223372036854775807
 rotate_left
 ·rw [if_pos h0, if_neg h1] at h
  exact absurd h (by simp)
 rw [if_pos h0, if_pos h1] at h
 obtain rfl := Option.some.inj h
 clear h
 have HC := fun W : World => fun hW => Tryd.strconv_FormatInt_10 a0 h0 h1 W hW
 clear h0 h1
 go_enter Tryd.func24, Tryd.ntmps24
 go_wp2_with (go_at_call 57; refine (HC _ hG).mono ?_; rintro e w' ⟨rfl, kk, os, rfl⟩)
 go_ret
 exact ⟨rfl, below_grow_drewN w kk os⟩

/-! ### impl_powerText: function 99 -/
def impl_powerText.f (a0 : ByteArray) (a1 : Int) : Option (ByteArray) := if a1 = 0 then (some (⟨#[]⟩ : ByteArray)) else (if a1 = 1 then (none) else (if a0.size + 1 ≤ 9223372036854775807 then ((impl_decimal.f a1).bind fun t507 => (if (a0 ++ (⟨#[94]⟩ : ByteArray)).size + t507.size ≤ 9223372036854775807 then (some ((a0 ++ (⟨#[94]⟩ : ByteArray)) ++ t507)) else (none))) else (none)))
set_option maxHeartbeats 8000000 in
set_option maxRecDepth 100000 in
theorem impl_powerText.calls (a0 : ByteArray) (a1 : Int) (r : ByteArray) (w : World) (hG : Lib.TabIs Tryd.prog w "internal/strconv.uint64pow10" .u64 Lib.pow10Tab) (h : impl_powerText.f a0 a1 = some r) :
  Calls Tryd.prog 99 #[.string a0, .int .i64 a1] w fun e w' => e = .returned (.string r) ∧ Below w.heap.size w w' := by
 have HG := Aside0.mk hG
 clear hG
 have HB := Aside0.mk (Below.refl w.heap.size w)
 have H : (if a1 = 0 then (some (⟨#[]⟩ : ByteArray)) else (if a1 = 1 then (none) else (if a0.size + 1 ≤ 9223372036854775807 then ((impl_decimal.f a1).bind fun t507 => (if (a0 ++ (⟨#[94]⟩ : ByteArray)).size + t507.size ≤ 9223372036854775807 then (some ((a0 ++ (⟨#[94]⟩ : ByteArray)) ++ t507)) else (none))) else (none)))) = some r := h
 clear h
 by_cases c3 : a1 = 0
 ·rw [if_pos c3] at H
  have c3b0 : (a1 == 0) = true := beq_iff_eq.mpr c3
  have c3b1 : (a1 != 0) = false := bne_eq_false_iff_eq.mpr c3
  clear c3
  obtain rfl := Option.some.inj H
  go_enter Tryd.func99, Tryd.ntmps99
  go_wp2
  go_ret
  exact ⟨eq_, bq⟩
 ·rw [if_neg c3] at H
  have c3b0 : (a1 == 0) = false := beq_eq_false_iff_ne.mpr c3
  have c3b1 : (a1 != 0) = true := bne_iff_ne.mpr c3
  by_cases c4 : a1 = 1
  ·rw [if_pos c4] at H
   exact absurd H (by simp)
  ·rw [if_neg c4] at H
   have c4b0 : (a1 == 1) = false := beq_eq_false_iff_ne.mpr c4
   have c4b1 : (a1 != 1) = true := bne_iff_ne.mpr c4
   by_cases c5 : a0.size + 1 ≤ 9223372036854775807
   ·rw [if_pos c5] at H
    have c5b0 := eq_true c5
    have c5b1 : decide (a0.size + 1 ≤ 9223372036854775807) = true := decide_eq_true c5
    try have c5b2 : (9223372036854775807 < a0.size + 1) = False := eq_false (Nat.not_lt.2 c5)
    replace H := Option.bind_eq_some_iff.mp H
    obtain ⟨t507, A60, H⟩ := H
    replace H : (if (a0 ++ (⟨#[94]⟩ : ByteArray)).size + t507.size ≤ 9223372036854775807 then (some ((a0 ++ (⟨#[94]⟩ : ByteArray)) ++ t507)) else (none)) = some r := H
    have A6 := Aside0.mk A60
    clear A60
    revert H
    refine ifr fun c7 H => ?_
    have c7b0 := eq_true c7
    have c7b1 : decide ((a0 ++ (⟨#[94]⟩ : ByteArray)).size + t507.size ≤ 9223372036854775807) = true := decide_eq_true c7
    try have c7b2 : (9223372036854775807 < (a0 ++ (⟨#[94]⟩ : ByteArray)).size + t507.size) = False := eq_false (Nat.not_lt.2 c7)
    have c7b3 : (9223372036854775807 < a0.size + 1 + t507.size) = False := eq_false (by have h_ := c7; rw [ByteArray.size_append] at h_; exact Nat.not_lt.2 h_)
    obtain rfl := Option.some.inj H
    go_enter Tryd.func99, Tryd.ntmps99
    go_wp2_with (first | ((with_reducible refine gate_callee (f := 24) rfl ?_); refine gL 14 Tryd.func24 #[.int .i64 a1] ?_; (with_reducible refine (impl_decimal.calls a1 t507 _ ?sideG A6.out).mono ?_); (case sideG => exact tab_below HG.out bq); rintro e w8 ⟨rfl, hb⟩; refine ⟨_, rfl, ?_⟩; replace HB := Aside0.mk (below_step bq hb); (try clear hb)))
    go_ret
    exact ⟨eq_, bq⟩
   ·rw [if_neg c5] at H
    exact absurd H (by simp)

/-! ### strings_Join: function 100 -/
def strings_Join.f (l0 : List ByteArray) (a1 : ByteArray) : Option (ByteArray) := if l0.length ≤ 140737488355328 then (if (Lib.join (l0.map (·.data.toList)) a1.data.toList).length ≤ 140737488355328 then (some ⟨(Lib.join (l0.map (·.data.toList)) a1.data.toList).toArray⟩) else none) else none
theorem strings_Join.calls (A0 : Option Addr) (c0 : Nat) (l0 : List ByteArray) (a1 : ByteArray) (r : ByteArray) (w : World) (hr0 : Kd.C Kd.string w A0 l0.length l0) (hc0 : l0.length ≤ c0) (h : strings_Join.f l0 a1 = some r) :
  Calls Tryd.prog 100 #[.slice A0 l0.length c0, .string a1] w fun e w' => e = .returned (.string r) ∧ Below w.heap.size w w' := by
 unfold strings_Join.f at h
 by_cases h0 : l0.length ≤ 140737488355328
 rotate_left
 ·rw [if_neg h0] at h
  exact absurd h (by simp)
 by_cases h1 : (Lib.join (l0.map (·.data.toList)) a1.data.toList).length ≤ 140737488355328
 rotate_left
 ·rw [if_pos h0, if_neg h1] at h
  exact absurd h (by simp)
 rw [if_pos h0, if_pos h1] at h
 obtain rfl := Option.some.inj h
 cases l0 with
 | nil =>
  refine (Tryd.strings_Join_none A0 c0 a1 w).mono ?_
  rintro e w' ⟨rfl, rfl⟩
  exact ⟨rfl, Below.refl _ _⟩
 | cons x xs =>
  obtain ⟨_, _, hc⟩ := hr0
  obtain ⟨⟨bk, o, sp⟩, rfl, hd⟩ := hc (by simp)
  have hcell : ∀ (j : Nat) y, (x :: xs)[j]? = some y → w.cell? (Addr.add ⟨bk, o, sp⟩ j) = some (.string y) := fun j y hy => by
   obtain ⟨c, _, hk, hu⟩ := hd j y hy
   obtain rfl : c = [.string y] := hk
   have := hu 0 _ rfl
   rwa [show j * Kd.string.sz + 0 = j from by show j * 1 + 0 = j; omega] at this
  have hsp : sp = none := by
   have := hcell 0 x rfl
   cases sp with
   | none => rfl
   | some q =>
    unfold World.cell? at this
    simp only [Addr.add] at this
    split at this
    ·simp at this
    ·cases this
  subst hsp
  exact Tryd.strings_Join bk o c0 (x :: xs) a1 w (fun j y hy => by have h9 := hcell j y hy; unfold Addr.add at h9; split at h9 <;> simp_all) (World.block_lt_of_cell? w _ (hcell 0 x rfl)) h0 hc0 h1
end Go.Proofs.YtkfdfpcdcabcoaaDoor.QDesx
