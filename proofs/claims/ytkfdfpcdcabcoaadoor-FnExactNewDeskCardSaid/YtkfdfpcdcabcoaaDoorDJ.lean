/- Walks: the printed functions, and that each call comes to them (10). -/
import Derived.Test.YtkfdfpcdcabcoaaDoorX
import Derived.Test.YtkfdfpcdcabcoaaDoorDA
import Derived.Test.YtkfdfpcdcabcoaaDoorDG
import Derived.Test.YtkfdfpcdcabcoaaDoorDI
import Derived.Test.YtkfdfpcdcabcoaaDoorDD
namespace Go.Proofs.YtkfdfpcdcabcoaaDoor.QDesx
open Go.RowKit Go.Proofs.YtkfdfpcdcabcoaaDoorW.PrintWords Go.Proofs.YtkfdfpcdcabcoaaDoorW.PrintLast Go.Proofs.YtkfdfpcdcabcoaaDoorW.PrintMore
attribute [local go_sem] max2_int min2_int max_two min_two max_three min_three max_four min_four
set_option linter.unusedVariables false
set_option linter.unusedSimpArgs false

/-! ### impl_pointOf: function 66 -/
def impl_pointOf.j0 : Nat → Int → Int → Int → Bool → ByteArray → Bool → Option (Int × Int × Int × Bool)
 | 0, _, _, _, _, _, _ => none
 | k + 1, x2, x3, x4, x5, x7, x26 => if x26 = true then ((impl_parted.f k x7 44).bind fun bt423 => ((impl_numberOf.f k bt423.1).bind fun bt426 => (if bt426.2 = true then (if bt423.2.2 = true then ((impl_numberOf.f k bt423.2.1).bind fun bt428 => (some (x2, bt426.1, bt428.1, bt428.2))) else (some (x2, bt426.1, x4, bt426.2))) else (some (x2, bt426.1, x4, bt426.2))))) else (some (x2, x3, x4, x5))
def impl_pointOf.f (k : Nat) (a0 : ByteArray) : Option (Int × Int × Int × Bool) := (impl_parted.f k a0 58).bind fun bt418 => ((impl_signedOf.f k bt418.1).bind fun bt421 => (if bt421.2 = true then (impl_pointOf.j0 k bt421.1 (-1) (-1) bt421.2 bt418.2.1 bt418.2.2) else (impl_pointOf.j0 k bt421.1 (-1) (-1) bt421.2 bt418.2.1 false)))
set_option maxHeartbeats 8000000 in
set_option maxRecDepth 100000 in
theorem impl_pointOf.calls (k : Nat) (a0 : ByteArray) (r1 : Int) (r2 : Int) (r3 : Int) (r4 : Bool) (w : World) (h : impl_pointOf.f k a0 = some (r1, r2, r3, r4)) :
  Calls Tryd.prog 66 #[.string a0] w fun e w' => e = .returned (.tuple #[.int .i64 r1, .int .i64 r2, .int .i64 r3, .bool r4]) ∧ Drawn0 w w' := by
 have H : ((impl_parted.f k a0 58).bind fun bt418 => ((impl_signedOf.f k bt418.1).bind fun bt421 => (if bt421.2 = true then (impl_pointOf.j0 k bt421.1 (-1) (-1) bt421.2 bt418.2.1 bt418.2.2) else (impl_pointOf.j0 k bt421.1 (-1) (-1) bt421.2 bt418.2.1 false)))) = some (r1, r2, r3, r4) := h
 clear h
 replace H := Option.bind_eq_some_iff.mp H
 obtain ⟨⟨t418, t419, t420⟩, A20, H⟩ := H
 replace H : ((impl_signedOf.f k t418).bind fun bt421 => (if bt421.2 = true then (impl_pointOf.j0 k bt421.1 (-1) (-1) bt421.2 t419 t420) else (impl_pointOf.j0 k bt421.1 (-1) (-1) bt421.2 t419 false))) = some (r1, r2, r3, r4) := H
 have A2 := Aside0.mk A20
 clear A20
 replace H := Option.bind_eq_some_iff.mp H
 obtain ⟨⟨t421, t422⟩, A30, H⟩ := H
 replace H : (if t422 = true then (impl_pointOf.j0 k t421 (-1) (-1) t422 t419 t420) else (impl_pointOf.j0 k t421 (-1) (-1) t422 t419 false)) = some (r1, r2, r3, r4) := H
 have A3 := Aside0.mk A30
 clear A30
 have HC4 := Aside0.mk H
 clear H
 go_enter Tryd.func66, Tryd.ntmps66
 go_upto_region 4 with (first | ((with_reducible refine gate_callee (f := 61) rfl ?_); refine gL 14 Tryd.func61 #[.string a0, .int .u8 58] ?_; (with_reducible refine (impl_parted.calls k a0 58 t418 t419 t420 _ A2.out).mono ?_); rintro e w' ⟨rfl, ⟨nd, rfl⟩⟩; refine ⟨_, rfl, ?_⟩) | ((with_reducible refine gate_callee (f := 94) rfl ?_); refine gL 20 Tryd.func94 #[.string t418] ?_; (with_reducible refine (impl_signedOf.calls k t418 t421 t422 _ A3.out).mono ?_); rintro e w' ⟨rfl, ⟨nd, rfl⟩⟩; refine ⟨_, rfl, ?_⟩))
 (try simp only [Act.put, List.setIfInBounds_toArray, List.set_cons_zero, List.set_cons_succ])
 go_cut [26] (fun v26 wc => ∃ (kq : Nat) (x26_3 : Bool), v26 = .bool x26_3 ∧ Aside0 (impl_pointOf.j0 kq t421 (-1) (-1) t422 t419 x26_3 = some (r1, r2, r3, r4)) ∧ Aside0 (kq ≤ k) ∧ Drawn0 w wc)
 case first =>
  have H := HC4.out
  clear HC4
  by_cases c5 : t422 = true
  ·subst c5
   have H1 : (impl_pointOf.j0 k t421 (-1) (-1) true t419 t420) = some (r1, r2, r3, r4) := by rw [if_pos rfl] at H; exact H
   clear H
   have H := H1
   clear H1
   have H' := Aside0.mk H
   clear H
   go_wp2
   go_meet
   case rel => exact ⟨_, (t420), (by first | rfl | (simp; done) | (simp [*]; done)), H', ⟨by first | omega | exact Nat.le_refl _⟩, by repeat (first | exact Drawn0.refl _ | apply Drawn0.step)⟩
  ·replace c5 := Bool.eq_false_iff.mpr c5
   subst c5
   have H1 : (impl_pointOf.j0 k t421 (-1) (-1) false t419 false) = some (r1, r2, r3, r4) := by rw [if_neg (show ¬ (false = true) by decide)] at H; exact H
   clear H
   have H := H1
   clear H1
   have H' := Aside0.mk H
   clear H
   go_wp2
   go_meet
   case rel => exact ⟨_, (false), (by first | rfl | (simp; done) | (simp [*]; done)), H', ⟨by first | omega | exact Nat.le_refl _⟩, by repeat (first | exact Drawn0.refl _ | apply Drawn0.step)⟩
 case rest =>
  clear HC4
  try clear p2
  try clear c5
  obtain ⟨kq, x26_3, rfl, HA, HJ3, ⟨mc3, rfl⟩⟩ := hcut
  cases kq with
  | zero => exact absurd HA.out (by simp [impl_pointOf.j0])
  | succ kj3 =>
   have H := HA.out
   clear HA
   simp only [impl_pointOf.j0] at H
   by_cases c6 : x26_3 = true
   ·subst c6
    have H1 : ((impl_parted.f kj3 t419 44).bind fun bt423 => ((impl_numberOf.f kj3 bt423.1).bind fun bt426 => (if bt426.2 = true then (if bt423.2.2 = true then ((impl_numberOf.f kj3 bt423.2.1).bind fun bt428 => (some (t421, bt426.1, bt428.1, bt428.2))) else (some (t421, bt426.1, (-1), bt426.2))) else (some (t421, bt426.1, (-1), bt426.2))))) = some (r1, r2, r3, r4) := by rw [if_pos rfl] at H; exact H
    clear H
    have H := H1
    clear H1
    replace H := Option.bind_eq_some_iff.mp H
    obtain ⟨⟨t423, t424, t425⟩, A70, H⟩ := H
    replace H : ((impl_numberOf.f kj3 t423).bind fun bt426 => (if bt426.2 = true then (if t425 = true then ((impl_numberOf.f kj3 t424).bind fun bt428 => (some (t421, bt426.1, bt428.1, bt428.2))) else (some (t421, bt426.1, (-1), bt426.2))) else (some (t421, bt426.1, (-1), bt426.2)))) = some (r1, r2, r3, r4) := H
    have A7 := Aside0.mk A70
    clear A70
    replace H := Option.bind_eq_some_iff.mp H
    obtain ⟨⟨t426, t427⟩, A80, H⟩ := H
    replace H : (if t427 = true then (if t425 = true then ((impl_numberOf.f kj3 t424).bind fun bt428 => (some (t421, t426, bt428.1, bt428.2))) else (some (t421, t426, (-1), t427))) else (some (t421, t426, (-1), t427))) = some (r1, r2, r3, r4) := H
    have A8 := Aside0.mk A80
    clear A80
    by_cases c9 : t427 = true
    ·subst c9
     have H1 : (if t425 = true then ((impl_numberOf.f kj3 t424).bind fun bt428 => (some (t421, t426, bt428.1, bt428.2))) else (some (t421, t426, (-1), true))) = some (r1, r2, r3, r4) := by rw [if_pos rfl] at H; exact H
     clear H
     have H := H1
     clear H1
     by_cases c10 : t425 = true
     ·subst c10
      have H1 : ((impl_numberOf.f kj3 t424).bind fun bt428 => (some (t421, t426, bt428.1, bt428.2))) = some (r1, r2, r3, r4) := by rw [if_pos rfl] at H; exact H
      clear H
      have H := H1
      clear H1
      replace H := Option.bind_eq_some_iff.mp H
      obtain ⟨⟨t428, t429⟩, A110, H⟩ := H
      replace H : (some (t421, t426, t428, t429)) = some (r1, r2, r3, r4) := H
      have A11 := Aside0.mk A110
      clear A110
      simp only [Option.some.injEq, Prod.mk.injEq] at H
      obtain ⟨rfl, rfl, rfl, rfl⟩ := H
      go_wp2_with (first | ((with_reducible refine gate_callee (f := 61) rfl ?_); refine gL 29 Tryd.func61 #[.string t419, .int .u8 44] ?_; (with_reducible refine (impl_parted.calls kj3 t419 44 t423 t424 true _ A7.out).mono ?_); rintro e w' ⟨rfl, ⟨nd, rfl⟩⟩; refine ⟨_, rfl, ?_⟩) | ((with_reducible refine gate_callee (f := 93) rfl ?_); refine gL 35 Tryd.func93 #[.string t423] ?_; (with_reducible refine (impl_numberOf.calls kj3 t423 t426 true _ A8.out).mono ?_); rintro e w' ⟨rfl, ⟨nd, rfl⟩⟩; refine ⟨_, rfl, ?_⟩) | ((with_reducible refine gate_callee (f := 93) rfl ?_); refine gL 44 Tryd.func93 #[.string t424] ?_; (with_reducible refine (impl_numberOf.calls kj3 t424 t428 t429 _ A11.out).mono ?_); rintro e w' ⟨rfl, ⟨nd, rfl⟩⟩; refine ⟨_, rfl, ?_⟩))
      refine bodyPost_ret (results_list (rs := [.tmp 2, .tmp 3, .tmp 4, .tmp 5]) rfl (by simp) (.tmp (.tmp (.tmp (.tmp .nil))))) rfl ?_
      exact ⟨by first | rfl | (simp; done) | (simp [*]; done), by repeat (first | exact Drawn0.refl _ | apply Drawn0.step)⟩
     ·replace c10 := Bool.eq_false_iff.mpr c10
      subst c10
      have H1 : (some (t421, t426, (-1), true)) = some (r1, r2, r3, r4) := by rw [if_neg (show ¬ (false = true) by decide)] at H; exact H
      clear H
      have H := H1
      clear H1
      simp only [Option.some.injEq, Prod.mk.injEq] at H
      obtain ⟨rfl, rfl, rfl, rfl⟩ := H
      go_wp2_with (first | ((with_reducible refine gate_callee (f := 61) rfl ?_); refine gL 29 Tryd.func61 #[.string t419, .int .u8 44] ?_; (with_reducible refine (impl_parted.calls kj3 t419 44 t423 t424 false _ A7.out).mono ?_); rintro e w' ⟨rfl, ⟨nd, rfl⟩⟩; refine ⟨_, rfl, ?_⟩) | ((with_reducible refine gate_callee (f := 93) rfl ?_); refine gL 35 Tryd.func93 #[.string t423] ?_; (with_reducible refine (impl_numberOf.calls kj3 t423 t426 true _ A8.out).mono ?_); rintro e w' ⟨rfl, ⟨nd, rfl⟩⟩; refine ⟨_, rfl, ?_⟩))
      refine bodyPost_ret (results_list (rs := [.tmp 2, .tmp 3, .tmp 4, .tmp 5]) rfl (by simp) (.tmp (.tmp (.tmp (.tmp .nil))))) rfl ?_
      exact ⟨by first | rfl | (simp; done) | (simp [*]; done), by repeat (first | exact Drawn0.refl _ | apply Drawn0.step)⟩
    ·replace c9 := Bool.eq_false_iff.mpr c9
     subst c9
     have H1 : (some (t421, t426, (-1), false)) = some (r1, r2, r3, r4) := by rw [if_neg (show ¬ (false = true) by decide)] at H; exact H
     clear H
     have H := H1
     clear H1
     simp only [Option.some.injEq, Prod.mk.injEq] at H
     obtain ⟨rfl, rfl, rfl, rfl⟩ := H
     go_wp2_with (first | ((with_reducible refine gate_callee (f := 61) rfl ?_); refine gL 29 Tryd.func61 #[.string t419, .int .u8 44] ?_; (with_reducible refine (impl_parted.calls kj3 t419 44 t423 t424 t425 _ A7.out).mono ?_); rintro e w' ⟨rfl, ⟨nd, rfl⟩⟩; refine ⟨_, rfl, ?_⟩) | ((with_reducible refine gate_callee (f := 93) rfl ?_); refine gL 35 Tryd.func93 #[.string t423] ?_; (with_reducible refine (impl_numberOf.calls kj3 t423 t426 false _ A8.out).mono ?_); rintro e w' ⟨rfl, ⟨nd, rfl⟩⟩; refine ⟨_, rfl, ?_⟩))
     refine bodyPost_ret (results_list (rs := [.tmp 2, .tmp 3, .tmp 4, .tmp 5]) rfl (by simp) (.tmp (.tmp (.tmp (.tmp .nil))))) rfl ?_
     exact ⟨by first | rfl | (simp; done) | (simp [*]; done), by repeat (first | exact Drawn0.refl _ | apply Drawn0.step)⟩
   ·replace c6 := Bool.eq_false_iff.mpr c6
    subst c6
    have H1 : (some (t421, (-1), (-1), t422)) = some (r1, r2, r3, r4) := by rw [if_neg (show ¬ (false = true) by decide)] at H; exact H
    clear H
    have H := H1
    clear H1
    simp only [Option.some.injEq, Prod.mk.injEq] at H
    obtain ⟨rfl, rfl, rfl, rfl⟩ := H
    go_wp2
    refine bodyPost_ret (results_list (rs := [.tmp 2, .tmp 3, .tmp 4, .tmp 5]) rfl (by simp) (.tmp (.tmp (.tmp (.tmp .nil))))) rfl ?_
    exact ⟨by first | rfl | (simp; done) | (simp [*]; done), by repeat (first | exact Drawn0.refl _ | apply Drawn0.step)⟩

/-! ### impl_isPlace: function 95 -/
def impl_isPlace.f (l0_0 : List Int) (l0_1 : List Int) (l0_2 : List Int) (a1 : Int) : Option (Bool) := if 0 ≤ a1 then (if a1 < (l0_0.length : Int) then (if a1 < (l0_1.length : Int) then (if a1 = 0 then (if (rd l0_0 a1) = (-1) then (some ((rd l0_1 a1) == (-1))) else (some false)) else ((impl_inRange.f (rd l0_0 a1) 0 (wrap64 (a1 - 1))).bind fun t433 => (if t433 = true then (if (rd l0_1 a1) = (-1) then (some true) else (if (rd l0_1 a1) ≥ 0 then (if 0 ≤ (rd l0_0 a1) then (if (rd l0_0 a1) < (l0_0.length : Int) then (if (rd l0_1 a1) = (rd l0_0 (rd l0_0 a1)) then (some true) else (if (rd l0_0 a1) < (l0_1.length : Int) then (some ((rd l0_1 a1) == (rd l0_1 (rd l0_0 a1)))) else (none))) else (none)) else (none)) else (some false))) else (none)))) else (none)) else (none)) else (none)
set_option maxHeartbeats 8000000 in
set_option maxRecDepth 100000 in
theorem impl_isPlace.calls (A0_0 : Option Addr) (c0_0 : Nat) (l0_0 : List Int) (A0_1 : Option Addr) (c0_1 : Nat) (l0_1 : List Int) (A0_2 : Option Addr) (c0_2 : Nat) (l0_2 : List Int) (a1 : Int) (r : Bool) (w : World) (hr0_0 : Kd.C (Kd.int .i64) w A0_0 l0_0.length l0_0) (hc0_0 : l0_0.length ≤ c0_0) (hr0_1 : Kd.C (Kd.int .i64) w A0_1 l0_1.length l0_1) (hc0_1 : l0_1.length ≤ c0_1) (hr0_2 : Kd.C (Kd.int .i64) w A0_2 l0_2.length l0_2) (hc0_2 : l0_2.length ≤ c0_2) (h : impl_isPlace.f l0_0 l0_1 l0_2 a1 = some r) :
  Calls Tryd.prog 95 #[.agg #[.slice A0_0 l0_0.length c0_0, .slice A0_1 l0_1.length c0_1, .slice A0_2 l0_2.length c0_2], .int .i64 a1] w fun e w' => e = .returned (.bool r) ∧ Below w.heap.size w w' := by
 have hu37 := Tryd.underlying37
 have HR0_0 := Aside0.mk hr0_0
 have HC0_0 := Aside0.mk hc0_0
 clear hr0_0 hc0_0
 have HR0_1 := Aside0.mk hr0_1
 have HC0_1 := Aside0.mk hc0_1
 clear hr0_1 hc0_1
 have HR0_2 := Aside0.mk hr0_2
 have HC0_2 := Aside0.mk hc0_2
 clear hr0_2 hc0_2
 have HB := Aside0.mk (Below.refl w.heap.size w)
 have H : (if 0 ≤ a1 then (if a1 < (l0_0.length : Int) then (if a1 < (l0_1.length : Int) then (if a1 = 0 then (if (rd l0_0 a1) = (-1) then (some ((rd l0_1 a1) == (-1))) else (some false)) else ((impl_inRange.f (rd l0_0 a1) 0 (wrap64 (a1 - 1))).bind fun t433 => (if t433 = true then (if (rd l0_1 a1) = (-1) then (some true) else (if (rd l0_1 a1) ≥ 0 then (if 0 ≤ (rd l0_0 a1) then (if (rd l0_0 a1) < (l0_0.length : Int) then (if (rd l0_1 a1) = (rd l0_0 (rd l0_0 a1)) then (some true) else (if (rd l0_0 a1) < (l0_1.length : Int) then (some ((rd l0_1 a1) == (rd l0_1 (rd l0_0 a1)))) else (none))) else (none)) else (none)) else (some false))) else (none)))) else (none)) else (none)) else (none)) = some r := h
 clear h
 by_cases c3 : 0 ≤ a1
 ·rw [if_pos c3] at H
  have c3b0 : decide (0 ≤ a1) = true := decide_eq_true c3
  clear c3
  revert H
  refine ifr fun c4 H => ?_
  have c4b0 : decide (a1 < (l0_0.length : Int)) = true := decide_eq_true c4
  clear c4
  revert H
  refine ifr fun c5 H => ?_
  have c5b0 : decide (a1 < (l0_1.length : Int)) = true := decide_eq_true c5
  clear c5
  by_cases c6 : a1 = 0
  ·rw [if_pos c6] at H
   have c6b0 : (a1 == 0) = true := beq_iff_eq.mpr c6
   have c6b1 : (a1 != 0) = false := bne_eq_false_iff_eq.mpr c6
   clear c6
   by_cases c7 : (rd l0_0 a1) = (-1)
   ·rw [if_pos c7] at H
    have c7b0 : ((rd l0_0 a1) == (-1)) = true := beq_iff_eq.mpr c7
    have c7b1 : ((rd l0_0 a1) != (-1)) = false := bne_eq_false_iff_eq.mpr c7
    clear c7
    obtain rfl := Option.some.inj H
    go_enter Tryd.func95, Tryd.ntmps95
    go_wp2_with (first | ((with_reducible refine gate_dst (N := 2) rfl ?_); refine box_event ?hg (N := 2) ?hd (cs := #[.slice A0_0 l0_0.length c0_0, .slice A0_1 l0_1.length c0_1, .slice A0_2 l0_2.length c0_2]) (t := 37) ?hr ?_; (case hd => rfl); (case hg => rfl); (case hr => first | (go_simp; done) | (go_simp; rfl)); intro gb430 hg w8 hbox hb; have BK430 := Aside0.mk (hbox); have GW430 := Aside0.mk ((by rw [hg]; exact (below_size bq) : w.heap.size ≤ gb430)); have GE430 := Aside0.mk ((by rw [hg]; exact (below_size bq) : w.heap.size ≤ gb430)); replace HB := Aside0.mk (below_step bq hb); clear hb hbox hg; have hcz9_0 := bc0 BK430; have hcz9_1 := bc1 BK430; have hcz9_2 : w8.cell? ⟨gb430, 2, none⟩ = some (.slice A0_2 l0_2.length c0_2) := (blk_cell BK430.out 2).trans rfl; have hfz9_0 := blk_frozen BK430.out 0; have hfz9_1 := blk_frozen BK430.out 1; have hfz9_2 := blk_frozen BK430.out 2; have p431 : 0 ≤ (a1 : Int) := ode; have q431 : a1 < (l0_0.length : Int) := ode; obtain ⟨ad431, e431, hx431_0⟩ := Kd.at_int HR0_0.out a1 p431 q431; cases e431; replace hx431_0 := (HB.out.cell (World.block_lt_of_cell? w _ hx431_0)).trans hx431_0; replace p431 := eq_true p431; replace q431 := eq_true q431; have p432 : 0 ≤ (a1 : Int) := ode; have q432 : a1 < (l0_1.length : Int) := ode; obtain ⟨ad432, e432, hx432_0⟩ := Kd.at_int HR0_1.out a1 p432 q432; cases e432; replace hx432_0 := (HB.out.cell (World.block_lt_of_cell? w _ hx432_0)).trans hx432_0; replace p432 := eq_true p432; replace q432 := eq_true q432))
    repeat (go_quiet (first | ((with_reducible refine gate_dst (N := 2) rfl ?_); refine box_event ?hg (N := 2) ?hd (cs := #[.slice A0_0 l0_0.length c0_0, .slice A0_1 l0_1.length c0_1, .slice A0_2 l0_2.length c0_2]) (t := 37) ?hr ?_; (case hd => rfl); (case hg => rfl); (case hr => first | (go_simp; done) | (go_simp; rfl)); intro gb430 hg w8 hbox hb; have BK430 := Aside0.mk (hbox); have GW430 := Aside0.mk ((by rw [hg]; exact (below_size bq) : w.heap.size ≤ gb430)); have GE430 := Aside0.mk ((by rw [hg]; exact (below_size bq) : w.heap.size ≤ gb430)); replace HB := Aside0.mk (below_step bq hb); clear hb hbox hg; have hcz9_0 := bc0 BK430; have hcz9_1 := bc1 BK430; have hcz9_2 : w8.cell? ⟨gb430, 2, none⟩ = some (.slice A0_2 l0_2.length c0_2) := (blk_cell BK430.out 2).trans rfl; have hfz9_0 := blk_frozen BK430.out 0; have hfz9_1 := blk_frozen BK430.out 1; have hfz9_2 := blk_frozen BK430.out 2; have p431 : 0 ≤ (a1 : Int) := ode; have q431 : a1 < (l0_0.length : Int) := ode; obtain ⟨ad431, e431, hx431_0⟩ := Kd.at_int HR0_0.out a1 p431 q431; cases e431; replace hx431_0 := (HB.out.cell (World.block_lt_of_cell? w _ hx431_0)).trans hx431_0; replace p431 := eq_true p431; replace q431 := eq_true q431; have p432 : 0 ≤ (a1 : Int) := ode; have q432 : a1 < (l0_1.length : Int) := ode; obtain ⟨ad432, e432, hx432_0⟩ := Kd.at_int HR0_1.out a1 p432 q432; cases e432; replace hx432_0 := (HB.out.cell (World.block_lt_of_cell? w _ hx432_0)).trans hx432_0; replace p432 := eq_true p432; replace q432 := eq_true q432)); try go_wp2_with (first | ((with_reducible refine gate_dst (N := 2) rfl ?_); refine box_event ?hg (N := 2) ?hd (cs := #[.slice A0_0 l0_0.length c0_0, .slice A0_1 l0_1.length c0_1, .slice A0_2 l0_2.length c0_2]) (t := 37) ?hr ?_; (case hd => rfl); (case hg => rfl); (case hr => first | (go_simp; done) | (go_simp; rfl)); intro gb430 hg w8 hbox hb; have BK430 := Aside0.mk (hbox); have GW430 := Aside0.mk ((by rw [hg]; exact (below_size bq) : w.heap.size ≤ gb430)); have GE430 := Aside0.mk ((by rw [hg]; exact (below_size bq) : w.heap.size ≤ gb430)); replace HB := Aside0.mk (below_step bq hb); clear hb hbox hg; have hcz9_0 := bc0 BK430; have hcz9_1 := bc1 BK430; have hcz9_2 : w8.cell? ⟨gb430, 2, none⟩ = some (.slice A0_2 l0_2.length c0_2) := (blk_cell BK430.out 2).trans rfl; have hfz9_0 := blk_frozen BK430.out 0; have hfz9_1 := blk_frozen BK430.out 1; have hfz9_2 := blk_frozen BK430.out 2; have p431 : 0 ≤ (a1 : Int) := ode; have q431 : a1 < (l0_0.length : Int) := ode; obtain ⟨ad431, e431, hx431_0⟩ := Kd.at_int HR0_0.out a1 p431 q431; cases e431; replace hx431_0 := (HB.out.cell (World.block_lt_of_cell? w _ hx431_0)).trans hx431_0; replace p431 := eq_true p431; replace q431 := eq_true q431; have p432 : 0 ≤ (a1 : Int) := ode; have q432 : a1 < (l0_1.length : Int) := ode; obtain ⟨ad432, e432, hx432_0⟩ := Kd.at_int HR0_1.out a1 p432 q432; cases e432; replace hx432_0 := (HB.out.cell (World.block_lt_of_cell? w _ hx432_0)).trans hx432_0; replace p432 := eq_true p432; replace q432 := eq_true q432)))
    go_ret
    exact ⟨eq_, bq⟩
   ·rw [if_neg c7] at H
    have c7b0 : ((rd l0_0 a1) == (-1)) = false := beq_eq_false_iff_ne.mpr c7
    have c7b1 : ((rd l0_0 a1) != (-1)) = true := bne_iff_ne.mpr c7
    obtain rfl := Option.some.inj H
    go_enter Tryd.func95, Tryd.ntmps95
    go_wp2_with (first | ((with_reducible refine gate_dst (N := 2) rfl ?_); refine box_event ?hg (N := 2) ?hd (cs := #[.slice A0_0 l0_0.length c0_0, .slice A0_1 l0_1.length c0_1, .slice A0_2 l0_2.length c0_2]) (t := 37) ?hr ?_; (case hd => rfl); (case hg => rfl); (case hr => first | (go_simp; done) | (go_simp; rfl)); intro gb430 hg w10 hbox hb; have BK430 := Aside0.mk (hbox); have GW430 := Aside0.mk ((by rw [hg]; exact (below_size bq) : w.heap.size ≤ gb430)); have GE430 := Aside0.mk ((by rw [hg]; exact (below_size bq) : w.heap.size ≤ gb430)); replace HB := Aside0.mk (below_step bq hb); clear hb hbox hg; have hcz11_0 := bc0 BK430; have hcz11_1 := bc1 BK430; have hcz11_2 : w10.cell? ⟨gb430, 2, none⟩ = some (.slice A0_2 l0_2.length c0_2) := (blk_cell BK430.out 2).trans rfl; have hfz11_0 := blk_frozen BK430.out 0; have hfz11_1 := blk_frozen BK430.out 1; have hfz11_2 := blk_frozen BK430.out 2; have p431 : 0 ≤ (a1 : Int) := ode; have q431 : a1 < (l0_0.length : Int) := ode; obtain ⟨ad431, e431, hx431_0⟩ := Kd.at_int HR0_0.out a1 p431 q431; cases e431; replace hx431_0 := (HB.out.cell (World.block_lt_of_cell? w _ hx431_0)).trans hx431_0; replace p431 := eq_true p431; replace q431 := eq_true q431; have p432 : 0 ≤ (a1 : Int) := ode; have q432 : a1 < (l0_1.length : Int) := ode; obtain ⟨ad432, e432, hx432_0⟩ := Kd.at_int HR0_1.out a1 p432 q432; cases e432; replace hx432_0 := (HB.out.cell (World.block_lt_of_cell? w _ hx432_0)).trans hx432_0; replace p432 := eq_true p432; replace q432 := eq_true q432))
    repeat (go_quiet (first | ((with_reducible refine gate_dst (N := 2) rfl ?_); refine box_event ?hg (N := 2) ?hd (cs := #[.slice A0_0 l0_0.length c0_0, .slice A0_1 l0_1.length c0_1, .slice A0_2 l0_2.length c0_2]) (t := 37) ?hr ?_; (case hd => rfl); (case hg => rfl); (case hr => first | (go_simp; done) | (go_simp; rfl)); intro gb430 hg w10 hbox hb; have BK430 := Aside0.mk (hbox); have GW430 := Aside0.mk ((by rw [hg]; exact (below_size bq) : w.heap.size ≤ gb430)); have GE430 := Aside0.mk ((by rw [hg]; exact (below_size bq) : w.heap.size ≤ gb430)); replace HB := Aside0.mk (below_step bq hb); clear hb hbox hg; have hcz11_0 := bc0 BK430; have hcz11_1 := bc1 BK430; have hcz11_2 : w10.cell? ⟨gb430, 2, none⟩ = some (.slice A0_2 l0_2.length c0_2) := (blk_cell BK430.out 2).trans rfl; have hfz11_0 := blk_frozen BK430.out 0; have hfz11_1 := blk_frozen BK430.out 1; have hfz11_2 := blk_frozen BK430.out 2; have p431 : 0 ≤ (a1 : Int) := ode; have q431 : a1 < (l0_0.length : Int) := ode; obtain ⟨ad431, e431, hx431_0⟩ := Kd.at_int HR0_0.out a1 p431 q431; cases e431; replace hx431_0 := (HB.out.cell (World.block_lt_of_cell? w _ hx431_0)).trans hx431_0; replace p431 := eq_true p431; replace q431 := eq_true q431; have p432 : 0 ≤ (a1 : Int) := ode; have q432 : a1 < (l0_1.length : Int) := ode; obtain ⟨ad432, e432, hx432_0⟩ := Kd.at_int HR0_1.out a1 p432 q432; cases e432; replace hx432_0 := (HB.out.cell (World.block_lt_of_cell? w _ hx432_0)).trans hx432_0; replace p432 := eq_true p432; replace q432 := eq_true q432)); try go_wp2_with (first | ((with_reducible refine gate_dst (N := 2) rfl ?_); refine box_event ?hg (N := 2) ?hd (cs := #[.slice A0_0 l0_0.length c0_0, .slice A0_1 l0_1.length c0_1, .slice A0_2 l0_2.length c0_2]) (t := 37) ?hr ?_; (case hd => rfl); (case hg => rfl); (case hr => first | (go_simp; done) | (go_simp; rfl)); intro gb430 hg w10 hbox hb; have BK430 := Aside0.mk (hbox); have GW430 := Aside0.mk ((by rw [hg]; exact (below_size bq) : w.heap.size ≤ gb430)); have GE430 := Aside0.mk ((by rw [hg]; exact (below_size bq) : w.heap.size ≤ gb430)); replace HB := Aside0.mk (below_step bq hb); clear hb hbox hg; have hcz11_0 := bc0 BK430; have hcz11_1 := bc1 BK430; have hcz11_2 : w10.cell? ⟨gb430, 2, none⟩ = some (.slice A0_2 l0_2.length c0_2) := (blk_cell BK430.out 2).trans rfl; have hfz11_0 := blk_frozen BK430.out 0; have hfz11_1 := blk_frozen BK430.out 1; have hfz11_2 := blk_frozen BK430.out 2; have p431 : 0 ≤ (a1 : Int) := ode; have q431 : a1 < (l0_0.length : Int) := ode; obtain ⟨ad431, e431, hx431_0⟩ := Kd.at_int HR0_0.out a1 p431 q431; cases e431; replace hx431_0 := (HB.out.cell (World.block_lt_of_cell? w _ hx431_0)).trans hx431_0; replace p431 := eq_true p431; replace q431 := eq_true q431; have p432 : 0 ≤ (a1 : Int) := ode; have q432 : a1 < (l0_1.length : Int) := ode; obtain ⟨ad432, e432, hx432_0⟩ := Kd.at_int HR0_1.out a1 p432 q432; cases e432; replace hx432_0 := (HB.out.cell (World.block_lt_of_cell? w _ hx432_0)).trans hx432_0; replace p432 := eq_true p432; replace q432 := eq_true q432)))
    go_ret
    exact ⟨eq_, bq⟩
  ·rw [if_neg c6] at H
   have c6b0 : (a1 == 0) = false := beq_eq_false_iff_ne.mpr c6
   have c6b1 : (a1 != 0) = true := bne_iff_ne.mpr c6
   replace H := Option.bind_eq_some_iff.mp H
   obtain ⟨t433, A120, H⟩ := H
   replace H : (if t433 = true then (if (rd l0_1 a1) = (-1) then (some true) else (if (rd l0_1 a1) ≥ 0 then (if 0 ≤ (rd l0_0 a1) then (if (rd l0_0 a1) < (l0_0.length : Int) then (if (rd l0_1 a1) = (rd l0_0 (rd l0_0 a1)) then (some true) else (if (rd l0_0 a1) < (l0_1.length : Int) then (some ((rd l0_1 a1) == (rd l0_1 (rd l0_0 a1)))) else (none))) else (none)) else (none)) else (some false))) else (none)) = some r := H
   have A12 := Aside0.mk A120
   clear A120
   by_cases c13 : t433 = true
   ·subst c13
    have H1 : (if (rd l0_1 a1) = (-1) then (some true) else (if (rd l0_1 a1) ≥ 0 then (if 0 ≤ (rd l0_0 a1) then (if (rd l0_0 a1) < (l0_0.length : Int) then (if (rd l0_1 a1) = (rd l0_0 (rd l0_0 a1)) then (some true) else (if (rd l0_0 a1) < (l0_1.length : Int) then (some ((rd l0_1 a1) == (rd l0_1 (rd l0_0 a1)))) else (none))) else (none)) else (none)) else (some false))) = some r := by rw [if_pos rfl] at H; exact H
    clear H
    have H := H1
    clear H1
    by_cases c14 : (rd l0_1 a1) = (-1)
    ·rw [if_pos c14] at H
     have c14b0 : ((rd l0_1 a1) == (-1)) = true := beq_iff_eq.mpr c14
     have c14b1 : ((rd l0_1 a1) != (-1)) = false := bne_eq_false_iff_eq.mpr c14
     clear c14
     obtain rfl := Option.some.inj H
     go_enter Tryd.func95, Tryd.ntmps95
     go_wp2_with (first | ((with_reducible refine gate_dst (N := 2) rfl ?_); refine box_event ?hg (N := 2) ?hd (cs := #[.slice A0_0 l0_0.length c0_0, .slice A0_1 l0_1.length c0_1, .slice A0_2 l0_2.length c0_2]) (t := 37) ?hr ?_; (case hd => rfl); (case hg => rfl); (case hr => first | (go_simp; done) | (go_simp; rfl)); intro gb430 hg w15 hbox hb; have BK430 := Aside0.mk (hbox); have GW430 := Aside0.mk ((by rw [hg]; exact (below_size bq) : w.heap.size ≤ gb430)); have GE430 := Aside0.mk ((by rw [hg]; exact (below_size bq) : w.heap.size ≤ gb430)); replace HB := Aside0.mk (below_step bq hb); clear hb hbox hg; have hcz16_0 := bc0 BK430; have hcz16_1 := bc1 BK430; have hcz16_2 : w15.cell? ⟨gb430, 2, none⟩ = some (.slice A0_2 l0_2.length c0_2) := (blk_cell BK430.out 2).trans rfl; have hfz16_0 := blk_frozen BK430.out 0; have hfz16_1 := blk_frozen BK430.out 1; have hfz16_2 := blk_frozen BK430.out 2; have p431 : 0 ≤ (a1 : Int) := ode; have q431 : a1 < (l0_0.length : Int) := ode; obtain ⟨ad431, e431, hx431_0⟩ := Kd.at_int HR0_0.out a1 p431 q431; cases e431; replace hx431_0 := (HB.out.cell (World.block_lt_of_cell? w _ hx431_0)).trans hx431_0; replace p431 := eq_true p431; replace q431 := eq_true q431; have p432 : 0 ≤ (a1 : Int) := ode; have q432 : a1 < (l0_1.length : Int) := ode; obtain ⟨ad432, e432, hx432_0⟩ := Kd.at_int HR0_1.out a1 p432 q432; cases e432; replace hx432_0 := (HB.out.cell (World.block_lt_of_cell? w _ hx432_0)).trans hx432_0; replace p432 := eq_true p432; replace q432 := eq_true q432) | (go_at_call 81; (with_reducible refine (impl_inRange.calls (rd l0_0 a1) 0 (wrap64 (a1 - 1)) true _ A12.out).mono ?_); rintro e w' ⟨rfl, ⟨nd, rfl⟩⟩; (try first | exact ⟨rfl, _, World.drewN_drewN _ _ _⟩ | exact ⟨rfl, _, Eq.trans (World.drewN_drewN _ _ _) (congrArg (World.drewN _) (Nat.add_assoc _ _ _))⟩)))
     repeat (go_quiet (first | ((with_reducible refine gate_dst (N := 2) rfl ?_); refine box_event ?hg (N := 2) ?hd (cs := #[.slice A0_0 l0_0.length c0_0, .slice A0_1 l0_1.length c0_1, .slice A0_2 l0_2.length c0_2]) (t := 37) ?hr ?_; (case hd => rfl); (case hg => rfl); (case hr => first | (go_simp; done) | (go_simp; rfl)); intro gb430 hg w15 hbox hb; have BK430 := Aside0.mk (hbox); have GW430 := Aside0.mk ((by rw [hg]; exact (below_size bq) : w.heap.size ≤ gb430)); have GE430 := Aside0.mk ((by rw [hg]; exact (below_size bq) : w.heap.size ≤ gb430)); replace HB := Aside0.mk (below_step bq hb); clear hb hbox hg; have hcz16_0 := bc0 BK430; have hcz16_1 := bc1 BK430; have hcz16_2 : w15.cell? ⟨gb430, 2, none⟩ = some (.slice A0_2 l0_2.length c0_2) := (blk_cell BK430.out 2).trans rfl; have hfz16_0 := blk_frozen BK430.out 0; have hfz16_1 := blk_frozen BK430.out 1; have hfz16_2 := blk_frozen BK430.out 2; have p431 : 0 ≤ (a1 : Int) := ode; have q431 : a1 < (l0_0.length : Int) := ode; obtain ⟨ad431, e431, hx431_0⟩ := Kd.at_int HR0_0.out a1 p431 q431; cases e431; replace hx431_0 := (HB.out.cell (World.block_lt_of_cell? w _ hx431_0)).trans hx431_0; replace p431 := eq_true p431; replace q431 := eq_true q431; have p432 : 0 ≤ (a1 : Int) := ode; have q432 : a1 < (l0_1.length : Int) := ode; obtain ⟨ad432, e432, hx432_0⟩ := Kd.at_int HR0_1.out a1 p432 q432; cases e432; replace hx432_0 := (HB.out.cell (World.block_lt_of_cell? w _ hx432_0)).trans hx432_0; replace p432 := eq_true p432; replace q432 := eq_true q432) | (go_at_call 81; (with_reducible refine (impl_inRange.calls (rd l0_0 a1) 0 (wrap64 (a1 - 1)) true _ A12.out).mono ?_); rintro e w' ⟨rfl, ⟨nd, rfl⟩⟩; (try first | exact ⟨rfl, _, World.drewN_drewN _ _ _⟩ | exact ⟨rfl, _, Eq.trans (World.drewN_drewN _ _ _) (congrArg (World.drewN _) (Nat.add_assoc _ _ _))⟩))); try go_wp2_with (first | ((with_reducible refine gate_dst (N := 2) rfl ?_); refine box_event ?hg (N := 2) ?hd (cs := #[.slice A0_0 l0_0.length c0_0, .slice A0_1 l0_1.length c0_1, .slice A0_2 l0_2.length c0_2]) (t := 37) ?hr ?_; (case hd => rfl); (case hg => rfl); (case hr => first | (go_simp; done) | (go_simp; rfl)); intro gb430 hg w15 hbox hb; have BK430 := Aside0.mk (hbox); have GW430 := Aside0.mk ((by rw [hg]; exact (below_size bq) : w.heap.size ≤ gb430)); have GE430 := Aside0.mk ((by rw [hg]; exact (below_size bq) : w.heap.size ≤ gb430)); replace HB := Aside0.mk (below_step bq hb); clear hb hbox hg; have hcz16_0 := bc0 BK430; have hcz16_1 := bc1 BK430; have hcz16_2 : w15.cell? ⟨gb430, 2, none⟩ = some (.slice A0_2 l0_2.length c0_2) := (blk_cell BK430.out 2).trans rfl; have hfz16_0 := blk_frozen BK430.out 0; have hfz16_1 := blk_frozen BK430.out 1; have hfz16_2 := blk_frozen BK430.out 2; have p431 : 0 ≤ (a1 : Int) := ode; have q431 : a1 < (l0_0.length : Int) := ode; obtain ⟨ad431, e431, hx431_0⟩ := Kd.at_int HR0_0.out a1 p431 q431; cases e431; replace hx431_0 := (HB.out.cell (World.block_lt_of_cell? w _ hx431_0)).trans hx431_0; replace p431 := eq_true p431; replace q431 := eq_true q431; have p432 : 0 ≤ (a1 : Int) := ode; have q432 : a1 < (l0_1.length : Int) := ode; obtain ⟨ad432, e432, hx432_0⟩ := Kd.at_int HR0_1.out a1 p432 q432; cases e432; replace hx432_0 := (HB.out.cell (World.block_lt_of_cell? w _ hx432_0)).trans hx432_0; replace p432 := eq_true p432; replace q432 := eq_true q432) | (go_at_call 81; (with_reducible refine (impl_inRange.calls (rd l0_0 a1) 0 (wrap64 (a1 - 1)) true _ A12.out).mono ?_); rintro e w' ⟨rfl, ⟨nd, rfl⟩⟩; (try first | exact ⟨rfl, _, World.drewN_drewN _ _ _⟩ | exact ⟨rfl, _, Eq.trans (World.drewN_drewN _ _ _) (congrArg (World.drewN _) (Nat.add_assoc _ _ _))⟩))))
     go_ret
     exact ⟨eq_, bq⟩
    ·rw [if_neg c14] at H
     have c14b0 : ((rd l0_1 a1) == (-1)) = false := beq_eq_false_iff_ne.mpr c14
     have c14b1 : ((rd l0_1 a1) != (-1)) = true := bne_iff_ne.mpr c14
     by_cases c17 : (rd l0_1 a1) ≥ 0
     ·rw [if_pos c17] at H
      have c17b0 : decide (0 ≤ (rd l0_1 a1)) = true := decide_eq_true c17
      clear c17
      revert H
      refine ifr fun c18 H => ?_
      have c18b0 : decide (0 ≤ (rd l0_0 a1)) = true := decide_eq_true c18
      clear c18
      revert H
      refine ifr fun c19 H => ?_
      have c19b0 : decide ((rd l0_0 a1) < (l0_0.length : Int)) = true := decide_eq_true c19
      clear c19
      by_cases c20 : (rd l0_1 a1) = (rd l0_0 (rd l0_0 a1))
      ·rw [if_pos c20] at H
       have c20b0 : ((rd l0_1 a1) == (rd l0_0 (rd l0_0 a1))) = true := beq_iff_eq.mpr c20
       have c20b1 : ((rd l0_1 a1) != (rd l0_0 (rd l0_0 a1))) = false := bne_eq_false_iff_eq.mpr c20
       clear c20
       obtain rfl := Option.some.inj H
       go_enter Tryd.func95, Tryd.ntmps95
       go_wp2_with (first | ((with_reducible refine gate_dst (N := 2) rfl ?_); refine box_event ?hg (N := 2) ?hd (cs := #[.slice A0_0 l0_0.length c0_0, .slice A0_1 l0_1.length c0_1, .slice A0_2 l0_2.length c0_2]) (t := 37) ?hr ?_; (case hd => rfl); (case hg => rfl); (case hr => first | (go_simp; done) | (go_simp; rfl)); intro gb430 hg w21 hbox hb; have BK430 := Aside0.mk (hbox); have GW430 := Aside0.mk ((by rw [hg]; exact (below_size bq) : w.heap.size ≤ gb430)); have GE430 := Aside0.mk ((by rw [hg]; exact (below_size bq) : w.heap.size ≤ gb430)); replace HB := Aside0.mk (below_step bq hb); clear hb hbox hg; have hcz22_0 := bc0 BK430; have hcz22_1 := bc1 BK430; have hcz22_2 : w21.cell? ⟨gb430, 2, none⟩ = some (.slice A0_2 l0_2.length c0_2) := (blk_cell BK430.out 2).trans rfl; have hfz22_0 := blk_frozen BK430.out 0; have hfz22_1 := blk_frozen BK430.out 1; have hfz22_2 := blk_frozen BK430.out 2; have p431 : 0 ≤ (a1 : Int) := ode; have q431 : a1 < (l0_0.length : Int) := ode; obtain ⟨ad431, e431, hx431_0⟩ := Kd.at_int HR0_0.out a1 p431 q431; cases e431; replace hx431_0 := (HB.out.cell (World.block_lt_of_cell? w _ hx431_0)).trans hx431_0; replace p431 := eq_true p431; replace q431 := eq_true q431; have p432 : 0 ≤ (a1 : Int) := ode; have q432 : a1 < (l0_1.length : Int) := ode; obtain ⟨ad432, e432, hx432_0⟩ := Kd.at_int HR0_1.out a1 p432 q432; cases e432; replace hx432_0 := (HB.out.cell (World.block_lt_of_cell? w _ hx432_0)).trans hx432_0; replace p432 := eq_true p432; replace q432 := eq_true q432) | (go_at_call 81; (with_reducible refine (impl_inRange.calls (rd l0_0 a1) 0 (wrap64 (a1 - 1)) true _ A12.out).mono ?_); rintro e w' ⟨rfl, ⟨nd, rfl⟩⟩; first | exact ⟨rfl, _, World.drewN_drewN _ _ _⟩ | exact ⟨rfl, _, Eq.trans (World.drewN_drewN _ _ _) (congrArg (World.drewN _) (Nat.add_assoc _ _ _))⟩ | (have p434 : 0 ≤ ((rd l0_0 a1) : Int) := ode; have q434 : (rd l0_0 a1) < (l0_0.length : Int) := ode; obtain ⟨ad434, e434, hx434_0⟩ := Kd.at_int HR0_0.out (rd l0_0 a1) p434 q434; obtain rfl : ad431 = ad434 := (by injection e434); replace hx434_0 := (HB.out.cell (World.block_lt_of_cell? w _ hx434_0)).trans hx434_0; replace p434 := eq_true p434; replace q434 := eq_true q434)))
       repeat (go_quiet (first | ((with_reducible refine gate_dst (N := 2) rfl ?_); refine box_event ?hg (N := 2) ?hd (cs := #[.slice A0_0 l0_0.length c0_0, .slice A0_1 l0_1.length c0_1, .slice A0_2 l0_2.length c0_2]) (t := 37) ?hr ?_; (case hd => rfl); (case hg => rfl); (case hr => first | (go_simp; done) | (go_simp; rfl)); intro gb430 hg w21 hbox hb; have BK430 := Aside0.mk (hbox); have GW430 := Aside0.mk ((by rw [hg]; exact (below_size bq) : w.heap.size ≤ gb430)); have GE430 := Aside0.mk ((by rw [hg]; exact (below_size bq) : w.heap.size ≤ gb430)); replace HB := Aside0.mk (below_step bq hb); clear hb hbox hg; have hcz22_0 := bc0 BK430; have hcz22_1 := bc1 BK430; have hcz22_2 : w21.cell? ⟨gb430, 2, none⟩ = some (.slice A0_2 l0_2.length c0_2) := (blk_cell BK430.out 2).trans rfl; have hfz22_0 := blk_frozen BK430.out 0; have hfz22_1 := blk_frozen BK430.out 1; have hfz22_2 := blk_frozen BK430.out 2; have p431 : 0 ≤ (a1 : Int) := ode; have q431 : a1 < (l0_0.length : Int) := ode; obtain ⟨ad431, e431, hx431_0⟩ := Kd.at_int HR0_0.out a1 p431 q431; cases e431; replace hx431_0 := (HB.out.cell (World.block_lt_of_cell? w _ hx431_0)).trans hx431_0; replace p431 := eq_true p431; replace q431 := eq_true q431; have p432 : 0 ≤ (a1 : Int) := ode; have q432 : a1 < (l0_1.length : Int) := ode; obtain ⟨ad432, e432, hx432_0⟩ := Kd.at_int HR0_1.out a1 p432 q432; cases e432; replace hx432_0 := (HB.out.cell (World.block_lt_of_cell? w _ hx432_0)).trans hx432_0; replace p432 := eq_true p432; replace q432 := eq_true q432) | (go_at_call 81; (with_reducible refine (impl_inRange.calls (rd l0_0 a1) 0 (wrap64 (a1 - 1)) true _ A12.out).mono ?_); rintro e w' ⟨rfl, ⟨nd, rfl⟩⟩; first | exact ⟨rfl, _, World.drewN_drewN _ _ _⟩ | exact ⟨rfl, _, Eq.trans (World.drewN_drewN _ _ _) (congrArg (World.drewN _) (Nat.add_assoc _ _ _))⟩ | (have p434 : 0 ≤ ((rd l0_0 a1) : Int) := ode; have q434 : (rd l0_0 a1) < (l0_0.length : Int) := ode; obtain ⟨ad434, e434, hx434_0⟩ := Kd.at_int HR0_0.out (rd l0_0 a1) p434 q434; obtain rfl : ad431 = ad434 := (by injection e434); replace hx434_0 := (HB.out.cell (World.block_lt_of_cell? w _ hx434_0)).trans hx434_0; replace p434 := eq_true p434; replace q434 := eq_true q434))); try go_wp2_with (first | ((with_reducible refine gate_dst (N := 2) rfl ?_); refine box_event ?hg (N := 2) ?hd (cs := #[.slice A0_0 l0_0.length c0_0, .slice A0_1 l0_1.length c0_1, .slice A0_2 l0_2.length c0_2]) (t := 37) ?hr ?_; (case hd => rfl); (case hg => rfl); (case hr => first | (go_simp; done) | (go_simp; rfl)); intro gb430 hg w21 hbox hb; have BK430 := Aside0.mk (hbox); have GW430 := Aside0.mk ((by rw [hg]; exact (below_size bq) : w.heap.size ≤ gb430)); have GE430 := Aside0.mk ((by rw [hg]; exact (below_size bq) : w.heap.size ≤ gb430)); replace HB := Aside0.mk (below_step bq hb); clear hb hbox hg; have hcz22_0 := bc0 BK430; have hcz22_1 := bc1 BK430; have hcz22_2 : w21.cell? ⟨gb430, 2, none⟩ = some (.slice A0_2 l0_2.length c0_2) := (blk_cell BK430.out 2).trans rfl; have hfz22_0 := blk_frozen BK430.out 0; have hfz22_1 := blk_frozen BK430.out 1; have hfz22_2 := blk_frozen BK430.out 2; have p431 : 0 ≤ (a1 : Int) := ode; have q431 : a1 < (l0_0.length : Int) := ode; obtain ⟨ad431, e431, hx431_0⟩ := Kd.at_int HR0_0.out a1 p431 q431; cases e431; replace hx431_0 := (HB.out.cell (World.block_lt_of_cell? w _ hx431_0)).trans hx431_0; replace p431 := eq_true p431; replace q431 := eq_true q431; have p432 : 0 ≤ (a1 : Int) := ode; have q432 : a1 < (l0_1.length : Int) := ode; obtain ⟨ad432, e432, hx432_0⟩ := Kd.at_int HR0_1.out a1 p432 q432; cases e432; replace hx432_0 := (HB.out.cell (World.block_lt_of_cell? w _ hx432_0)).trans hx432_0; replace p432 := eq_true p432; replace q432 := eq_true q432) | (go_at_call 81; (with_reducible refine (impl_inRange.calls (rd l0_0 a1) 0 (wrap64 (a1 - 1)) true _ A12.out).mono ?_); rintro e w' ⟨rfl, ⟨nd, rfl⟩⟩; first | exact ⟨rfl, _, World.drewN_drewN _ _ _⟩ | exact ⟨rfl, _, Eq.trans (World.drewN_drewN _ _ _) (congrArg (World.drewN _) (Nat.add_assoc _ _ _))⟩ | (have p434 : 0 ≤ ((rd l0_0 a1) : Int) := ode; have q434 : (rd l0_0 a1) < (l0_0.length : Int) := ode; obtain ⟨ad434, e434, hx434_0⟩ := Kd.at_int HR0_0.out (rd l0_0 a1) p434 q434; obtain rfl : ad431 = ad434 := (by injection e434); replace hx434_0 := (HB.out.cell (World.block_lt_of_cell? w _ hx434_0)).trans hx434_0; replace p434 := eq_true p434; replace q434 := eq_true q434))))
       go_ret
       exact ⟨eq_, bq⟩
      ·rw [if_neg c20] at H
       have c20b0 : ((rd l0_1 a1) == (rd l0_0 (rd l0_0 a1))) = false := beq_eq_false_iff_ne.mpr c20
       have c20b1 : ((rd l0_1 a1) != (rd l0_0 (rd l0_0 a1))) = true := bne_iff_ne.mpr c20
       revert H
       refine ifr fun c23 H => ?_
       have c23b0 : decide ((rd l0_0 a1) < (l0_1.length : Int)) = true := decide_eq_true c23
       clear c23
       obtain rfl := Option.some.inj H
       go_enter Tryd.func95, Tryd.ntmps95
       go_wp2_with (first | ((with_reducible refine gate_dst (N := 2) rfl ?_); refine box_event ?hg (N := 2) ?hd (cs := #[.slice A0_0 l0_0.length c0_0, .slice A0_1 l0_1.length c0_1, .slice A0_2 l0_2.length c0_2]) (t := 37) ?hr ?_; (case hd => rfl); (case hg => rfl); (case hr => first | (go_simp; done) | (go_simp; rfl)); intro gb430 hg w24 hbox hb; have BK430 := Aside0.mk (hbox); have GW430 := Aside0.mk ((by rw [hg]; exact (below_size bq) : w.heap.size ≤ gb430)); have GE430 := Aside0.mk ((by rw [hg]; exact (below_size bq) : w.heap.size ≤ gb430)); replace HB := Aside0.mk (below_step bq hb); clear hb hbox hg; have hcz25_0 := bc0 BK430; have hcz25_1 := bc1 BK430; have hcz25_2 : w24.cell? ⟨gb430, 2, none⟩ = some (.slice A0_2 l0_2.length c0_2) := (blk_cell BK430.out 2).trans rfl; have hfz25_0 := blk_frozen BK430.out 0; have hfz25_1 := blk_frozen BK430.out 1; have hfz25_2 := blk_frozen BK430.out 2; have p431 : 0 ≤ (a1 : Int) := ode; have q431 : a1 < (l0_0.length : Int) := ode; obtain ⟨ad431, e431, hx431_0⟩ := Kd.at_int HR0_0.out a1 p431 q431; cases e431; replace hx431_0 := (HB.out.cell (World.block_lt_of_cell? w _ hx431_0)).trans hx431_0; replace p431 := eq_true p431; replace q431 := eq_true q431; have p432 : 0 ≤ (a1 : Int) := ode; have q432 : a1 < (l0_1.length : Int) := ode; obtain ⟨ad432, e432, hx432_0⟩ := Kd.at_int HR0_1.out a1 p432 q432; cases e432; replace hx432_0 := (HB.out.cell (World.block_lt_of_cell? w _ hx432_0)).trans hx432_0; replace p432 := eq_true p432; replace q432 := eq_true q432) | (go_at_call 81; (with_reducible refine (impl_inRange.calls (rd l0_0 a1) 0 (wrap64 (a1 - 1)) true _ A12.out).mono ?_); rintro e w' ⟨rfl, ⟨nd, rfl⟩⟩; first | exact ⟨rfl, _, World.drewN_drewN _ _ _⟩ | exact ⟨rfl, _, Eq.trans (World.drewN_drewN _ _ _) (congrArg (World.drewN _) (Nat.add_assoc _ _ _))⟩ | (have p434 : 0 ≤ ((rd l0_0 a1) : Int) := ode; have q434 : (rd l0_0 a1) < (l0_0.length : Int) := ode; obtain ⟨ad434, e434, hx434_0⟩ := Kd.at_int HR0_0.out (rd l0_0 a1) p434 q434; obtain rfl : ad431 = ad434 := (by injection e434); replace hx434_0 := (HB.out.cell (World.block_lt_of_cell? w _ hx434_0)).trans hx434_0; replace p434 := eq_true p434; replace q434 := eq_true q434; have p435 : 0 ≤ ((rd l0_0 a1) : Int) := ode; have q435 : (rd l0_0 a1) < (l0_1.length : Int) := ode; obtain ⟨ad435, e435, hx435_0⟩ := Kd.at_int HR0_1.out (rd l0_0 a1) p435 q435; obtain rfl : ad432 = ad435 := (by injection e435); replace hx435_0 := (HB.out.cell (World.block_lt_of_cell? w _ hx435_0)).trans hx435_0; replace p435 := eq_true p435; replace q435 := eq_true q435)))
       repeat (go_quiet (first | ((with_reducible refine gate_dst (N := 2) rfl ?_); refine box_event ?hg (N := 2) ?hd (cs := #[.slice A0_0 l0_0.length c0_0, .slice A0_1 l0_1.length c0_1, .slice A0_2 l0_2.length c0_2]) (t := 37) ?hr ?_; (case hd => rfl); (case hg => rfl); (case hr => first | (go_simp; done) | (go_simp; rfl)); intro gb430 hg w24 hbox hb; have BK430 := Aside0.mk (hbox); have GW430 := Aside0.mk ((by rw [hg]; exact (below_size bq) : w.heap.size ≤ gb430)); have GE430 := Aside0.mk ((by rw [hg]; exact (below_size bq) : w.heap.size ≤ gb430)); replace HB := Aside0.mk (below_step bq hb); clear hb hbox hg; have hcz25_0 := bc0 BK430; have hcz25_1 := bc1 BK430; have hcz25_2 : w24.cell? ⟨gb430, 2, none⟩ = some (.slice A0_2 l0_2.length c0_2) := (blk_cell BK430.out 2).trans rfl; have hfz25_0 := blk_frozen BK430.out 0; have hfz25_1 := blk_frozen BK430.out 1; have hfz25_2 := blk_frozen BK430.out 2; have p431 : 0 ≤ (a1 : Int) := ode; have q431 : a1 < (l0_0.length : Int) := ode; obtain ⟨ad431, e431, hx431_0⟩ := Kd.at_int HR0_0.out a1 p431 q431; cases e431; replace hx431_0 := (HB.out.cell (World.block_lt_of_cell? w _ hx431_0)).trans hx431_0; replace p431 := eq_true p431; replace q431 := eq_true q431; have p432 : 0 ≤ (a1 : Int) := ode; have q432 : a1 < (l0_1.length : Int) := ode; obtain ⟨ad432, e432, hx432_0⟩ := Kd.at_int HR0_1.out a1 p432 q432; cases e432; replace hx432_0 := (HB.out.cell (World.block_lt_of_cell? w _ hx432_0)).trans hx432_0; replace p432 := eq_true p432; replace q432 := eq_true q432) | (go_at_call 81; (with_reducible refine (impl_inRange.calls (rd l0_0 a1) 0 (wrap64 (a1 - 1)) true _ A12.out).mono ?_); rintro e w' ⟨rfl, ⟨nd, rfl⟩⟩; first | exact ⟨rfl, _, World.drewN_drewN _ _ _⟩ | exact ⟨rfl, _, Eq.trans (World.drewN_drewN _ _ _) (congrArg (World.drewN _) (Nat.add_assoc _ _ _))⟩ | (have p434 : 0 ≤ ((rd l0_0 a1) : Int) := ode; have q434 : (rd l0_0 a1) < (l0_0.length : Int) := ode; obtain ⟨ad434, e434, hx434_0⟩ := Kd.at_int HR0_0.out (rd l0_0 a1) p434 q434; obtain rfl : ad431 = ad434 := (by injection e434); replace hx434_0 := (HB.out.cell (World.block_lt_of_cell? w _ hx434_0)).trans hx434_0; replace p434 := eq_true p434; replace q434 := eq_true q434; have p435 : 0 ≤ ((rd l0_0 a1) : Int) := ode; have q435 : (rd l0_0 a1) < (l0_1.length : Int) := ode; obtain ⟨ad435, e435, hx435_0⟩ := Kd.at_int HR0_1.out (rd l0_0 a1) p435 q435; obtain rfl : ad432 = ad435 := (by injection e435); replace hx435_0 := (HB.out.cell (World.block_lt_of_cell? w _ hx435_0)).trans hx435_0; replace p435 := eq_true p435; replace q435 := eq_true q435))); try go_wp2_with (first | ((with_reducible refine gate_dst (N := 2) rfl ?_); refine box_event ?hg (N := 2) ?hd (cs := #[.slice A0_0 l0_0.length c0_0, .slice A0_1 l0_1.length c0_1, .slice A0_2 l0_2.length c0_2]) (t := 37) ?hr ?_; (case hd => rfl); (case hg => rfl); (case hr => first | (go_simp; done) | (go_simp; rfl)); intro gb430 hg w24 hbox hb; have BK430 := Aside0.mk (hbox); have GW430 := Aside0.mk ((by rw [hg]; exact (below_size bq) : w.heap.size ≤ gb430)); have GE430 := Aside0.mk ((by rw [hg]; exact (below_size bq) : w.heap.size ≤ gb430)); replace HB := Aside0.mk (below_step bq hb); clear hb hbox hg; have hcz25_0 := bc0 BK430; have hcz25_1 := bc1 BK430; have hcz25_2 : w24.cell? ⟨gb430, 2, none⟩ = some (.slice A0_2 l0_2.length c0_2) := (blk_cell BK430.out 2).trans rfl; have hfz25_0 := blk_frozen BK430.out 0; have hfz25_1 := blk_frozen BK430.out 1; have hfz25_2 := blk_frozen BK430.out 2; have p431 : 0 ≤ (a1 : Int) := ode; have q431 : a1 < (l0_0.length : Int) := ode; obtain ⟨ad431, e431, hx431_0⟩ := Kd.at_int HR0_0.out a1 p431 q431; cases e431; replace hx431_0 := (HB.out.cell (World.block_lt_of_cell? w _ hx431_0)).trans hx431_0; replace p431 := eq_true p431; replace q431 := eq_true q431; have p432 : 0 ≤ (a1 : Int) := ode; have q432 : a1 < (l0_1.length : Int) := ode; obtain ⟨ad432, e432, hx432_0⟩ := Kd.at_int HR0_1.out a1 p432 q432; cases e432; replace hx432_0 := (HB.out.cell (World.block_lt_of_cell? w _ hx432_0)).trans hx432_0; replace p432 := eq_true p432; replace q432 := eq_true q432) | (go_at_call 81; (with_reducible refine (impl_inRange.calls (rd l0_0 a1) 0 (wrap64 (a1 - 1)) true _ A12.out).mono ?_); rintro e w' ⟨rfl, ⟨nd, rfl⟩⟩; first | exact ⟨rfl, _, World.drewN_drewN _ _ _⟩ | exact ⟨rfl, _, Eq.trans (World.drewN_drewN _ _ _) (congrArg (World.drewN _) (Nat.add_assoc _ _ _))⟩ | (have p434 : 0 ≤ ((rd l0_0 a1) : Int) := ode; have q434 : (rd l0_0 a1) < (l0_0.length : Int) := ode; obtain ⟨ad434, e434, hx434_0⟩ := Kd.at_int HR0_0.out (rd l0_0 a1) p434 q434; obtain rfl : ad431 = ad434 := (by injection e434); replace hx434_0 := (HB.out.cell (World.block_lt_of_cell? w _ hx434_0)).trans hx434_0; replace p434 := eq_true p434; replace q434 := eq_true q434; have p435 : 0 ≤ ((rd l0_0 a1) : Int) := ode; have q435 : (rd l0_0 a1) < (l0_1.length : Int) := ode; obtain ⟨ad435, e435, hx435_0⟩ := Kd.at_int HR0_1.out (rd l0_0 a1) p435 q435; obtain rfl : ad432 = ad435 := (by injection e435); replace hx435_0 := (HB.out.cell (World.block_lt_of_cell? w _ hx435_0)).trans hx435_0; replace p435 := eq_true p435; replace q435 := eq_true q435))))
       go_ret
       exact ⟨eq_, bq⟩
     ·rw [if_neg c17] at H
      have c17b0 : decide (0 ≤ (rd l0_1 a1)) = false := decide_eq_false c17
      clear c17
      obtain rfl := Option.some.inj H
      go_enter Tryd.func95, Tryd.ntmps95
      go_wp2_with (first | ((with_reducible refine gate_dst (N := 2) rfl ?_); refine box_event ?hg (N := 2) ?hd (cs := #[.slice A0_0 l0_0.length c0_0, .slice A0_1 l0_1.length c0_1, .slice A0_2 l0_2.length c0_2]) (t := 37) ?hr ?_; (case hd => rfl); (case hg => rfl); (case hr => first | (go_simp; done) | (go_simp; rfl)); intro gb430 hg w26 hbox hb; have BK430 := Aside0.mk (hbox); have GW430 := Aside0.mk ((by rw [hg]; exact (below_size bq) : w.heap.size ≤ gb430)); have GE430 := Aside0.mk ((by rw [hg]; exact (below_size bq) : w.heap.size ≤ gb430)); replace HB := Aside0.mk (below_step bq hb); clear hb hbox hg; have hcz27_0 := bc0 BK430; have hcz27_1 := bc1 BK430; have hcz27_2 : w26.cell? ⟨gb430, 2, none⟩ = some (.slice A0_2 l0_2.length c0_2) := (blk_cell BK430.out 2).trans rfl; have hfz27_0 := blk_frozen BK430.out 0; have hfz27_1 := blk_frozen BK430.out 1; have hfz27_2 := blk_frozen BK430.out 2; have p431 : 0 ≤ (a1 : Int) := ode; have q431 : a1 < (l0_0.length : Int) := ode; obtain ⟨ad431, e431, hx431_0⟩ := Kd.at_int HR0_0.out a1 p431 q431; cases e431; replace hx431_0 := (HB.out.cell (World.block_lt_of_cell? w _ hx431_0)).trans hx431_0; replace p431 := eq_true p431; replace q431 := eq_true q431; have p432 : 0 ≤ (a1 : Int) := ode; have q432 : a1 < (l0_1.length : Int) := ode; obtain ⟨ad432, e432, hx432_0⟩ := Kd.at_int HR0_1.out a1 p432 q432; cases e432; replace hx432_0 := (HB.out.cell (World.block_lt_of_cell? w _ hx432_0)).trans hx432_0; replace p432 := eq_true p432; replace q432 := eq_true q432) | (go_at_call 81; (with_reducible refine (impl_inRange.calls (rd l0_0 a1) 0 (wrap64 (a1 - 1)) true _ A12.out).mono ?_); rintro e w' ⟨rfl, ⟨nd, rfl⟩⟩; (try first | exact ⟨rfl, _, World.drewN_drewN _ _ _⟩ | exact ⟨rfl, _, Eq.trans (World.drewN_drewN _ _ _) (congrArg (World.drewN _) (Nat.add_assoc _ _ _))⟩)))
      repeat (go_quiet (first | ((with_reducible refine gate_dst (N := 2) rfl ?_); refine box_event ?hg (N := 2) ?hd (cs := #[.slice A0_0 l0_0.length c0_0, .slice A0_1 l0_1.length c0_1, .slice A0_2 l0_2.length c0_2]) (t := 37) ?hr ?_; (case hd => rfl); (case hg => rfl); (case hr => first | (go_simp; done) | (go_simp; rfl)); intro gb430 hg w26 hbox hb; have BK430 := Aside0.mk (hbox); have GW430 := Aside0.mk ((by rw [hg]; exact (below_size bq) : w.heap.size ≤ gb430)); have GE430 := Aside0.mk ((by rw [hg]; exact (below_size bq) : w.heap.size ≤ gb430)); replace HB := Aside0.mk (below_step bq hb); clear hb hbox hg; have hcz27_0 := bc0 BK430; have hcz27_1 := bc1 BK430; have hcz27_2 : w26.cell? ⟨gb430, 2, none⟩ = some (.slice A0_2 l0_2.length c0_2) := (blk_cell BK430.out 2).trans rfl; have hfz27_0 := blk_frozen BK430.out 0; have hfz27_1 := blk_frozen BK430.out 1; have hfz27_2 := blk_frozen BK430.out 2; have p431 : 0 ≤ (a1 : Int) := ode; have q431 : a1 < (l0_0.length : Int) := ode; obtain ⟨ad431, e431, hx431_0⟩ := Kd.at_int HR0_0.out a1 p431 q431; cases e431; replace hx431_0 := (HB.out.cell (World.block_lt_of_cell? w _ hx431_0)).trans hx431_0; replace p431 := eq_true p431; replace q431 := eq_true q431; have p432 : 0 ≤ (a1 : Int) := ode; have q432 : a1 < (l0_1.length : Int) := ode; obtain ⟨ad432, e432, hx432_0⟩ := Kd.at_int HR0_1.out a1 p432 q432; cases e432; replace hx432_0 := (HB.out.cell (World.block_lt_of_cell? w _ hx432_0)).trans hx432_0; replace p432 := eq_true p432; replace q432 := eq_true q432) | (go_at_call 81; (with_reducible refine (impl_inRange.calls (rd l0_0 a1) 0 (wrap64 (a1 - 1)) true _ A12.out).mono ?_); rintro e w' ⟨rfl, ⟨nd, rfl⟩⟩; (try first | exact ⟨rfl, _, World.drewN_drewN _ _ _⟩ | exact ⟨rfl, _, Eq.trans (World.drewN_drewN _ _ _) (congrArg (World.drewN _) (Nat.add_assoc _ _ _))⟩))); try go_wp2_with (first | ((with_reducible refine gate_dst (N := 2) rfl ?_); refine box_event ?hg (N := 2) ?hd (cs := #[.slice A0_0 l0_0.length c0_0, .slice A0_1 l0_1.length c0_1, .slice A0_2 l0_2.length c0_2]) (t := 37) ?hr ?_; (case hd => rfl); (case hg => rfl); (case hr => first | (go_simp; done) | (go_simp; rfl)); intro gb430 hg w26 hbox hb; have BK430 := Aside0.mk (hbox); have GW430 := Aside0.mk ((by rw [hg]; exact (below_size bq) : w.heap.size ≤ gb430)); have GE430 := Aside0.mk ((by rw [hg]; exact (below_size bq) : w.heap.size ≤ gb430)); replace HB := Aside0.mk (below_step bq hb); clear hb hbox hg; have hcz27_0 := bc0 BK430; have hcz27_1 := bc1 BK430; have hcz27_2 : w26.cell? ⟨gb430, 2, none⟩ = some (.slice A0_2 l0_2.length c0_2) := (blk_cell BK430.out 2).trans rfl; have hfz27_0 := blk_frozen BK430.out 0; have hfz27_1 := blk_frozen BK430.out 1; have hfz27_2 := blk_frozen BK430.out 2; have p431 : 0 ≤ (a1 : Int) := ode; have q431 : a1 < (l0_0.length : Int) := ode; obtain ⟨ad431, e431, hx431_0⟩ := Kd.at_int HR0_0.out a1 p431 q431; cases e431; replace hx431_0 := (HB.out.cell (World.block_lt_of_cell? w _ hx431_0)).trans hx431_0; replace p431 := eq_true p431; replace q431 := eq_true q431; have p432 : 0 ≤ (a1 : Int) := ode; have q432 : a1 < (l0_1.length : Int) := ode; obtain ⟨ad432, e432, hx432_0⟩ := Kd.at_int HR0_1.out a1 p432 q432; cases e432; replace hx432_0 := (HB.out.cell (World.block_lt_of_cell? w _ hx432_0)).trans hx432_0; replace p432 := eq_true p432; replace q432 := eq_true q432) | (go_at_call 81; (with_reducible refine (impl_inRange.calls (rd l0_0 a1) 0 (wrap64 (a1 - 1)) true _ A12.out).mono ?_); rintro e w' ⟨rfl, ⟨nd, rfl⟩⟩; (try first | exact ⟨rfl, _, World.drewN_drewN _ _ _⟩ | exact ⟨rfl, _, Eq.trans (World.drewN_drewN _ _ _) (congrArg (World.drewN _) (Nat.add_assoc _ _ _))⟩))))
      go_ret
      exact ⟨eq_, bq⟩
   ·replace c13 := Bool.eq_false_iff.mpr c13
    subst c13
    have H1 : (none) = some r := by rw [if_neg (show ¬ (false = true) by decide)] at H; exact H
    clear H
    have H := H1
    clear H1
    exact absurd H (by simp)
 ·rw [if_neg c3] at H
  exact absurd H (by simp)
end Go.Proofs.YtkfdfpcdcabcoaaDoor.QDesx
