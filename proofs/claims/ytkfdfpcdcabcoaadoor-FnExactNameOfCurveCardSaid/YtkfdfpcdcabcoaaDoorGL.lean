/- Walks: the printed functions, and that each call comes to them (12). -/
import Derived.Test.YtkfdfpcdcabcoaaDoorV
import Derived.Test.YtkfdfpcdcabcoaaDoorGA
import Derived.Test.YtkfdfpcdcabcoaaDoorGJ
namespace Go.Proofs.YtkfdfpcdcabcoaaDoor.QName
open Go.RowKit Go.Proofs.YtkfdfpcdcabcoaaDoorW.PrintWords Go.Proofs.YtkfdfpcdcabcoaaDoorW.PrintLast Go.Proofs.YtkfdfpcdcabcoaaDoorW.PrintMore
attribute [local go_sem] max2_int min2_int max_two min_two max_three min_three max_four min_four
set_option linter.unusedVariables false
set_option linter.unusedSimpArgs false

/-! ### impl_deltaOf: function 88 -/
def impl_deltaOf.l0 : Nat → Int → List Int → Int → Int → Option (Int)
 | 0, _, _, _, _ => none
 | k + 1, x3, x6, x7, x8 => if x8 < x7 then (if 0 ≤ x8 then (if x8 < (x6.length : Int) then (impl_deltaOf.l0 k (wrap64 (x3 + (wrap64 (Int.tdiv (wrap64 ((rd x6 x8) * (wrap64 ((rd x6 x8) - 1)))) 2)))) x6 x7 (wrap64 (x8 + 1))) else (none)) else (none)) else (some x3)
def impl_deltaOf.f (k : Nat) (l0 : List Int) : Option (Int) := impl_deltaOf.l0 k 0 l0 (l0.length : Int) 0
set_option maxHeartbeats 8000000 in
set_option maxRecDepth 100000 in
theorem impl_deltaOf.calls (k : Nat) (A0 : Option Addr) (c0 : Nat) (l0 : List Int) (r : Int) (w : World) (hr0 : Kd.C (Kd.int .i64) w A0 l0.length l0) (hc0 : l0.length ≤ c0) (h : impl_deltaOf.f k l0 = some r) :
  Calls Tryd.prog 88 #[.slice A0 l0.length c0] w fun e w' => e = .returned (.int .i64 r) ∧ Drawn0 w w' := by
 have HR0 := Aside0.mk hr0
 have HC0 := Aside0.mk hc0
 clear hr0 hc0
 have H : (impl_deltaOf.l0 k 0 l0 (l0.length : Int) 0) = some r := h
 clear h
 have H' := Aside0.mk H
 clear H
 go_enter Tryd.func88, Tryd.ntmps88
 go_wp2
 go_loopg [3, 8] k (fun kq v3 v8 w' => ∃ (x3_1 : Int) (x8_1 : Int), v3 = .int .i64 x3_1 ∧ v8 = .int .i64 x8_1 ∧ Aside0 (impl_deltaOf.l0 kq x3_1 l0 (l0.length : Int) x8_1 = some r) ∧ Aside0 (kq ≤ k) ∧ Drawn0 w w')
 case atStart => exact ⟨(0), (0), (by first | rfl | (simp; done) | (simp [*]; done)), (by first | rfl | (simp; done) | (simp [*]; done)), H', ⟨Nat.le_refl _⟩, by repeat (first | exact Drawn0.refl _ | apply Drawn0.step)⟩
 case round =>
  clear H'
  obtain ⟨x3_1, x8_1, rfl, rfl, HA, HK1, ⟨m1, rfl⟩⟩ := hrel
  cases gk with
  | zero => exact absurd HA.out (by simp [impl_deltaOf.l0])
  | succ k1 =>
   have H := HA.out
   clear HA
   simp only [impl_deltaOf.l0] at H
   by_cases c2 : x8_1 < (l0.length : Int)
   ·rw [if_pos c2] at H
    have c2b0 : decide (x8_1 < (l0.length : Int)) = true := decide_eq_true c2
    clear c2
    revert H
    refine ifr fun c3 H => ?_
    have c3b0 : decide (0 ≤ x8_1) = true := decide_eq_true c3
    clear c3
    revert H
    refine ifr fun c4 H => ?_
    have c4b0 : decide (x8_1 < (l0.length : Int)) = true := decide_eq_true c4
    clear c4
    have H' := Aside0.mk H
    clear H
    have p476 : 0 ≤ (x8_1 : Int) := ode
    have q476 : x8_1 < (l0.length : Int) := ode
    obtain ⟨ad476, e476, hx476_0⟩ := Kd.at_int HR0.out x8_1 p476 q476
    cases e476
    replace p476 := eq_true p476
    replace q476 := eq_true q476
    go_wp2
    go_roundg k1
    case measure => have := HK1.out; omega
    case rel => exact ⟨(wrap64 (x3_1 + (wrap64 (Int.tdiv (wrap64 ((rd l0 x8_1) * (wrap64 ((rd l0 x8_1) - 1)))) 2)))), (wrap64 (x8_1 + 1)), (by first | rfl | (simp; done) | (simp [*]; done)), (by first | rfl | (simp; done) | (simp [*]; done)), H', ⟨by have := HK1.out; omega⟩, by repeat (first | exact Drawn0.refl _ | apply Drawn0.step)⟩
   ·rw [if_neg c2] at H
    have c2b0 : decide (x8_1 < (l0.length : Int)) = false := decide_eq_false c2
    clear c2
    obtain rfl := Option.some.inj H
    go_wp2
    go_ret
    exact ⟨by first | rfl | (simp; done) | (simp [*]; done), by repeat (first | exact Drawn0.refl _ | apply Drawn0.step)⟩

/-! ### impl_scalar: function 119 -/
def impl_scalar.l0 : Nat → List Int → Int → List Int → Int → Int → Option (Int)
 | 0, _, _, _, _, _ => none
 | k + 1, x1, x5, x8, x9, x10 => if x10 < x9 then (if 0 ≤ x10 then (if x10 < (x8.length : Int) then (if x10 < (x1.length : Int) then (impl_scalar.l0 k x1 (wrap64 (x5 + (wrap64 ((rd x8 x10) * (rd x1 x10))))) x8 x9 (wrap64 (x10 + 1))) else (none)) else (none)) else (none)) else (some x5)
def impl_scalar.f (k : Nat) (l0 : List Int) (l1 : List Int) : Option (Int) := impl_scalar.l0 k l1 0 l0 (l0.length : Int) 0
set_option maxHeartbeats 8000000 in
set_option maxRecDepth 100000 in
theorem impl_scalar.calls (k : Nat) (A0 : Option Addr) (c0 : Nat) (l0 : List Int) (A1 : Option Addr) (c1 : Nat) (l1 : List Int) (r : Int) (w : World) (hr0 : Kd.C (Kd.int .i64) w A0 l0.length l0) (hc0 : l0.length ≤ c0) (hr1 : Kd.C (Kd.int .i64) w A1 l1.length l1) (hc1 : l1.length ≤ c1) (h : impl_scalar.f k l0 l1 = some r) :
  Calls Tryd.prog 119 #[.slice A0 l0.length c0, .slice A1 l1.length c1] w fun e w' => e = .returned (.int .i64 r) ∧ Drawn0 w w' := by
 have HR0 := Aside0.mk hr0
 have HC0 := Aside0.mk hc0
 clear hr0 hc0
 have HR1 := Aside0.mk hr1
 have HC1 := Aside0.mk hc1
 clear hr1 hc1
 have H : (impl_scalar.l0 k l1 0 l0 (l0.length : Int) 0) = some r := h
 clear h
 have H' := Aside0.mk H
 clear H
 go_enter Tryd.func119, Tryd.ntmps119
 go_wp2
 go_loopg [5, 10] k (fun kq v5 v10 w' => ∃ (x5_1 : Int) (x10_1 : Int), v5 = .int .i64 x5_1 ∧ v10 = .int .i64 x10_1 ∧ Aside0 (impl_scalar.l0 kq l1 x5_1 l0 (l0.length : Int) x10_1 = some r) ∧ Aside0 (kq ≤ k) ∧ Drawn0 w w')
 case atStart => exact ⟨(0), (0), (by first | rfl | (simp; done) | (simp [*]; done)), (by first | rfl | (simp; done) | (simp [*]; done)), H', ⟨Nat.le_refl _⟩, by repeat (first | exact Drawn0.refl _ | apply Drawn0.step)⟩
 case round =>
  clear H'
  try clear c1
  try clear p2
  obtain ⟨x5_1, x10_1, rfl, rfl, HA, HK1, ⟨m1, rfl⟩⟩ := hrel
  cases gk with
  | zero => exact absurd HA.out (by simp [impl_scalar.l0])
  | succ k1 =>
   have H := HA.out
   clear HA
   simp only [impl_scalar.l0] at H
   by_cases c3 : x10_1 < (l0.length : Int)
   ·rw [if_pos c3] at H
    have c3b0 : decide (x10_1 < (l0.length : Int)) = true := decide_eq_true c3
    clear c3
    revert H
    refine ifr fun c4 H => ?_
    have c4b0 : decide (0 ≤ x10_1) = true := decide_eq_true c4
    clear c4
    revert H
    refine ifr fun c5 H => ?_
    have c5b0 : decide (x10_1 < (l0.length : Int)) = true := decide_eq_true c5
    clear c5
    revert H
    refine ifr fun c6 H => ?_
    have c6b0 : decide (x10_1 < (l1.length : Int)) = true := decide_eq_true c6
    clear c6
    have H' := Aside0.mk H
    clear H
    have p477 : 0 ≤ (x10_1 : Int) := ode
    have q477 : x10_1 < (l0.length : Int) := ode
    obtain ⟨ad477, e477, hx477_0⟩ := Kd.at_int HR0.out x10_1 p477 q477
    cases e477
    replace p477 := eq_true p477
    replace q477 := eq_true q477
    have p478 : 0 ≤ (x10_1 : Int) := ode
    have q478 : x10_1 < (l1.length : Int) := ode
    obtain ⟨ad478, e478, hx478_0⟩ := Kd.at_int HR1.out x10_1 p478 q478
    cases e478
    replace p478 := eq_true p478
    replace q478 := eq_true q478
    go_wp2
    go_roundg k1
    case measure => have := HK1.out; omega
    case rel => exact ⟨(wrap64 (x5_1 + (wrap64 ((rd l0 x10_1) * (rd l1 x10_1))))), (wrap64 (x10_1 + 1)), (by first | rfl | (simp; done) | (simp [*]; done)), (by first | rfl | (simp; done) | (simp [*]; done)), H', ⟨by have := HK1.out; omega⟩, by repeat (first | exact Drawn0.refl _ | apply Drawn0.step)⟩
   ·rw [if_neg c3] at H
    have c3b0 : decide (x10_1 < (l0.length : Int)) = false := decide_eq_false c3
    clear c3
    obtain rfl := Option.some.inj H
    go_wp2
    go_ret
    exact ⟨by first | rfl | (simp; done) | (simp [*]; done), by repeat (first | exact Drawn0.refl _ | apply Drawn0.step)⟩

/-! ### impl_intersection: function 106 -/
def impl_intersection.f (k : Nat) (l0_0 : List Int) (l1_0 : List Int) (a2 : Int) : Option (Int) := (impl_firstOf.f k l0_0 a2).bind fun t481 => ((impl_firstOf.f k l1_0 a2).bind fun t484 => ((impl_scalar.f k t481 t484).bind fun t487 => (some t487)))
def impl_intersection.T1 : Bool × List (List Nat × List Nat) := (true, [([], []), ([], []), ([0, 1], [0, 1]), ([], []), ([], []), ([3, 4, 2], [3, 4]), ([2, 5, 5], [2, 5]), ([6, 6, 0, 1, 2, 3, 4, 5, 6], [6])])
def impl_intersection.B1 : List Nat := [0, 0, 3, 0, 0, 31, 63, 127]
theorem impl_intersection.tab1 : rtab .any (opsOf Tryd.f106 1) = impl_intersection.T1 := by kernel_rfl
theorem impl_intersection.bits1 : waitsOk impl_intersection.T1.2 impl_intersection.B1 = true := by kernel_rfl
set_option maxHeartbeats 8000000 in
set_option maxRecDepth 100000 in
theorem impl_intersection.calls (k : Nat) (A0_0 : Option Addr) (c0_0 : Nat) (l0_0 : List Int) (A1_0 : Option Addr) (c1_0 : Nat) (l1_0 : List Int) (a2 : Int) (r : Int) (w : World) (hr0_0 : Kd.C (Kd.int .i64) w A0_0 l0_0.length l0_0) (hc0_0 : l0_0.length ≤ c0_0) (hr1_0 : Kd.C (Kd.int .i64) w A1_0 l1_0.length l1_0) (hc1_0 : l1_0.length ≤ c1_0) (h : impl_intersection.f k l0_0 l1_0 a2 = some r) :
  Calls Tryd.prog 106 #[.agg #[.slice A0_0 l0_0.length c0_0], .agg #[.slice A1_0 l1_0.length c1_0], .int .i64 a2] w fun e w' => e = .returned (.int .i64 r) ∧ Below w.heap.size w w' := by
 have hu74 := Tryd.underlying74
 have HR0_0 := Aside0.mk hr0_0
 have HC0_0 := Aside0.mk hc0_0
 clear hr0_0 hc0_0
 have HR1_0 := Aside0.mk hr1_0
 have HC1_0 := Aside0.mk hc1_0
 clear hr1_0 hc1_0
 have HB := Aside0.mk (Below.refl w.heap.size w)
 have H : ((impl_firstOf.f k l0_0 a2).bind fun t481 => ((impl_firstOf.f k l1_0 a2).bind fun t484 => ((impl_scalar.f k t481 t484).bind fun t487 => (some t487)))) = some r := h
 clear h
 replace H := Option.bind_eq_some_iff.mp H
 obtain ⟨t481, A40, H⟩ := H
 replace H : ((impl_firstOf.f k l1_0 a2).bind fun t484 => ((impl_scalar.f k t481 t484).bind fun t487 => (some t487))) = some r := H
 have A4 := Aside0.mk A40
 clear A40
 replace H := Option.bind_eq_some_iff.mp H
 obtain ⟨t484, A50, H⟩ := H
 replace H : ((impl_scalar.f k t481 t484).bind fun t487 => (some t487)) = some r := H
 have A5 := Aside0.mk A50
 clear A50
 replace H := Option.bind_eq_some_iff.mp H
 obtain ⟨t487, A60, H⟩ := H
 replace H : (some t487) = some r := H
 have A6 := Aside0.mk A60
 clear A60
 obtain rfl := Option.some.inj H
 go_enter Tryd.func106, Tryd.ntmps106
 try go_wp2_with (first | ((with_reducible refine gate_dst (N := 3) rfl ?_); refine box_event ?hg (N := 3) ?hd (cs := #[.slice A0_0 l0_0.length c0_0]) (t := 74) ?hr ?_; (case hd => rfl); (case hg => rfl); (case hr => first | (go_simp; done) | (go_simp; rfl)); intro gb479 hg w7 hbox hb; have BK479 := Aside0.mk (hbox); have GW479 := Aside0.mk ((by rw [hg]; exact (below_size bq) : w.heap.size ≤ gb479)); have GE479 := Aside0.mk ((by rw [hg]; exact (below_size bq) : w.heap.size ≤ gb479)); replace HB := Aside0.mk (below_step bq hb); clear hb hbox hg) | ((with_reducible refine gate_dst (N := 4) rfl ?_); refine box_event ?hg (N := 4) ?hd (cs := #[.slice A1_0 l1_0.length c1_0]) (t := 74) ?hr ?_; (case hd => rfl); (case hg => rfl); (case hr => first | (go_simp; done) | (go_simp; rfl)); intro gb480 hg w8 hbox hb; have BK480 := Aside0.mk (hbox); have GW480 := Aside0.mk ((by rw [hg]; exact (below_size bq) : w.heap.size ≤ gb480)); have GE480 := Aside0.mk ((by rw [hg]; exact (below_size bq) : w.heap.size ≤ gb480)); replace HB := Aside0.mk (below_step bq hb); have NB479_480 := Aside0.mk ((by rw [hg]; exact Nat.ne_of_lt (blk_lt (g := gb479) (o := .cells #[.slice A0_0 l0_0.length c0_0] 74 (0, 0)) (bk BK479)) : gb479 ≠ gb480)); have NB480_479 := Aside0.mk ((by rw [hg]; exact Nat.ne_of_gt (blk_lt (g := gb479) (o := .cells #[.slice A0_0 l0_0.length c0_0] 74 (0, 0)) (bk BK479)) : gb480 ≠ gb479)); replace BK479 := Aside0.mk (blk_below (g := gb479) (o := .cells #[.slice A0_0 l0_0.length c0_0] 74 (0, 0)) (bk BK479) hb); clear hb hbox hg))
 have n0_ := Aside0.mk (blk_drew BK479.out)
 have n1_ := Aside0.mk (blk_drew BK480.out)
 have n2_ := Aside0.mk (below_drew1 HB.out)
 clear BK479
 clear BK480
 clear HB
 have BK479 := n0_
 have BK480 := n1_
 have HB := n2_
 clear n0_ n1_ n2_
 refine start_ (n := 8) (S := fun w' => w'.cell? ⟨gb479, 0, none⟩ = some (.slice A0_0 l0_0.length c0_0) ∧ w'.cell? ⟨gb480, 0, none⟩ = some (.slice A1_0 l1_0.length c1_0)) (ds := []) (bA 8 0) (by kernel_rfl) rfl (by kernel_rfl) ⟨(blk_cell BK479.out 0).trans rfl, (blk_cell BK480.out 0).trans rfl⟩ (fun hHeld => ?_); refine with_tabW impl_intersection.tab1 impl_intersection.bits1 (fun HT_ HW_ => ?_)
 generalize w8.drew = w9 at BK479 BK480 HB hHeld ⊢
 refine pu HT_ 1 8 2 ?_
 refine pu HT_ 4 11 18 ?_
 refine tk2 HT_ HW_ hHeld 0 7 19 ?_
 refine tk2 HT_ HW_ hHeld 3 10 27 ?_
 refine one_ (i := 2) (N := some 9) (bA 8 31) rfl rfl (one_of HT_.out (by kernel_rfl)) (by decide) (fun K hK => ?_)
 refine goes_ Tryd.func86 (by kernel_rfl) rfl #[.agg #[.slice A0_0 l0_0.length c0_0], .int .i64 a2] (by rfl) rfl rfl (by (try simp only [List.map_toArray, List.map_cons, List.map_nil]); first | done | rfl | (simp only [List.length_drop, List.length_take]; rfl)) ?_
 with_reducible refine (impl_firstOf.calls k _ _ l0_0 a2 t481 _ ?side1 ?side2 A4.out).mono ?_
 (case side1 => exact kc HR0_0)
 (case side2 => exact HC0_0.out)
 rintro e w10 ⟨v482, rfl, ho0, hb⟩
 refine ⟨_, rfl, ?_⟩
 have n0_ := Aside0.mk (Kd.V_lower (Kd.V_mono (ok' := fun k_ => k_ ≠ gb479 ∧ k_ ≠ gb480) ho0 (fun k_ hk_ => ⟨(Kd.freshB (g := gb479) (o := .cells #[.slice A0_0 l0_0.length c0_0] 74 (0, 0)) (bk BK479) k_ hk_), (Kd.freshB (g := gb480) (o := .cells #[.slice A1_0 l1_0.length c1_0] 74 (0, 0)) (bk BK480) k_ hk_)⟩)) (below_size bq))
 have n1_ := Aside0.mk (blk_below (g := gb479) (o := .cells #[.slice A0_0 l0_0.length c0_0] 74 (0, 0)) (bk BK479) hb)
 have n2_ := Aside0.mk (blk_below (g := gb480) (o := .cells #[.slice A1_0 l1_0.length c1_0] 74 (0, 0)) (bk BK480) hb)
 have n3_ := Aside0.mk (below_step bq hb)
 clear BK479
 clear BK480
 clear HB
 have HO483 := n0_
 have BK479 := n1_
 have BK480 := n2_
 have HB := n3_
 clear n0_ n1_ n2_ n3_
 
 
 
 
 (try clear ho0)
 refine hK.out _ _ ⟨(blk_cell BK479.out 0).trans rfl, (blk_cell BK480.out 0).trans rfl⟩ (fun hHeld => ?_)
 clear hK K
 refine norm_ (a' := ?_) ?_ ?_
 rotate_left
 ·show Act.put _ (some 9) _ = _
  simp only [Act.put, List.setIfInBounds_toArray, List.set_cons_zero, List.set_cons_succ, i64_w, i32_w]
  rfl
 refine one_ (i := 5) (N := some 12) (bA 8 63) rfl rfl (one_of HT_.out (by kernel_rfl)) (by decide) (fun K hK => ?_)
 refine goes_ Tryd.func86 (by kernel_rfl) rfl #[.agg #[.slice A1_0 l1_0.length c1_0], .int .i64 a2] (by rfl) rfl rfl (by (try simp only [List.map_toArray, List.map_cons, List.map_nil]); first | done | rfl | (simp only [List.length_drop, List.length_take]; rfl)) ?_
 with_reducible refine (impl_firstOf.calls k _ _ l1_0 a2 t484 _ ?side1 ?side2 A5.out).mono ?_
 (case side1 => exact kc HR1_0)
 (case side2 => exact HC1_0.out)
 rintro e w11 ⟨v485, rfl, ho0, hb⟩
 refine ⟨_, rfl, ?_⟩
 have n0_ := Aside0.mk (Kd.V_below (by (with_reducible repeat (first | apply Kd.V_alloc | apply Kd.V_drewN | apply Kd.V_drew)); exact HO483.out) hb)
 have n1_ := Aside0.mk (Kd.V_lower (Kd.V_mono (ok' := fun k_ => k_ ≠ gb479 ∧ k_ ≠ gb480) ho0 (fun k_ hk_ => ⟨(Kd.freshB (g := gb479) (o := .cells #[.slice A0_0 l0_0.length c0_0] 74 (0, 0)) (bk BK479) k_ hk_), (Kd.freshB (g := gb480) (o := .cells #[.slice A1_0 l1_0.length c1_0] 74 (0, 0)) (bk BK480) k_ hk_)⟩)) (below_size bq))
 have n2_ := Aside0.mk (blk_below (g := gb479) (o := .cells #[.slice A0_0 l0_0.length c0_0] 74 (0, 0)) (bk BK479) hb)
 have n3_ := Aside0.mk (blk_below (g := gb480) (o := .cells #[.slice A1_0 l1_0.length c1_0] 74 (0, 0)) (bk BK480) hb)
 have n4_ := Aside0.mk (below_step bq hb)
 clear HO483
 clear BK479
 clear BK480
 clear HB
 have HO483 := n0_
 have HO486 := n1_
 have BK479 := n2_
 have BK480 := n3_
 have HB := n4_
 clear n0_ n1_ n2_ n3_ n4_
 
 
 
 
 (try clear ho0)
 obtain ⟨Ao12, co12, eo12⟩ := Kd.V_slice HO483.out
 (first | subst eo12 | (injection eo12 with f1_ f2_ f3_; have f4_ := f1_.symm; have f5_ := f3_.symm; clear f1_ f2_ f3_; subst f4_; subst f5_))
 obtain ⟨Ao13, co13, eo13⟩ := Kd.V_slice HO486.out
 (first | subst eo13 | (injection eo13 with f1_ f2_ f3_; have f4_ := f1_.symm; have f5_ := f3_.symm; clear f1_ f2_ f3_; subst f4_; subst f5_))
 refine hK.out _ _ ⟨(blk_cell BK479.out 0).trans rfl, (blk_cell BK480.out 0).trans rfl⟩ (fun hHeld => ?_)
 clear hK K
 refine norm_ (a' := ?_) ?_ ?_
 rotate_left
 ·show Act.put _ (some 12) _ = _
  simp only [Act.put, List.setIfInBounds_toArray, List.set_cons_zero, List.set_cons_succ, i64_w, i32_w]
  rfl
 refine one_ (i := 6) (N := some 13) (bA 8 127) rfl rfl (one_of HT_.out (by kernel_rfl)) (by decide) (fun K hK => ?_)
 refine goes_ Tryd.func119 (by kernel_rfl) rfl #[.slice Ao12 t481.length co12, .slice Ao13 t484.length co13] (by rfl) rfl rfl (by (try simp only [List.map_toArray, List.map_cons, List.map_nil]); first | done | rfl | (simp only [List.length_drop, List.length_take]; rfl)) ?_
 with_reducible refine (impl_scalar.calls k _ _ t481 _ _ t484 t487 _ ?side1 ?side2 ?side3 ?side4 A6.out).mono ?_
 (case side1 => repeat (first | exact (Kd.V_reads' HO483.out).2.2 | (with_reducible refine Kd.C_alloc ?_ _) | (with_reducible refine Kd.C_drewN ?_ _) | (with_reducible refine Kd.C_drew ?_)))
 (case side2 => exact (Kd.V_reads' HO483.out).2.1)
 (case side3 => repeat (first | exact (Kd.V_reads' HO486.out).2.2 | (with_reducible refine Kd.C_alloc ?_ _) | (with_reducible refine Kd.C_drewN ?_ _) | (with_reducible refine Kd.C_drew ?_)))
 (case side4 => exact (Kd.V_reads' HO486.out).2.1)
 rintro e w' ⟨rfl, ⟨nd, rfl⟩⟩
 refine ⟨_, rfl, ?_⟩
 refine hK.out _ _ ⟨(blk_cell BK479.out 0).trans rfl, (blk_cell BK480.out 0).trans rfl⟩ (fun hHeld => ?_)
 clear hK K
 refine norm_ (a' := ?_) ?_ ?_
 rotate_left
 ·show Act.put _ (some 13) _ = _
  simp only [Act.put, List.setIfInBounds_toArray, List.set_cons_zero, List.set_cons_succ, i64_w, i32_w]
  rfl
 refine pu HT_ 7 6 255 ?_
 refine done_ (done_of HT_.out (by kernel_rfl)) ?_
 try go_wp2
 go_ret
 exact ⟨eq_, bq⟩

/-! ### impl_meeting: function 90 -/
def impl_meeting.f (k : Nat) (l0_0 : List (S74)) (l0_1 : List (List Int)) (a1 : Int) (a2 : Int) : Option (Int) := if 0 ≤ a1 then (if a1 < (l0_0.length : Int) then (if 0 ≤ a2 then (if a2 < (l0_0.length : Int) then (if a1 < (l0_1.length : Int) then (if a2 < ((rd_L1 l0_1 a1).length : Int) then ((impl_intersection.f k ((rd_T74 l0_0 a1).f0) ((rd_T74 l0_0 a2).f0) (rd (rd_L1 l0_1 a1) a2)).bind fun t493 => (some t493)) else (none)) else (none)) else (none)) else (none)) else (none)) else (none)
def impl_meeting.T1 : Bool × List (List Nat × List Nat) := (true, [([], []), ([0], [0]), ([], []), ([1, 2], [1, 2]), ([3], [3]), ([], []), ([5], [5]), ([], []), ([6, 7], [6, 7]), ([8], [8]), ([], []), ([10], [10]), ([], []), ([11, 12], [11, 12]), ([13], [13]), ([], []), ([14, 15], [14, 15]), ([16], [16]), ([4, 9, 17], [4, 9, 17]), ([18, 18, 0, 1, 2, 3, 4, 5, 6, 7, 8, 9, 10, 11, 12, 13, 14, 15, 16, 17, 18], [18])])
def impl_meeting.B1 : List Nat := [0, 1, 0, 7, 15, 0, 32, 0, 224, 480, 0, 1024, 0, 7168, 15360, 0, 64512, 130048, 262143, 524287]
theorem impl_meeting.tab1 : rtab .any (opsOf Tryd.f90 1) = impl_meeting.T1 := by kernel_rfl
theorem impl_meeting.bits1 : waitsOk impl_meeting.T1.2 impl_meeting.B1 = true := by kernel_rfl
set_option maxHeartbeats 8000000 in
set_option maxRecDepth 100000 in
theorem impl_meeting.calls (k : Nat) (A0_0 : Option Addr) (c0_0 : Nat) (l0_0 : List (S74)) (A0_1 : Option Addr) (c0_1 : Nat) (l0_1 : List (List Int)) (a1 : Int) (a2 : Int) (r : Int) (w : World) (hr0_0 : Kd.C k74 w A0_0 l0_0.length l0_0) (hc0_0 : l0_0.length ≤ c0_0) (hr0_1 : Kd.C (Kd.slice 2 (Kd.int .i64)) w A0_1 l0_1.length l0_1) (hc0_1 : l0_1.length ≤ c0_1) (h : impl_meeting.f k l0_0 l0_1 a1 a2 = some r) :
  Calls Tryd.prog 90 #[.agg #[.slice A0_0 l0_0.length c0_0, .slice A0_1 l0_1.length c0_1], .int .i64 a1, .int .i64 a2] w fun e w' => e = .returned (.int .i64 r) ∧ Below w.heap.size w w' := by
 have hu31 := Tryd.underlying31
 have hu74 := Tryd.underlying74
 have HR0_0 := Aside0.mk hr0_0
 have HC0_0 := Aside0.mk hc0_0
 clear hr0_0 hc0_0
 have HR0_1 := Aside0.mk hr0_1
 have HC0_1 := Aside0.mk hc0_1
 clear hr0_1 hc0_1
 have HB := Aside0.mk (Below.refl w.heap.size w)
 have H : (if 0 ≤ a1 then (if a1 < (l0_0.length : Int) then (if 0 ≤ a2 then (if a2 < (l0_0.length : Int) then (if a1 < (l0_1.length : Int) then (if a2 < ((rd_L1 l0_1 a1).length : Int) then ((impl_intersection.f k ((rd_T74 l0_0 a1).f0) ((rd_T74 l0_0 a2).f0) (rd (rd_L1 l0_1 a1) a2)).bind fun t493 => (some t493)) else (none)) else (none)) else (none)) else (none)) else (none)) else (none)) = some r := h
 clear h
 by_cases c4 : 0 ≤ a1
 ·rw [if_pos c4] at H
  have c4b0 : decide (0 ≤ a1) = true := decide_eq_true c4
  clear c4
  revert H
  refine ifr fun c5 H => ?_
  have c5b0 : decide (a1 < (l0_0.length : Int)) = true := decide_eq_true c5
  clear c5
  revert H
  refine ifr fun c6 H => ?_
  have c6b0 : decide (0 ≤ a2) = true := decide_eq_true c6
  clear c6
  revert H
  refine ifr fun c7 H => ?_
  have c7b0 : decide (a2 < (l0_0.length : Int)) = true := decide_eq_true c7
  clear c7
  revert H
  refine ifr fun c8 H => ?_
  have c8b0 : decide (a1 < (l0_1.length : Int)) = true := decide_eq_true c8
  clear c8
  revert H
  refine ifr fun c9 H => ?_
  have c9b0 : decide (a2 < ((rd_L1 l0_1 a1).length : Int)) = true := decide_eq_true c9
  clear c9
  replace H := Option.bind_eq_some_iff.mp H
  obtain ⟨t493, A100, H⟩ := H
  replace H : (some t493) = some r := H
  have A10 := Aside0.mk A100
  clear A100
  obtain rfl := Option.some.inj H
  go_enter Tryd.func90, Tryd.ntmps90
  try go_wp2_with (first | ((with_reducible refine gate_dst (N := 3) rfl ?_); refine box_event ?hg (N := 3) ?hd (cs := #[.slice A0_0 l0_0.length c0_0, .slice A0_1 l0_1.length c0_1]) (t := 31) ?hr ?_; (case hd => rfl); (case hg => rfl); (case hr => first | (go_simp; done) | (go_simp; rfl)); intro gb488 hg w11 hbox hb; have BK488 := Aside0.mk (hbox); have GW488 := Aside0.mk ((by rw [hg]; exact (below_size bq) : w.heap.size ≤ gb488)); have GE488 := Aside0.mk ((by rw [hg]; exact (below_size bq) : w.heap.size ≤ gb488)); replace HB := Aside0.mk (below_step bq hb); clear hb hbox hg))
  have n0_ := Aside0.mk (blk_drew BK488.out)
  have n1_ := Aside0.mk (below_drew1 HB.out)
  clear BK488
  clear HB
  have BK488 := n0_
  have HB := n1_
  clear n0_ n1_
  have p489 : 0 ≤ (a1 : Int) := ode
  have q489 : a1 < (l0_0.length : Int) := ode
  obtain ⟨ad489, A489_0, c489_0, e489, hx489_0, hl489_0, hi489_0⟩ := at_T74 HR0_0.out a1 p489 q489
  have hw489_0 := hx489_0
  cases e489
  try replace hx489_0 := (HB.out.cell (World.block_lt_of_cell? w _ hx489_0)).trans hx489_0
  have HR489_0 := Aside0.mk hi489_0
  have HC489_0 := Aside0.mk hl489_0
  clear hi489_0 hl489_0
  replace p489 := eq_true p489
  replace q489 := eq_true q489
  have p490 : 0 ≤ (a2 : Int) := ode
  have q490 : a2 < (l0_0.length : Int) := ode
  obtain ⟨ad490, A490_0, c490_0, e490, hx490_0, hl490_0, hi490_0⟩ := at_T74 HR0_0.out a2 p490 q490
  have hw490_0 := hx490_0
  obtain rfl : ad489 = ad490 := (by injection e490)
  try replace hx490_0 := (HB.out.cell (World.block_lt_of_cell? w _ hx490_0)).trans hx490_0
  have HR490_0 := Aside0.mk hi490_0
  have HC490_0 := Aside0.mk hl490_0
  clear hi490_0 hl490_0
  replace p490 := eq_true p490
  replace q490 := eq_true q490
  have p491 : 0 ≤ (a1 : Int) := ode
  have q491 : a1 < (l0_1.length : Int) := ode
  obtain ⟨ad491, A491_0, c491_0, e491, hx491_0, hl491_0, hi491_0⟩ := at_L1 HR0_1.out a1 p491 q491
  have hw491_0 := hx491_0
  cases e491
  try replace hx491_0 := (HB.out.cell (World.block_lt_of_cell? w _ hx491_0)).trans hx491_0
  have HR491_0 := Aside0.mk hi491_0
  have HC491_0 := Aside0.mk hl491_0
  clear hi491_0 hl491_0
  replace p491 := eq_true p491
  replace q491 := eq_true q491
  have p492 : 0 ≤ (a2 : Int) := ode
  have q492 : a2 < ((rd_L1 l0_1 a1).length : Int) := ode
  obtain ⟨ad492, e492, hx492_0⟩ := Kd.at_int HR491_0.out a2 p492 q492
  have hw492_0 := hx492_0
  cases e492
  try replace hx492_0 := (HB.out.cell (World.block_lt_of_cell? w _ hx492_0)).trans hx492_0
  replace p492 := eq_true p492
  replace q492 := eq_true q492
  refine start_ (n := 20) (S := fun w' => w'.cell? ⟨gb488, 0, none⟩ = some (.slice (some ad489) l0_0.length c0_0) ∧ w'.cell? ⟨gb488, 1, none⟩ = some (.slice (some ad491) l0_1.length c0_1) ∧ w'.cell? (ad489.add (a1).toNat) = some (.slice A489_0 ((rd_T74 l0_0 a1).f0).length c489_0) ∧ w'.cell? (ad489.add (a2).toNat) = some (.slice A490_0 ((rd_T74 l0_0 a2).f0).length c490_0) ∧ w'.cell? (ad491.add (a1).toNat) = some (.slice (some ad492) (rd_L1 l0_1 a1).length c491_0) ∧ w'.cell? (ad492.add (a2).toNat) = some (.int .i64 (rd (rd_L1 l0_1 a1) a2))) (ds := []) (bA 20 0) (by kernel_rfl) rfl (by kernel_rfl) ⟨(blk_cell BK488.out 0).trans rfl, (blk_cell BK488.out 1).trans rfl, ((HB.out.cell (World.block_lt_of_cell? w _ hw489_0)).trans hw489_0), ((HB.out.cell (World.block_lt_of_cell? w _ hw490_0)).trans hw490_0), ((HB.out.cell (World.block_lt_of_cell? w _ hw491_0)).trans hw491_0), ((HB.out.cell (World.block_lt_of_cell? w _ hw492_0)).trans hw492_0)⟩ (fun hHeld => ?_); refine with_tabW impl_meeting.tab1 impl_meeting.bits1 (fun HT_ HW_ => ?_)
  generalize w11.drew = w12 at BK488 HB HR489_0 HR490_0 HR491_0 hx489_0 hx490_0 hx491_0 hx492_0 hHeld ⊢
  refine pu HT_ 0 7 1 ?_
  refine pu HT_ 2 9 5 ?_
  refine pu HT_ 5 12 37 ?_
  refine pu HT_ 7 14 165 ?_
  refine pu HT_ 10 17 1189 ?_
  refine pu HT_ 12 19 5285 ?_
  refine pu HT_ 15 22 38053 ?_
  refine tk6 HT_ HW_ hHeld 1 8 38055 ?_
  refine pu HT_ 3 10 38063 ?_
  refine tk6 HT_ HW_ hHeld 4 11 38079 ?_
  refine tk6 HT_ HW_ hHeld 6 13 38143 ?_
  refine pu HT_ 8 15 38399 ?_
  refine tk6 HT_ HW_ hHeld 9 16 38911 ?_
  refine tk6 HT_ HW_ hHeld 11 18 40959 ?_
  refine pu HT_ 13 20 49151 ?_
  refine tk6 HT_ HW_ hHeld 14 21 65535 ?_
  refine pu HT_ 16 23 131071 ?_
  refine tk6 HT_ HW_ hHeld 17 24 262143 ?_
  refine one_ (i := 18) (N := some 25) (bA 20 524287) rfl rfl (one_of HT_.out (by kernel_rfl)) (by decide) (fun K hK => ?_)
  refine goes_ Tryd.func106 (by kernel_rfl) rfl #[.agg #[.slice A489_0 ((rd_T74 l0_0 a1).f0).length c489_0], .agg #[.slice A490_0 ((rd_T74 l0_0 a2).f0).length c490_0], .int .i64 (rd (rd_L1 l0_1 a1) a2)] (by rfl) rfl rfl (by (try simp only [List.map_toArray, List.map_cons, List.map_nil]); first | done | rfl | (simp only [List.length_drop, List.length_take]; rfl)) ?_
  with_reducible refine (impl_intersection.calls k _ _ ((rd_T74 l0_0 a1).f0) _ _ ((rd_T74 l0_0 a2).f0) (rd (rd_L1 l0_1 a1) a2) t493 _ ?side1 ?side2 ?side3 ?side4 A10.out).mono ?_
  (case side1 => exact kc HR489_0)
  (case side2 => exact HC489_0.out)
  (case side3 => exact kc HR490_0)
  (case side4 => exact HC490_0.out)
  rintro e w13 ⟨rfl, hb⟩
  refine ⟨_, rfl, ?_⟩
  have n0_ := Aside0.mk (blk_below (g := gb488) (o := .cells #[.slice (some ad489) l0_0.length c0_0, .slice (some ad491) l0_1.length c0_1] 31 (0, 0)) (bk BK488) hb)
  have n1_ := Aside0.mk (below_step bq hb)
  clear BK488
  clear HB
  have BK488 := n0_
  have HB := n1_
  clear n0_ n1_
  
  
  
  
  refine hK.out _ _ ⟨(blk_cell BK488.out 0).trans rfl, (blk_cell BK488.out 1).trans rfl, ((HB.out.cell (World.block_lt_of_cell? w _ hw489_0)).trans hw489_0), ((HB.out.cell (World.block_lt_of_cell? w _ hw490_0)).trans hw490_0), ((HB.out.cell (World.block_lt_of_cell? w _ hw491_0)).trans hw491_0), ((HB.out.cell (World.block_lt_of_cell? w _ hw492_0)).trans hw492_0)⟩ (fun hHeld => ?_)
  clear hK K
  refine norm_ (a' := ?_) ?_ ?_
  rotate_left
  ·show Act.put _ (some 25) _ = _
   simp only [Act.put, List.setIfInBounds_toArray, List.set_cons_zero, List.set_cons_succ, i64_w, i32_w]
   rfl
  refine pu HT_ 19 6 1048575 ?_
  refine done_ (done_of HT_.out (by kernel_rfl)) ?_
  try go_wp2
  go_ret
  exact ⟨eq_, bq⟩
 ·rw [if_neg c4] at H
  exact absurd H (by simp)

/-! ### impl_curveDelta: function 56 -/
mutual
def impl_curveDelta.l0 : Nat → Int → List (S74) → Int → Int → List (S74) → List (List Int) → Option (Int)
 | 0, _, _, _, _, _, _ => none
 | k + 1, x3, x8, x9, x10, x495000, x495001 => if x10 < x9 then (if 0 ≤ x10 then (if x10 < (x8.length : Int) then ((impl_sequence.f k ((rd_T74 x8 x10).f0)).bind fun t497 => ((impl_deltaOf.f k t497).bind fun t500 => (impl_curveDelta.l1 k (wrap64 (x3 + t500)) x10 x8 x9 x10 x10 0 x495000 x495001))) else (none)) else (none)) else (some x3)
def impl_curveDelta.l1 : Nat → Int → Int → List (S74) → Int → Int → Int → Int → List (S74) → List (List Int) → Option (Int)
 | 0, _, _, _, _, _, _, _, _, _ => none
 | k + 1, x3, x4, x8, x9, x10, x20, x21, x495000, x495001 => if x21 < x20 then ((impl_meeting.f k x495000 x495001 x4 x21).bind fun t501 => (impl_curveDelta.l1 k (wrap64 (x3 + t501)) x4 x8 x9 x10 x20 (wrap64 (x21 + 1)) x495000 x495001)) else (impl_curveDelta.l0 k x3 x8 x9 (wrap64 (x10 + 1)) x495000 x495001)
end
def impl_curveDelta.f (k : Nat) (l0_0 : List (S74)) (l0_1 : List (List Int)) : Option (Int) := impl_curveDelta.l0 k 0 l0_0 (l0_0.length : Int) 0 l0_0 l0_1
set_option maxHeartbeats 8000000 in
set_option maxRecDepth 100000 in
theorem impl_curveDelta.calls (k : Nat) (A0_0 : Option Addr) (c0_0 : Nat) (l0_0 : List (S74)) (A0_1 : Option Addr) (c0_1 : Nat) (l0_1 : List (List Int)) (r : Int) (w : World) (hr0_0 : Kd.C k74 w A0_0 l0_0.length l0_0) (hc0_0 : l0_0.length ≤ c0_0) (hr0_1 : Kd.C (Kd.slice 2 (Kd.int .i64)) w A0_1 l0_1.length l0_1) (hc0_1 : l0_1.length ≤ c0_1) (h : impl_curveDelta.f k l0_0 l0_1 = some r) :
  Calls Tryd.prog 56 #[.agg #[.slice A0_0 l0_0.length c0_0, .slice A0_1 l0_1.length c0_1]] w fun e w' => e = .returned (.int .i64 r) ∧ Below w.heap.size w w' := by
 have hu31 := Tryd.underlying31
 have hu74 := Tryd.underlying74
 have HR0_0 := Aside0.mk hr0_0
 have HC0_0 := Aside0.mk hc0_0
 clear hr0_0 hc0_0
 have HR0_1 := Aside0.mk hr0_1
 have HC0_1 := Aside0.mk hc0_1
 clear hr0_1 hc0_1
 have HB := Aside0.mk (Below.refl w.heap.size w)
 have H : (impl_curveDelta.l0 k 0 l0_0 (l0_0.length : Int) 0 l0_0 l0_1) = some r := h
 clear h
 have H' := Aside0.mk H
 clear H
 go_enter Tryd.func56, Tryd.ntmps56
 go_wp2_with (first | ((with_reducible refine gate_dst (N := 1) rfl ?_); refine box_event ?hg (N := 1) ?hd (cs := #[.slice A0_0 l0_0.length c0_0, .slice A0_1 l0_1.length c0_1]) (t := 31) ?hr ?_; (case hd => rfl); (case hg => rfl); (case hr => first | (go_simp; done) | (go_simp; rfl)); intro gb494 hg w2 hbox hb; have BK494 := Aside0.mk (hbox); have GW494 := Aside0.mk ((by rw [hg]; exact (below_size bq) : w.heap.size ≤ gb494)); have GE494 := Aside0.mk ((by rw [hg]; exact (below_size bq) : w.heap.size ≤ gb494)); replace HB := Aside0.mk (below_step bq hb); clear hb hbox hg; have hcz3_0 := bc0 BK494; have hcz3_1 := bc1 BK494; have hfz3_0 := blk_frozen BK494.out 0; have hfz3_1 := blk_frozen BK494.out 1))
 go_loopg [3, 10] k (fun kq v3 v10 w' => ∃ (x3_1 : Int) (x10_1 : Int), v3 = .int .i64 x3_1 ∧ v10 = .int .i64 x10_1 ∧ Aside0 (impl_curveDelta.l0 kq x3_1 l0_0 (l0_0.length : Int) x10_1 l0_0 l0_1 = some r) ∧ Aside0 (kq ≤ k) ∧ Aside0 (w'.heap[gb494]? = some (.cells #[(.slice A0_0 l0_0.length c0_0), (.slice A0_1 l0_1.length c0_1)] 31 (0, 0))) ∧ Aside0 (Below w.heap.size w w'))
 case atStart => exact ⟨(0), (0), (by first | rfl | (simp; done) | (simp [*]; done)), (by first | rfl | (simp; done) | (simp [*]; done)), H', ⟨Nat.le_refl _⟩, ⟨bk BK494⟩, ⟨bq⟩⟩
 case round =>
  clear H'
  try clear p2
  try clear hcz3_0
  try clear hcz3_1
  try clear hfz3_0
  try clear hfz3_1
  obtain ⟨x3_1, x10_1, rfl, rfl, HA, HK1, BK494, HB⟩ := hrel
  cases gk with
  | zero => exact absurd HA.out (by simp [impl_curveDelta.l0])
  | succ k1 =>
   have H := HA.out
   clear HA
   simp only [impl_curveDelta.l0] at H
   by_cases c4 : x10_1 < (l0_0.length : Int)
   ·rw [if_pos c4] at H
    have c4b0 : decide (x10_1 < (l0_0.length : Int)) = true := decide_eq_true c4
    clear c4
    revert H
    refine ifr fun c5 H => ?_
    have c5b0 : decide (0 ≤ x10_1) = true := decide_eq_true c5
    clear c5
    revert H
    refine ifr fun c6 H => ?_
    have c6b0 : decide (x10_1 < (l0_0.length : Int)) = true := decide_eq_true c6
    clear c6
    replace H := Option.bind_eq_some_iff.mp H
    obtain ⟨t497, A70, H⟩ := H
    replace H : ((impl_deltaOf.f k1 t497).bind fun t500 => (impl_curveDelta.l1 k1 (wrap64 (x3_1 + t500)) x10_1 l0_0 (l0_0.length : Int) x10_1 x10_1 0 l0_0 l0_1)) = some r := H
    have A7 := Aside0.mk A70
    clear A70
    replace H := Option.bind_eq_some_iff.mp H
    obtain ⟨t500, A80, H⟩ := H
    replace H : (impl_curveDelta.l1 k1 (wrap64 (x3_1 + t500)) x10_1 l0_0 (l0_0.length : Int) x10_1 x10_1 0 l0_0 l0_1) = some r := H
    have A8 := Aside0.mk A80
    clear A80
    have H' := Aside0.mk H
    clear H
    have p495 : 0 ≤ (x10_1 : Int) := ode
    have q495 : x10_1 < (l0_0.length : Int) := ode
    obtain ⟨ad495, A495_0, c495_0, e495, hx495_0, hl495_0, hi495_0⟩ := at_T74 HR0_0.out x10_1 p495 q495
    cases e495
    try replace hx495_0 := (HB.out.cell (World.block_lt_of_cell? w _ hx495_0)).trans hx495_0
    have HR495_0 := Aside0.mk hi495_0
    have HC495_0 := Aside0.mk hl495_0
    clear hi495_0 hl495_0
    replace p495 := eq_true p495
    replace q495 := eq_true q495
    go_wp2_with (first | ((with_reducible refine gate_dst (N := 5) rfl ?_); refine box_event ?hg (N := 5) ?hd (cs := #[.slice none 0 0]) (t := 74) ?hr ?_; (case hd => rfl); (case hg => rfl); (case hr => first | (go_simp; done) | (go_simp; rfl)); intro gb496 hg w9 hbox hb; have BK496 := Aside0.mk (hbox); have GW496 := Aside0.mk ((by rw [hg]; exact (below_size bq) : w.heap.size ≤ gb496)); have GE496 := Aside0.mk ((by rw [hg]; exact (below_size bq) : w.heap.size ≤ gb496)); replace HB := Aside0.mk (below_step bq hb); have NB494_496 := Aside0.mk ((by rw [hg]; exact Nat.ne_of_lt (blk_lt (g := gb494) (o := .cells #[.slice (some ad495) l0_0.length c0_0, .slice A0_1 l0_1.length c0_1] 31 (0, 0)) (bk BK494)) : gb494 ≠ gb496)); have NB496_494 := Aside0.mk ((by rw [hg]; exact Nat.ne_of_gt (blk_lt (g := gb494) (o := .cells #[.slice (some ad495) l0_0.length c0_0, .slice A0_1 l0_1.length c0_1] 31 (0, 0)) (bk BK494)) : gb496 ≠ gb494)); replace BK494 := Aside0.mk (blk_below (g := gb494) (o := .cells #[.slice (some ad495) l0_0.length c0_0, .slice A0_1 l0_1.length c0_1] 31 (0, 0)) (bk BK494) hb); clear hb hbox hg; have hnb10 := NB496_494.out; have hnc10 := NB494_496.out; have hcz11_0 := bc0 BK496; have hfz11_0 := blk_frozen BK496.out 0) | ((with_reducible refine gate_callee (f := 89) rfl ?_); refine gL 17 Tryd.func89 #[.agg #[.slice A495_0 ((rd_T74 l0_0 x10_1).f0).length c495_0]] ?_; (with_reducible refine (impl_sequence.calls k1 _ _ ((rd_T74 l0_0 x10_1).f0) t497 _ ?side1 ?side2 A7.out).mono ?_); (case side1 => exact Kd.C_below HR495_0.out bq); (case side2 => exact HC495_0.out); rintro e w12 ⟨v498, rfl, ho0, hb⟩; refine ⟨_, rfl, ?_⟩; have HO499 := Aside0.mk (Kd.R_lower ho0 (below_size bq)); replace BK494 := Aside0.mk (blk_below (g := gb494) (o := .cells #[.slice (some ad495) l0_0.length c0_0, .slice A0_1 l0_1.length c0_1] 31 (0, 0)) (by (with_reducible repeat (first | refine blk_drewN ?_ _ | refine blk_drew ?_ | refine blk_alloc ?_ _)); refine blk_far ?_ NB494_496.out _; (with_reducible repeat (first | refine blk_drewN ?_ _ | refine blk_drew ?_ | refine blk_alloc ?_ _)); exact BK494.out) hb); replace BK496 := Aside0.mk (blk_below (g := gb496) (o := .cells #[.slice A495_0 ((rd_T74 l0_0 x10_1).f0).length c495_0] 74 (0, 0)) (by (with_reducible repeat (first | refine blk_drewN ?_ _ | refine blk_drew ?_ | refine blk_alloc ?_ _)); refine blk_put (cs := #[.slice none 0 0]) ?_ 0 _ rfl; (with_reducible repeat (first | refine blk_drewN ?_ _ | refine blk_drew ?_ | refine blk_alloc ?_ _)); exact BK496.out) hb); replace HB := Aside0.mk (below_step bq hb); (try clear hb); (try clear ho0); obtain ⟨Ao13, co13, eo13⟩ := Kd.R_slice HO499.out; subst eo13) | ((with_reducible refine gate_callee (f := 88) rfl ?_); refine gL 18 Tryd.func88 #[.slice Ao13 t497.length co13] ?_; (with_reducible refine (impl_deltaOf.calls k1 _ _ t497 t500 _ ?side1 ?side2 A8.out).mono ?_); (case side1 => repeat (first | exact (Kd.R_reads' HO499.out).2.2 | (with_reducible refine Kd.C_alloc ?_ _) | (with_reducible refine Kd.C_drewN ?_ _) | (with_reducible refine Kd.C_drew ?_))); (case side2 => exact (Kd.R_reads' HO499.out).2.1); rintro e w' ⟨rfl, ⟨nd, rfl⟩⟩; refine ⟨_, rfl, ?_⟩))
    go_loopg [3, 21] k1 (fun kq v3 v21 w' => ∃ (x3_2 : Int) (x21_2 : Int), v3 = .int .i64 x3_2 ∧ v21 = .int .i64 x21_2 ∧ Aside0 (impl_curveDelta.l1 kq x3_2 x10_1 l0_0 (l0_0.length : Int) x10_1 x10_1 x21_2 l0_0 l0_1 = some r) ∧ Aside0 (kq ≤ k1) ∧ Aside0 (w'.heap[gb494]? = some (.cells #[(.slice (some ad495) l0_0.length c0_0), (.slice A0_1 l0_1.length c0_1)] 31 (0, 0))) ∧ Aside0 (w'.heap[gb496]? = some (.cells #[(.slice A495_0 ((rd_T74 l0_0 x10_1).f0).length c495_0)] 74 (0, 0))) ∧ Aside0 (Below w.heap.size w w'))
    case atStart => exact ⟨(wrap64 (x3_1 + t500)), (0), (by first | rfl | (simp; done) | (simp [*]; done)), (by first | rfl | (simp; done) | (simp [*]; done)), H', ⟨Nat.le_refl _⟩, ⟨bk BK494⟩, ⟨bk BK496⟩, ⟨bq⟩⟩
    case round =>
     clear H'
     try clear c1
     try clear p2
     try clear c4
     try clear c4b0
     try clear p4
     try clear q4
     try clear hx4
     try clear c5
     try clear c5b0
     try clear c6
     try clear c6b0
     try clear p6
     try clear c8
     try clear c10
     try clear hcz11_0
     try clear hcz3_0
     try clear hcz3_1
     try clear hfz11_0
     try clear hfz3_0
     try clear hfz3_1
     try clear hx495_0
     try clear p2
     try clear p495
     try clear q495
     obtain ⟨x3_2, x21_2, rfl, rfl, HA, HK2, BK494, BK496, HB⟩ := hrel
     cases gk with
     | zero => exact absurd HA.out (by simp [impl_curveDelta.l1])
     | succ k2 =>
      have H := HA.out
      clear HA
      simp only [impl_curveDelta.l1] at H
      by_cases c14 : x21_2 < x10_1
      ·rw [if_pos c14] at H
       have c14b0 : decide (x21_2 < x10_1) = true := decide_eq_true c14
       clear c14
       replace H := Option.bind_eq_some_iff.mp H
       obtain ⟨t501, A150, H⟩ := H
       replace H : (impl_curveDelta.l1 k2 (wrap64 (x3_2 + t501)) x10_1 l0_0 (l0_0.length : Int) x10_1 x10_1 (wrap64 (x21_2 + 1)) l0_0 l0_1) = some r := H
       have A15 := Aside0.mk A150
       clear A150
       have H' := Aside0.mk H
       clear H
       have hnb16 := NB494_496.out
       have hnc16 := NB496_494.out
       have hcz17_0 := bc0 BK494
       have hcz17_1 := bc1 BK494
       have hfz17_0 := blk_frozen BK494.out 0
       have hfz17_1 := blk_frozen BK494.out 1
       go_wp2_with (first | ((with_reducible refine gate_callee (f := 90) rfl ?_); refine gL 28 Tryd.func90 #[.agg #[.slice (some ad495) l0_0.length c0_0, .slice A0_1 l0_1.length c0_1], .int .i64 x10_1, .int .i64 x21_2] ?_; (with_reducible refine (impl_meeting.calls k2 _ _ l0_0 _ _ l0_1 x10_1 x21_2 t501 _ ?side1 ?side2 ?side3 ?side4 A15.out).mono ?_); (case side1 => exact kc HR0_0); (case side2 => exact HC0_0.out); (case side3 => exact kc HR0_1); (case side4 => exact HC0_1.out); rintro e w18 ⟨rfl, hb⟩; refine ⟨_, rfl, ?_⟩; replace BK494 := Aside0.mk (blk_below (g := gb494) (o := .cells #[.slice (some ad495) l0_0.length c0_0, .slice A0_1 l0_1.length c0_1] 31 (0, 0)) (bk BK494) hb); replace BK496 := Aside0.mk (blk_below (g := gb496) (o := .cells #[.slice A495_0 ((rd_T74 l0_0 x10_1).f0).length c495_0] 74 (0, 0)) (bk BK496) hb); replace HB := Aside0.mk (below_step bq hb); (try clear hb)))
       go_roundg k2
       case measure => have := HK1.out; have := HK2.out; omega
       case rel => exact ⟨(wrap64 (x3_2 + t501)), (wrap64 (x21_2 + 1)), (by first | rfl | (simp; done) | (simp [*]; done)), (by first | rfl | (simp; done) | (simp [*]; done)), H', ⟨by have := HK1.out; have := HK2.out; omega⟩, ⟨bk BK494⟩, ⟨bk BK496⟩, ⟨bq⟩⟩
      ·rw [if_neg c14] at H
       have c14b0 : decide (x21_2 < x10_1) = false := decide_eq_false c14
       clear c14
       have H' := Aside0.mk H
       clear H
       go_wp2
       go_roundg k2
       case measure => have := HK1.out; have := HK2.out; omega
       case rel => exact ⟨(x3_2), (wrap64 (x10_1 + 1)), (by first | rfl | (simp; done) | (simp [*]; done)), (by first | rfl | (simp; done) | (simp [*]; done)), H', ⟨by have := HK1.out; have := HK2.out; omega⟩, ⟨bk BK494⟩, ⟨bq⟩⟩
   ·rw [if_neg c4] at H
    have c4b0 : decide (x10_1 < (l0_0.length : Int)) = false := decide_eq_false c4
    clear c4
    obtain rfl := Option.some.inj H
    go_wp2
    go_ret
    exact ⟨eq_, bq⟩

/-! ### impl_curveMilnor: function 22 -/
def impl_curveMilnor.f (k : Nat) (l0_0 : List (S74)) (l0_1 : List (List Int)) : Option (Int) := (impl_curveDelta.f k l0_0 l0_1).bind fun t503 => (some (wrap64 ((wrap64 ((wrap64 (2 * t503)) - (l0_0.length : Int))) + 1)))
def impl_curveMilnor.T1 : Bool × List (List Nat × List Nat) := (true, [([], []), ([0], [0]), ([1], [1]), ([], []), ([3], [3]), ([4], [4]), ([2, 5], [2, 5]), ([6], [6]), ([7, 1, 0, 1, 2, 3, 4, 5, 6, 7], [7])])
def impl_curveMilnor.B1 : List Nat := [0, 1, 3, 0, 8, 24, 63, 127, 255]
theorem impl_curveMilnor.tab1 : rtab .any (opsOf Tryd.f22 1) = impl_curveMilnor.T1 := by kernel_rfl
theorem impl_curveMilnor.bits1 : waitsOk impl_curveMilnor.T1.2 impl_curveMilnor.B1 = true := by kernel_rfl
set_option maxHeartbeats 8000000 in
set_option maxRecDepth 100000 in
theorem impl_curveMilnor.calls (k : Nat) (A0_0 : Option Addr) (c0_0 : Nat) (l0_0 : List (S74)) (A0_1 : Option Addr) (c0_1 : Nat) (l0_1 : List (List Int)) (r : Int) (w : World) (hr0_0 : Kd.C k74 w A0_0 l0_0.length l0_0) (hc0_0 : l0_0.length ≤ c0_0) (hr0_1 : Kd.C (Kd.slice 2 (Kd.int .i64)) w A0_1 l0_1.length l0_1) (hc0_1 : l0_1.length ≤ c0_1) (h : impl_curveMilnor.f k l0_0 l0_1 = some r) :
  Calls Tryd.prog 22 #[.agg #[.slice A0_0 l0_0.length c0_0, .slice A0_1 l0_1.length c0_1]] w fun e w' => e = .returned (.int .i64 r) ∧ Below w.heap.size w w' := by
 have hu31 := Tryd.underlying31
 have HR0_0 := Aside0.mk hr0_0
 have HC0_0 := Aside0.mk hc0_0
 clear hr0_0 hc0_0
 have HR0_1 := Aside0.mk hr0_1
 have HC0_1 := Aside0.mk hc0_1
 clear hr0_1 hc0_1
 have HB := Aside0.mk (Below.refl w.heap.size w)
 have H : ((impl_curveDelta.f k l0_0 l0_1).bind fun t503 => (some (wrap64 ((wrap64 ((wrap64 (2 * t503)) - (l0_0.length : Int))) + 1)))) = some r := h
 clear h
 replace H := Option.bind_eq_some_iff.mp H
 obtain ⟨t503, A20, H⟩ := H
 replace H : (some (wrap64 ((wrap64 ((wrap64 (2 * t503)) - (l0_0.length : Int))) + 1))) = some r := H
 have A2 := Aside0.mk A20
 clear A20
 obtain rfl := Option.some.inj H
 go_enter Tryd.func22, Tryd.ntmps22
 try go_wp2_with (first | ((with_reducible refine gate_dst (N := 1) rfl ?_); refine box_event ?hg (N := 1) ?hd (cs := #[.slice A0_0 l0_0.length c0_0, .slice A0_1 l0_1.length c0_1]) (t := 31) ?hr ?_; (case hd => rfl); (case hg => rfl); (case hr => first | (go_simp; done) | (go_simp; rfl)); intro gb502 hg w3 hbox hb; have BK502 := Aside0.mk (hbox); have GW502 := Aside0.mk ((by rw [hg]; exact (below_size bq) : w.heap.size ≤ gb502)); have GE502 := Aside0.mk ((by rw [hg]; exact (below_size bq) : w.heap.size ≤ gb502)); replace HB := Aside0.mk (below_step bq hb); clear hb hbox hg))
 have n0_ := Aside0.mk (blk_drew BK502.out)
 have n1_ := Aside0.mk (below_drew1 HB.out)
 clear BK502
 clear HB
 have BK502 := n0_
 have HB := n1_
 clear n0_ n1_
 refine start_ (n := 9) (S := fun w' => w'.cell? ⟨gb502, 0, none⟩ = some (.slice A0_0 l0_0.length c0_0) ∧ w'.cell? ⟨gb502, 1, none⟩ = some (.slice A0_1 l0_1.length c0_1)) (ds := []) (bA 9 0) (by kernel_rfl) rfl (by kernel_rfl) ⟨(blk_cell BK502.out 0).trans rfl, (blk_cell BK502.out 1).trans rfl⟩ (fun hHeld => ?_); refine with_tabW impl_curveMilnor.tab1 impl_curveMilnor.bits1 (fun HT_ HW_ => ?_)
 generalize w3.drew = w4 at BK502 HB hHeld ⊢
 refine pu HT_ 3 6 8 ?_
 refine tk2 HT_ HW_ hHeld 0 3 9 ?_
 refine tk2 HT_ HW_ hHeld 4 7 25 ?_
 refine pu HT_ 5 8 57 ?_
 refine one_ (i := 1) (N := some 4) (bA 9 59) rfl rfl (one_of HT_.out (by kernel_rfl)) (by decide) (fun K hK => ?_)
 refine goes_ Tryd.func56 (by kernel_rfl) rfl #[.agg #[.slice A0_0 l0_0.length c0_0, .slice A0_1 l0_1.length c0_1]] (by rfl) rfl rfl (by (try simp only [List.map_toArray, List.map_cons, List.map_nil]); first | done | rfl | (simp only [List.length_drop, List.length_take]; rfl)) ?_
 with_reducible refine (impl_curveDelta.calls k _ _ l0_0 _ _ l0_1 t503 _ ?side1 ?side2 ?side3 ?side4 A2.out).mono ?_
 (case side1 => exact kc HR0_0)
 (case side2 => exact HC0_0.out)
 (case side3 => exact kc HR0_1)
 (case side4 => exact HC0_1.out)
 rintro e w5 ⟨rfl, hb⟩
 refine ⟨_, rfl, ?_⟩
 have n0_ := Aside0.mk (blk_below (g := gb502) (o := .cells #[.slice A0_0 l0_0.length c0_0, .slice A0_1 l0_1.length c0_1] 31 (0, 0)) (bk BK502) hb)
 have n1_ := Aside0.mk (below_step bq hb)
 clear BK502
 clear HB
 have BK502 := n0_
 have HB := n1_
 clear n0_ n1_
 
 
 
 
 refine hK.out _ _ ⟨(blk_cell BK502.out 0).trans rfl, (blk_cell BK502.out 1).trans rfl⟩ (fun hHeld => ?_)
 clear hK K
 refine norm_ (a' := ?_) ?_ ?_
 rotate_left
 ·show Act.put _ (some 4) _ = _
  simp only [Act.put, List.setIfInBounds_toArray, List.set_cons_zero, List.set_cons_succ, i64_w, i32_w]
  rfl
 refine pu HT_ 2 5 63 ?_
 refine pu HT_ 6 9 127 ?_
 refine pu HT_ 7 10 255 ?_
 refine pu HT_ 8 2 511 ?_
 refine done_ (done_of HT_.out (by kernel_rfl)) ?_
 try go_wp2
 go_ret
 exact ⟨eq_, bq⟩

/-! ### impl_multiplicity: function 23 -/
def impl_multiplicity.l0 : Nat → Int → List (S74) → Int → Int → Option (Int)
 | 0, _, _, _, _ => none
 | k + 1, x3, x7, x8, x9 => if x9 < x8 then (if 0 ≤ x9 then (if x9 < (x7.length : Int) then (if 0 < (((rd_T74 x7 x9).f0).length : Int) then (impl_multiplicity.l0 k (wrap64 (x3 + (rd ((rd_T74 x7 x9).f0) 0))) x7 x8 (wrap64 (x9 + 1))) else (none)) else (none)) else (none)) else (some x3)
def impl_multiplicity.f (k : Nat) (l0_0 : List (S74)) (l0_1 : List (List Int)) : Option (Int) := impl_multiplicity.l0 k 0 l0_0 (l0_0.length : Int) 0
set_option maxHeartbeats 8000000 in
set_option maxRecDepth 100000 in
theorem impl_multiplicity.calls (k : Nat) (A0_0 : Option Addr) (c0_0 : Nat) (l0_0 : List (S74)) (A0_1 : Option Addr) (c0_1 : Nat) (l0_1 : List (List Int)) (r : Int) (w : World) (hr0_0 : Kd.C k74 w A0_0 l0_0.length l0_0) (hc0_0 : l0_0.length ≤ c0_0) (hr0_1 : Kd.C (Kd.slice 2 (Kd.int .i64)) w A0_1 l0_1.length l0_1) (hc0_1 : l0_1.length ≤ c0_1) (h : impl_multiplicity.f k l0_0 l0_1 = some r) :
  Calls Tryd.prog 23 #[.agg #[.slice A0_0 l0_0.length c0_0, .slice A0_1 l0_1.length c0_1]] w fun e w' => e = .returned (.int .i64 r) ∧ Below w.heap.size w w' := by
 have hu31 := Tryd.underlying31
 have hu74 := Tryd.underlying74
 have HR0_0 := Aside0.mk hr0_0
 have HC0_0 := Aside0.mk hc0_0
 clear hr0_0 hc0_0
 have HR0_1 := Aside0.mk hr0_1
 have HC0_1 := Aside0.mk hc0_1
 clear hr0_1 hc0_1
 have HB := Aside0.mk (Below.refl w.heap.size w)
 have H : (impl_multiplicity.l0 k 0 l0_0 (l0_0.length : Int) 0) = some r := h
 clear h
 have H' := Aside0.mk H
 clear H
 go_enter Tryd.func23, Tryd.ntmps23
 go_wp2_with (first | ((with_reducible refine gate_dst (N := 1) rfl ?_); refine box_event ?hg (N := 1) ?hd (cs := #[.slice A0_0 l0_0.length c0_0, .slice A0_1 l0_1.length c0_1]) (t := 31) ?hr ?_; (case hd => rfl); (case hg => rfl); (case hr => first | (go_simp; done) | (go_simp; rfl)); intro gb504 hg w2 hbox hb; have BK504 := Aside0.mk (hbox); have GW504 := Aside0.mk ((by rw [hg]; exact (below_size bq) : w.heap.size ≤ gb504)); have GE504 := Aside0.mk ((by rw [hg]; exact (below_size bq) : w.heap.size ≤ gb504)); replace HB := Aside0.mk (below_step bq hb); clear hb hbox hg; have hcz3_0 := bc0 BK504; have hcz3_1 := bc1 BK504; have hfz3_0 := blk_frozen BK504.out 0; have hfz3_1 := blk_frozen BK504.out 1))
 go_loopg [3, 9] k (fun kq v3 v9 w' => ∃ (x3_1 : Int) (x9_1 : Int), v3 = .int .i64 x3_1 ∧ v9 = .int .i64 x9_1 ∧ Aside0 (impl_multiplicity.l0 kq x3_1 l0_0 (l0_0.length : Int) x9_1 = some r) ∧ Aside0 (kq ≤ k) ∧ Aside0 (w'.heap[gb504]? = some (.cells #[(.slice A0_0 l0_0.length c0_0), (.slice A0_1 l0_1.length c0_1)] 31 (0, 0))) ∧ Aside0 (Below w.heap.size w w'))
 case atStart => exact ⟨(0), (0), (by first | rfl | (simp; done) | (simp [*]; done)), (by first | rfl | (simp; done) | (simp [*]; done)), H', ⟨Nat.le_refl _⟩, ⟨bk BK504⟩, ⟨bq⟩⟩
 case round =>
  clear H'
  try clear c2
  try clear p2
  try clear hcz3_0
  try clear hcz3_1
  try clear hfz3_0
  try clear hfz3_1
  obtain ⟨x3_1, x9_1, rfl, rfl, HA, HK1, BK504, HB⟩ := hrel
  cases gk with
  | zero => exact absurd HA.out (by simp [impl_multiplicity.l0])
  | succ k1 =>
   have H := HA.out
   clear HA
   simp only [impl_multiplicity.l0] at H
   by_cases c4 : x9_1 < (l0_0.length : Int)
   ·rw [if_pos c4] at H
    have c4b0 : decide (x9_1 < (l0_0.length : Int)) = true := decide_eq_true c4
    clear c4
    revert H
    refine ifr fun c5 H => ?_
    have c5b0 : decide (0 ≤ x9_1) = true := decide_eq_true c5
    clear c5
    revert H
    refine ifr fun c6 H => ?_
    have c6b0 : decide (x9_1 < (l0_0.length : Int)) = true := decide_eq_true c6
    clear c6
    revert H
    refine ifr fun c7 H => ?_
    have c7b0 : decide (0 < (((rd_T74 l0_0 x9_1).f0).length : Int)) = true := decide_eq_true c7
    have c7b1 : decide (0 < ((rd_T74 l0_0 x9_1).f0).length) = true := decide_eq_true (by omega)
    clear c7
    have H' := Aside0.mk H
    clear H
    have p505 : 0 ≤ (x9_1 : Int) := ode
    have q505 : x9_1 < (l0_0.length : Int) := ode
    obtain ⟨ad505, A505_0, c505_0, e505, hx505_0, hl505_0, hi505_0⟩ := at_T74 HR0_0.out x9_1 p505 q505
    cases e505
    try replace hx505_0 := (HB.out.cell (World.block_lt_of_cell? w _ hx505_0)).trans hx505_0
    have HR505_0 := Aside0.mk hi505_0
    have HC505_0 := Aside0.mk hl505_0
    clear hi505_0 hl505_0
    replace p505 := eq_true p505
    replace q505 := eq_true q505
    go_wp2_with (first | ((with_reducible refine gate_dst (N := 5) rfl ?_); refine box_event ?hg (N := 5) ?hd (cs := #[.slice none 0 0]) (t := 74) ?hr ?_; (case hd => rfl); (case hg => rfl); (case hr => first | (go_simp; done) | (go_simp; rfl)); intro gb506 hg w8 hbox hb; have BK506 := Aside0.mk (hbox); have GW506 := Aside0.mk ((by rw [hg]; exact (below_size bq) : w.heap.size ≤ gb506)); have GE506 := Aside0.mk ((by rw [hg]; exact (below_size bq) : w.heap.size ≤ gb506)); replace HB := Aside0.mk (below_step bq hb); have NB504_506 := Aside0.mk ((by rw [hg]; exact Nat.ne_of_lt (blk_lt (g := gb504) (o := .cells #[.slice (some ad505) l0_0.length c0_0, .slice A0_1 l0_1.length c0_1] 31 (0, 0)) (bk BK504)) : gb504 ≠ gb506)); have NB506_504 := Aside0.mk ((by rw [hg]; exact Nat.ne_of_gt (blk_lt (g := gb504) (o := .cells #[.slice (some ad505) l0_0.length c0_0, .slice A0_1 l0_1.length c0_1] 31 (0, 0)) (bk BK504)) : gb506 ≠ gb504)); replace BK504 := Aside0.mk (blk_below (g := gb504) (o := .cells #[.slice (some ad505) l0_0.length c0_0, .slice A0_1 l0_1.length c0_1] 31 (0, 0)) (bk BK504) hb); clear hb hbox hg; have hnb9 := NB506_504.out; have hnc9 := NB504_506.out; have hcz10_0 := bc0 BK506; have hfz10_0 := blk_frozen BK506.out 0; have p507 : 0 ≤ (0 : Int) := (by omega); have q507 : 0 < (((rd_T74 l0_0 x9_1).f0).length : Int) := ode; obtain ⟨ad507, e507, hx507_0⟩ := Kd.at_int HR505_0.out 0 p507 q507; cases e507; have qi507 : (0 < ((rd_T74 l0_0 x9_1).f0).length) = True := eq_true (by omega); (try rw [show ((0 : Int)).toNat = 0 from rfl] at hx507_0); (try rw [Addr.add_zero'] at hx507_0); have hn507_0 : ad507.block ≠ gb506 := Nat.ne_of_lt (Nat.lt_of_lt_of_le (by have := World.block_lt_of_cell? _ _ hx507_0; first | rwa [add_block] at this | exact this) GW506.out); replace hx507_0 := (HB.out.cell (World.block_lt_of_cell? w _ hx507_0)).trans hx507_0; replace hx507_0 := (cell_far (p := ⟨gb506, 0, none⟩) (by first | (rw [add_block]; exact hn507_0) | (show (Addr.add _ _).block ≠ _; rw [add_block]; exact hn507_0) | exact hn507_0) (.slice (some ad507) ((rd_T74 l0_0 x9_1).f0).length c505_0)).trans hx507_0; clear hn507_0; replace p507 := eq_true p507; replace q507 := eq_true q507))
    go_roundg k1
    case measure => have := HK1.out; omega
    case rel => exact ⟨(wrap64 (x3_1 + (rd ((rd_T74 l0_0 x9_1).f0) 0))), (wrap64 (x9_1 + 1)), (by first | rfl | (simp; done) | (simp [*]; done)), (by first | rfl | (simp; done) | (simp [*]; done)), H', ⟨by have := HK1.out; omega⟩, ⟨by (with_reducible repeat (first | refine blk_drewN ?_ _ | refine blk_drew ?_ | refine blk_alloc ?_ _)); refine blk_far ?_ NB504_506.out _; (with_reducible repeat (first | refine blk_drewN ?_ _ | refine blk_drew ?_ | refine blk_alloc ?_ _)); exact BK504.out⟩, ⟨bq⟩⟩
   ·rw [if_neg c4] at H
    have c4b0 : decide (x9_1 < (l0_0.length : Int)) = false := decide_eq_false c4
    clear c4
    obtain rfl := Option.some.inj H
    go_wp2
    go_ret
    exact ⟨eq_, bq⟩

/-! ### impl_decimal: function 24 -/
def impl_decimal.f (a0 : Int) : Option (ByteArray) := if -9223372036854775808 ≤ a0 then (if a0 ≤ 9223372036854775807 then (some ⟨(Lib.itoa a0).toArray⟩) else none) else none
theorem impl_decimal.calls (a0 : Int) (r : ByteArray) (w : World) (hG : Lib.TabIs Tryd.prog w "internal/strconv.uint64pow10" .u64 Lib.pow10Tab) (h : impl_decimal.f a0 = some r) :
  Calls Tryd.prog 24 #[.int .i64 a0] w fun e w' => e = .returned (.string r) ∧ Below w.heap.size w w' := by
 unfold impl_decimal.f at h
 by_cases h0 : -9223372036854775808 ≤ a0
 rotate_left
 ·rw [if_neg h0] at h
  exact absurd h (by simp)
 by_cases h1 : a0 ≤ 9223372036854775807
 rotate_left
 ·rw [if_pos h0, if_neg h1] at h
  exact absurd h (by simp)
 rw [if_pos h0, if_pos h1] at h
 obtain rfl := Option.some.inj h
 clear h
 have HC := fun W : World => fun hW => Tryd.strconv_FormatInt_10 a0 h0 h1 W hW
 clear h0 h1
 go_enter Tryd.func24, Tryd.ntmps24
 go_wp2_with (go_at_call 57; refine (HC _ hG).mono ?_; rintro e w' ⟨rfl, kk, os, rfl⟩)
 go_ret
 exact ⟨rfl, below_grow_drewN w kk os⟩

/-! ### slices_Max_int64_int64: function 25 -/
def slices_Max_int64_int64.l0 : Nat → List Int → Int → Int → Option (Int)
 | 0, _, _, _ => none
 | k + 1, x0, x3, x4 => if x4 < (x0.length : Int) then (if 0 ≤ x4 then (slices_Max_int64_int64.l0 k x0 (mx x3 (rd x0 x4)) (wrap64 (x4 + 1))) else (none)) else (some x3)
def slices_Max_int64_int64.f (k : Nat) (l0 : List Int) : Option (Int) := if (l0.length : Int) < 1 then (none) else (if 0 < (l0.length : Int) then (slices_Max_int64_int64.l0 k l0 (rd l0 0) 1) else (none))
set_option maxHeartbeats 8000000 in
set_option maxRecDepth 100000 in
theorem slices_Max_int64_int64.calls (k : Nat) (A0 : Option Addr) (c0 : Nat) (l0 : List Int) (r : Int) (w : World) (hr0 : Kd.C (Kd.int .i64) w A0 l0.length l0) (hc0 : l0.length ≤ c0) (h : slices_Max_int64_int64.f k l0 = some r) :
  Calls Tryd.prog 25 #[.slice A0 l0.length c0] w fun e w' => e = .returned (.int .i64 r) ∧ Below w.heap.size w w' := by
 have HR0 := Aside0.mk hr0
 have HC0 := Aside0.mk hc0
 clear hr0 hc0
 have HB := Aside0.mk (Below.refl w.heap.size w)
 have H : (if (l0.length : Int) < 1 then (none) else (if 0 < (l0.length : Int) then (slices_Max_int64_int64.l0 k l0 (rd l0 0) 1) else (none))) = some r := h
 clear h
 by_cases c2 : (l0.length : Int) < 1
 ·rw [if_pos c2] at H
  exact absurd H (by simp)
 ·rw [if_neg c2] at H
  have c2b0 : decide ((l0.length : Int) < 1) = false := decide_eq_false c2
  have c2b1 : decide (l0.length < 1) = false := decide_eq_false (by omega)
  clear c2
  by_cases c3 : 0 < (l0.length : Int)
  ·rw [if_pos c3] at H
   have c3b0 : decide (0 < (l0.length : Int)) = true := decide_eq_true c3
   have c3b1 : decide (0 < l0.length) = true := decide_eq_true (by omega)
   clear c3
   have H' := Aside0.mk H
   clear H
   have p508 : 0 ≤ (0 : Int) := (by omega)
   have q508 : 0 < (l0.length : Int) := ode
   obtain ⟨ad508, e508, hx508_0⟩ := Kd.at_int HR0.out 0 p508 q508
   cases e508
   have qi508 : (0 < l0.length) = True := eq_true (by omega)
   (try rw [show ((0 : Int)).toNat = 0 from rfl] at hx508_0)
   (try rw [Addr.add_zero'] at hx508_0)
   replace p508 := eq_true p508
   replace q508 := eq_true q508
   go_enter Tryd.func25, Tryd.ntmps25
   go_wp2
   go_loopg [3, 4] k (fun kq v3 v4 w' => ∃ (x3_1 : Int) (x4_1 : Int), v3 = .int .i64 x3_1 ∧ v4 = .int .i64 x4_1 ∧ Aside0 (slices_Max_int64_int64.l0 kq l0 x3_1 x4_1 = some r) ∧ Aside0 (kq ≤ k) ∧ Aside0 (Below w.heap.size w w'))
   case atStart => exact ⟨(rd l0 0), (1), (by first | rfl | (simp; done) | (simp [*]; done)), (by first | rfl | (simp; done) | (simp [*]; done)), H', ⟨Nat.le_refl _⟩, ⟨bq⟩⟩
   case round =>
    clear H'
    try clear c2
    try clear c2b0
    try clear c2b1
    try clear p2
    try clear c3
    try clear c3b0
    try clear c3b1
    try clear hx508_0
    try clear p508
    try clear q508
    obtain ⟨x3_1, x4_1, rfl, rfl, HA, HK1, HB⟩ := hrel
    cases gk with
    | zero => exact absurd HA.out (by simp [slices_Max_int64_int64.l0])
    | succ k1 =>
     have H := HA.out
     clear HA
     simp only [slices_Max_int64_int64.l0] at H
     by_cases c4 : x4_1 < (l0.length : Int)
     ·rw [if_pos c4] at H
      have c4b0 : decide (x4_1 < (l0.length : Int)) = true := decide_eq_true c4
      clear c4
      revert H
      refine ifr fun c5 H => ?_
      have c5b0 : decide (0 ≤ x4_1) = true := decide_eq_true c5
      clear c5
      obtain ⟨ji6, hji6⟩ : ∃ j_ : Int, (mx x3_1 (rd l0 x4_1)) = j_ := ⟨_, rfl⟩
      replace H : (slices_Max_int64_int64.l0 k1 l0 ji6 (wrap64 (x4_1 + 1))) = some r := by first | (rw [hji6] at H; exact H) | (simp only [hji6] at H ⊢; exact H)
      have hji6_ : (if x3_1 < (rd l0 x4_1) then (rd l0 x4_1) else x3_1) = ji6 := hji6
      have H' := Aside0.mk H
      clear H
      have p509 : 0 ≤ (x4_1 : Int) := ode
      have q509 : x4_1 < (l0.length : Int) := ode
      obtain ⟨ad509, e509, hx509_0⟩ := Kd.at_int HR0.out x4_1 p509 q509
      obtain rfl : ad508 = ad509 := (by injection e509)
      try replace hx509_0 := (HB.out.cell (World.block_lt_of_cell? w _ hx509_0)).trans hx509_0
      replace p509 := eq_true p509
      replace q509 := eq_true q509
      go_wp2
      go_roundg k1
      case measure => have := HK1.out; omega
      case rel => exact ⟨(ji6), (wrap64 (x4_1 + 1)), (by first | rfl | (simp; done) | (simp only [← hji6] <;> (first | rfl | simp)) | (simp [*]; done)), (by first | rfl | (simp; done) | (simp [*]; done)), H', ⟨by have := HK1.out; omega⟩, ⟨bq⟩⟩
     ·rw [if_neg c4] at H
      have c4b0 : decide (x4_1 < (l0.length : Int)) = false := decide_eq_false c4
      clear c4
      obtain rfl := Option.some.inj H
      go_wp2
      go_ret
      exact ⟨eq_, bq⟩
  ·rw [if_neg c3] at H
   exact absurd H (by simp)
end Go.Proofs.YtkfdfpcdcabcoaaDoor.QName
