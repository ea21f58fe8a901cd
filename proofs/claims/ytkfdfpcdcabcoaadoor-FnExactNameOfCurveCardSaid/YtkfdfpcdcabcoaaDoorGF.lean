/- Walks: the printed functions, and that each call comes to them (6). -/
import Derived.Test.YtkfdfpcdcabcoaaDoorV
import Derived.Test.YtkfdfpcdcabcoaaDoorGA
import Derived.Test.YtkfdfpcdcabcoaaDoorGB
namespace Go.Proofs.YtkfdfpcdcabcoaaDoor.QName
open Go.RowKit Go.Proofs.YtkfdfpcdcabcoaaDoorW.PrintWords Go.Proofs.YtkfdfpcdcabcoaaDoorW.PrintLast Go.Proofs.YtkfdfpcdcabcoaaDoorW.PrintMore
attribute [local go_sem] max2_int min2_int max_two min_two max_three min_three max_four min_four
set_option linter.unusedVariables false
set_option linter.unusedSimpArgs false

/-! ### spec_l04Delta: function 101 -/
def spec_l04Delta.l0 : Nat → List (List Int) → Int → Int → Option (Int)
 | 0, _, _, _ => none
 | k + 1, x3, x4, x5 => if x5 < (x3.length : Int) then (if 0 ≤ x5 then (if 0 < ((rd_L1 x3 x5).length : Int) then (if 1 < ((rd_L1 x3 x5).length : Int) then (spec_l04Delta.l0 k x3 (wrap64 (x4 + (wrap64 ((rd (rd_L1 x3 x5) 0) * (wrap64 (Int.tdiv (wrap64 ((rd (rd_L1 x3 x5) 1) * (wrap64 ((rd (rd_L1 x3 x5) 1) - 1)))) 2)))))) (wrap64 (x5 + 1))) else (none)) else (none)) else (none)) else (some x4)
def spec_l04Delta.f (k : Nat) (l0_0 : List Int) : Option (Int) := (spec_l04Runs.f k l0_0).bind fun t230 => (spec_l04Delta.l0 k t230 0 0)
set_option maxHeartbeats 8000000 in
set_option maxRecDepth 100000 in
theorem spec_l04Delta.calls (k : Nat) (A0_0 : Option Addr) (c0_0 : Nat) (l0_0 : List Int) (r : Int) (w : World) (hr0_0 : Kd.C (Kd.int .i64) w A0_0 l0_0.length l0_0) (hc0_0 : l0_0.length ≤ c0_0) (h : spec_l04Delta.f k l0_0 = some r) :
  Calls Tryd.prog 101 #[.agg #[.slice A0_0 l0_0.length c0_0]] w fun e w' => e = .returned (.int .i64 r) ∧ Below w.heap.size w w' := by
 have hu74 := Tryd.underlying74
 have HR0_0 := Aside0.mk hr0_0
 have HC0_0 := Aside0.mk hc0_0
 clear hr0_0 hc0_0
 have HB := Aside0.mk (Below.refl w.heap.size w)
 have H : ((spec_l04Runs.f k l0_0).bind fun t230 => (spec_l04Delta.l0 k t230 0 0)) = some r := h
 clear h
 replace H := Option.bind_eq_some_iff.mp H
 obtain ⟨t230, A20, H⟩ := H
 replace H : (spec_l04Delta.l0 k t230 0 0) = some r := H
 have A2 := Aside0.mk A20
 clear A20
 have H' := Aside0.mk H
 clear H
 go_enter Tryd.func101, Tryd.ntmps101
 go_wp2_with (first | ((with_reducible refine gate_dst (N := 1) rfl ?_); refine box_event ?hg (N := 1) ?hd (cs := #[.slice A0_0 l0_0.length c0_0]) (t := 74) ?hr ?_; (case hd => rfl); (case hg => rfl); (case hr => first | (go_simp; done) | (go_simp; rfl)); intro gb229 hg w3 hbox hb; have BK229 := Aside0.mk (hbox); have GW229 := Aside0.mk ((by rw [hg]; exact (below_size bq) : w.heap.size ≤ gb229)); have GE229 := Aside0.mk ((by rw [hg]; exact (below_size bq) : w.heap.size ≤ gb229)); replace HB := Aside0.mk (below_step bq hb); clear hb hbox hg; have hcz4_0 := bc0 BK229; have hfz4_0 := blk_frozen BK229.out 0) | (go_at_call 111; (with_reducible refine (spec_l04Runs.calls k _ _ l0_0 t230 _ ?side1 ?side2 A2.out).mono ?_); (case side1 => exact kc HR0_0); (case side2 => exact HC0_0.out); rintro e w5 ⟨v231, rfl, ho0, hb⟩; have HO232 := Aside0.mk (Kd.N_lower (Kd.N_mono (ok' := fun k_ => k_ ≠ gb229) ho0 (fun k_ hk_ => (Kd.freshB (g := gb229) (o := .cells #[.slice A0_0 l0_0.length c0_0] 74 (0, 0)) (bk BK229) k_ hk_))) (below_size bq)); replace BK229 := Aside0.mk (blk_below (g := gb229) (o := .cells #[.slice A0_0 l0_0.length c0_0] 74 (0, 0)) (bk BK229) hb); replace HB := Aside0.mk (below_step bq hb); (try clear hb); (try clear ho0)))
 repeat (go_quiet (first | ((with_reducible refine gate_dst (N := 1) rfl ?_); refine box_event ?hg (N := 1) ?hd (cs := #[.slice A0_0 l0_0.length c0_0]) (t := 74) ?hr ?_; (case hd => rfl); (case hg => rfl); (case hr => first | (go_simp; done) | (go_simp; rfl)); intro gb229 hg w3 hbox hb; have BK229 := Aside0.mk (hbox); have GW229 := Aside0.mk ((by rw [hg]; exact (below_size bq) : w.heap.size ≤ gb229)); have GE229 := Aside0.mk ((by rw [hg]; exact (below_size bq) : w.heap.size ≤ gb229)); replace HB := Aside0.mk (below_step bq hb); clear hb hbox hg; have hcz4_0 := bc0 BK229; have hfz4_0 := blk_frozen BK229.out 0) | (go_at_call 111; (with_reducible refine (spec_l04Runs.calls k _ _ l0_0 t230 _ ?side1 ?side2 A2.out).mono ?_); (case side1 => exact kc HR0_0); (case side2 => exact HC0_0.out); rintro e w5 ⟨v231, rfl, ho0, hb⟩; have HO232 := Aside0.mk (Kd.N_lower (Kd.N_mono (ok' := fun k_ => k_ ≠ gb229) ho0 (fun k_ hk_ => (Kd.freshB (g := gb229) (o := .cells #[.slice A0_0 l0_0.length c0_0] 74 (0, 0)) (bk BK229) k_ hk_))) (below_size bq)); replace BK229 := Aside0.mk (blk_below (g := gb229) (o := .cells #[.slice A0_0 l0_0.length c0_0] 74 (0, 0)) (bk BK229) hb); replace HB := Aside0.mk (below_step bq hb); (try clear hb); (try clear ho0))); try go_wp2_with (first | ((with_reducible refine gate_dst (N := 1) rfl ?_); refine box_event ?hg (N := 1) ?hd (cs := #[.slice A0_0 l0_0.length c0_0]) (t := 74) ?hr ?_; (case hd => rfl); (case hg => rfl); (case hr => first | (go_simp; done) | (go_simp; rfl)); intro gb229 hg w3 hbox hb; have BK229 := Aside0.mk (hbox); have GW229 := Aside0.mk ((by rw [hg]; exact (below_size bq) : w.heap.size ≤ gb229)); have GE229 := Aside0.mk ((by rw [hg]; exact (below_size bq) : w.heap.size ≤ gb229)); replace HB := Aside0.mk (below_step bq hb); clear hb hbox hg; have hcz4_0 := bc0 BK229; have hfz4_0 := blk_frozen BK229.out 0) | (go_at_call 111; (with_reducible refine (spec_l04Runs.calls k _ _ l0_0 t230 _ ?side1 ?side2 A2.out).mono ?_); (case side1 => exact kc HR0_0); (case side2 => exact HC0_0.out); rintro e w5 ⟨v231, rfl, ho0, hb⟩; have HO232 := Aside0.mk (Kd.N_lower (Kd.N_mono (ok' := fun k_ => k_ ≠ gb229) ho0 (fun k_ hk_ => (Kd.freshB (g := gb229) (o := .cells #[.slice A0_0 l0_0.length c0_0] 74 (0, 0)) (bk BK229) k_ hk_))) (below_size bq)); replace BK229 := Aside0.mk (blk_below (g := gb229) (o := .cells #[.slice A0_0 l0_0.length c0_0] 74 (0, 0)) (bk BK229) hb); replace HB := Aside0.mk (below_step bq hb); (try clear hb); (try clear ho0))))
 go_loopg [4, 5] k (fun kq v4 v5 w' => ∃ (x4_1 : Int) (x5_1 : Int), v4 = .int .i64 x4_1 ∧ v5 = .int .i64 x5_1 ∧ Aside0 (spec_l04Delta.l0 kq t230 x4_1 x5_1 = some r) ∧ Aside0 (kq ≤ k) ∧ Aside0 (Kd.N (Kd.slice 2 (Kd.int .i64)) 35 w' w.heap.size (fun k_ => k_ ≠ gb229) v231 t230) ∧ Aside0 (w'.heap[gb229]? = some (.cells #[(.slice A0_0 l0_0.length c0_0)] 74 (0, 0))) ∧ Aside0 (Below w.heap.size w w'))
 case atStart => exact ⟨(0), (0), (by first | rfl | (simp; done) | (simp [*]; done)), (by first | rfl | (simp; done) | (simp [*]; done)), H', ⟨Nat.le_refl _⟩, ⟨by (with_reducible repeat (first | apply Kd.N_alloc | apply Kd.N_drewN | apply Kd.N_drew)); exact HO232.out⟩, ⟨bk BK229⟩, ⟨bq⟩⟩
 case round =>
  clear H'
  try clear c1
  try clear p2
  try clear hcz4_0
  try clear hfz4_0
  obtain ⟨x4_1, x5_1, rfl, rfl, HA, HK1, HO_3, BK229, HB⟩ := hrel
  cases gk with
  | zero => exact absurd HA.out (by simp [spec_l04Delta.l0])
  | succ k1 =>
   have H := HA.out
   clear HA
   simp only [spec_l04Delta.l0] at H
   by_cases c6 : x5_1 < (t230.length : Int)
   ·rw [if_pos c6] at H
    have c6b0 : decide (x5_1 < (t230.length : Int)) = true := decide_eq_true c6
    clear c6
    revert H
    refine ifr fun c7 H => ?_
    have c7b0 : decide (0 ≤ x5_1) = true := decide_eq_true c7
    clear c7
    revert H
    refine ifr fun c8 H => ?_
    have c8b0 : decide (0 < ((rd_L1 t230 x5_1).length : Int)) = true := decide_eq_true c8
    have c8b1 : decide (0 < (rd_L1 t230 x5_1).length) = true := decide_eq_true (by omega)
    clear c8
    revert H
    refine ifr fun c9 H => ?_
    have c9b0 : decide (1 < ((rd_L1 t230 x5_1).length : Int)) = true := decide_eq_true c9
    have c9b1 : decide (1 < (rd_L1 t230 x5_1).length) = true := decide_eq_true (by omega)
    clear c9
    have H' := Aside0.mk H
    clear H
    obtain ⟨Ao10, co10, eo10⟩ := Kd.N_slice HO_3.out
    subst eo10
    have p233 : 0 ≤ (x5_1 : Int) := ode
    have q233 : x5_1 < (t230.length : Int) := ode
    obtain ⟨ad233, A233_0, c233_0, e233, hx233_0, hl233_0, hi233_0⟩ := at_L1 (Kd.N_reads' HO_3.out).2.2 x5_1 p233 q233
    cases e233
    obtain ⟨ce233, hce233, hMe233, hcc233⟩ := Kd.N_get HO_3.out [] x5_1 p233 (by first | exact q233 | exact ode | (have e_ := (Kd.N_reads' HO_3.out).1; omega))
    obtain ⟨ua233_0, uc233_0, rfl, ul233_0, ge233_0⟩ := Kd.FK_slice_open hMe233
    have hv233_0 := hcc233 0 _ rfl
    rw [Nat.add_zero, show ((Kd.slice 2 (Kd.int .i64))).sz = 1 from rfl, Nat.mul_one] at hv233_0
    replace hv233_0 := Option.some.inj (hv233_0.symm.trans hx233_0)
    injection hv233_0 with hva_ hvn_ hvc_
    rw [hva_] at ge233_0
    rw [hvc_] at ul233_0
    have HL233_0 := Aside0.mk (show Kd.V (Kd.int .i64) 2 _ w.heap.size _ _ (rd_L1 t230 x5_1) from Kd.V_mk ul233_0 ge233_0)
    clear hva_ hvn_ hvc_ ge233_0 ul233_0
    clear hcc233 hce233
    have HR233_0 := Aside0.mk hi233_0
    have HC233_0 := Aside0.mk hl233_0
    clear hi233_0 hl233_0
    replace p233 := eq_true p233
    replace q233 := eq_true q233
    have p234 : 0 ≤ (0 : Int) := (by omega)
    have q234 : 0 < ((rd_L1 t230 x5_1).length : Int) := ode
    obtain ⟨ad234, e234, hx234_0⟩ := Kd.at_int (by repeat (first | (with_reducible exact HR233_0.out) | (with_reducible refine Kd.C_alloc ?_ _) | (with_reducible refine Kd.C_drewN ?_ _) | (with_reducible refine Kd.C_drew ?_) | exact HR233_0.out)) 0 p234 q234
    cases e234
    have qi234 : (0 < (rd_L1 t230 x5_1).length) = True := eq_true (by omega)
    (try rw [show ((0 : Int)).toNat = 0 from rfl] at hx234_0)
    (try rw [Addr.add_zero'] at hx234_0)
    replace p234 := eq_true p234
    replace q234 := eq_true q234
    have p235 : 0 ≤ (x5_1 : Int) := ode
    have q235 : x5_1 < (t230.length : Int) := ode
    obtain ⟨ad235, A235_0, c235_0, e235, hx235_0, hl235_0, hi235_0⟩ := at_L1 (Kd.N_reads' HO_3.out).2.2 x5_1 p235 q235
    obtain rfl : ad233 = ad235 := (by injection e235)
    obtain ⟨ce235, hce235, hMe235, hcc235⟩ := Kd.N_get HO_3.out [] x5_1 p235 (by first | exact q235 | exact ode | (have e_ := (Kd.N_reads' HO_3.out).1; omega))
    obtain ⟨ua235_0, uc235_0, rfl, ul235_0, ge235_0⟩ := Kd.FK_slice_open hMe235
    have hv235_0 := hcc235 0 _ rfl
    rw [Nat.add_zero, show ((Kd.slice 2 (Kd.int .i64))).sz = 1 from rfl, Nat.mul_one] at hv235_0
    replace hv235_0 := Option.some.inj (hv235_0.symm.trans hx235_0)
    injection hv235_0 with hva_ hvn_ hvc_
    rw [hva_] at ge235_0
    rw [hvc_] at ul235_0
    have HL235_0 := Aside0.mk (show Kd.V (Kd.int .i64) 2 _ w.heap.size _ _ (rd_L1 t230 x5_1) from Kd.V_mk ul235_0 ge235_0)
    clear hva_ hvn_ hvc_ ge235_0 ul235_0
    clear hcc235 hce235
    have HR235_0 := Aside0.mk hi235_0
    have HC235_0 := Aside0.mk hl235_0
    clear hi235_0 hl235_0
    replace p235 := eq_true p235
    replace q235 := eq_true q235
    have ea_ := Option.some.inj (hx233_0.symm.trans hx235_0)
    injection ea_ with ea_ en_ ec_
    subst ea_
    subst ec_
    clear en_
    have p236 : 0 ≤ (1 : Int) := (by omega)
    have q236 : 1 < ((rd_L1 t230 x5_1).length : Int) := ode
    obtain ⟨ad236, e236, hx236_0⟩ := Kd.at_int (by repeat (first | (with_reducible exact HR235_0.out) | (with_reducible refine Kd.C_alloc ?_ _) | (with_reducible refine Kd.C_drewN ?_ _) | (with_reducible refine Kd.C_drew ?_) | exact HR235_0.out)) 1 p236 q236
    cases e236
    (try simp only [show (1 : Int).toNat = 1 from rfl, Nat.reduceMul, Nat.reduceEqDiff, Go.Addr.add, ↓reduceIte] at hx236_0)
    have qi236 : (1 < (rd_L1 t230 x5_1).length) = True := eq_true (by omega)
    (try rw [show ((1 : Int)).toNat = 1 from rfl] at hx236_0)
    replace p236 := eq_true p236
    replace q236 := eq_true q236
    have p237 : 0 ≤ (x5_1 : Int) := ode
    have q237 : x5_1 < (t230.length : Int) := ode
    obtain ⟨ad237, A237_0, c237_0, e237, hx237_0, hl237_0, hi237_0⟩ := at_L1 (Kd.N_reads' HO_3.out).2.2 x5_1 p237 q237
    obtain rfl : ad233 = ad237 := (by injection e237)
    obtain ⟨ce237, hce237, hMe237, hcc237⟩ := Kd.N_get HO_3.out [] x5_1 p237 (by first | exact q237 | exact ode | (have e_ := (Kd.N_reads' HO_3.out).1; omega))
    obtain ⟨ua237_0, uc237_0, rfl, ul237_0, ge237_0⟩ := Kd.FK_slice_open hMe237
    have hv237_0 := hcc237 0 _ rfl
    rw [Nat.add_zero, show ((Kd.slice 2 (Kd.int .i64))).sz = 1 from rfl, Nat.mul_one] at hv237_0
    replace hv237_0 := Option.some.inj (hv237_0.symm.trans hx237_0)
    injection hv237_0 with hva_ hvn_ hvc_
    rw [hva_] at ge237_0
    rw [hvc_] at ul237_0
    have HL237_0 := Aside0.mk (show Kd.V (Kd.int .i64) 2 _ w.heap.size _ _ (rd_L1 t230 x5_1) from Kd.V_mk ul237_0 ge237_0)
    clear hva_ hvn_ hvc_ ge237_0 ul237_0
    clear hcc237 hce237
    have HR237_0 := Aside0.mk hi237_0
    have HC237_0 := Aside0.mk hl237_0
    clear hi237_0 hl237_0
    replace p237 := eq_true p237
    replace q237 := eq_true q237
    have ea_ := Option.some.inj (hx233_0.symm.trans hx237_0)
    injection ea_ with ea_ en_ ec_
    subst ea_
    subst ec_
    clear en_
    have p238 : 0 ≤ (1 : Int) := (by omega)
    have q238 : 1 < ((rd_L1 t230 x5_1).length : Int) := ode
    obtain ⟨ad238, e238, hx238_0⟩ := Kd.at_int (by repeat (first | (with_reducible exact HR237_0.out) | (with_reducible refine Kd.C_alloc ?_ _) | (with_reducible refine Kd.C_drewN ?_ _) | (with_reducible refine Kd.C_drew ?_) | exact HR237_0.out)) 1 p238 q238
    cases e238
    (try simp only [show (1 : Int).toNat = 1 from rfl, Nat.reduceMul, Nat.reduceEqDiff, Go.Addr.add, ↓reduceIte] at hx238_0)
    have qi238 : (1 < (rd_L1 t230 x5_1).length) = True := eq_true (by omega)
    (try rw [show ((1 : Int)).toNat = 1 from rfl] at hx238_0)
    replace p238 := eq_true p238
    replace q238 := eq_true q238
    go_wp2
    repeat (go_quiet (fail); try go_wp2)
    go_roundg k1
    case measure => have := HK1.out; omega
    case rel => exact ⟨(wrap64 (x4_1 + (wrap64 ((rd (rd_L1 t230 x5_1) 0) * (wrap64 (Int.tdiv (wrap64 ((rd (rd_L1 t230 x5_1) 1) * (wrap64 ((rd (rd_L1 t230 x5_1) 1) - 1)))) 2)))))), (wrap64 (x5_1 + 1)), (by first | rfl | (simp; done) | (simp [*]; done)), (by first | rfl | (simp; done) | (simp [*]; done)), H', ⟨by have := HK1.out; omega⟩, ⟨by (with_reducible repeat (first | apply Kd.N_alloc | apply Kd.N_drewN | apply Kd.N_drew)); exact HO_3.out⟩, ⟨bk BK229⟩, ⟨bq⟩⟩
   ·rw [if_neg c6] at H
    have c6b0 : decide (x5_1 < (t230.length : Int)) = false := decide_eq_false c6
    clear c6
    obtain rfl := Option.some.inj H
    obtain ⟨Ao11, co11, eo11⟩ := Kd.N_slice HO_3.out
    subst eo11
    go_wp2
    repeat (go_quiet (fail); try go_wp2)
    go_ret
    exact ⟨eq_, bq⟩

/-! ### spec_l07Product: function 116 -/
def spec_l07Product.l0 : Nat → List Int → List Int → Int → Int → Option (Int)
 | 0, _, _, _, _ => none
 | k + 1, x0, x1, x5, x6 => if x6 < (x0.length : Int) then (if 0 ≤ x6 then (if x6 < (x1.length : Int) then (spec_l07Product.l0 k x0 x1 (wrap64 (x5 + (wrap64 ((rd x0 x6) * (rd x1 x6))))) (wrap64 (x6 + 1))) else (none)) else (none)) else (some x5)
def spec_l07Product.f (k : Nat) (l0 : List Int) (l1 : List Int) : Option (Int) := spec_l07Product.l0 k l0 l1 0 0
set_option maxHeartbeats 8000000 in
set_option maxRecDepth 100000 in
theorem spec_l07Product.calls (k : Nat) (A0 : Option Addr) (c0 : Nat) (l0 : List Int) (A1 : Option Addr) (c1 : Nat) (l1 : List Int) (r : Int) (w : World) (hr0 : Kd.C (Kd.int .i64) w A0 l0.length l0) (hc0 : l0.length ≤ c0) (hr1 : Kd.C (Kd.int .i64) w A1 l1.length l1) (hc1 : l1.length ≤ c1) (h : spec_l07Product.f k l0 l1 = some r) :
  Calls Tryd.prog 116 #[.slice A0 l0.length c0, .slice A1 l1.length c1] w fun e w' => e = .returned (.int .i64 r) ∧ Drawn0 w w' := by
 have HR0 := Aside0.mk hr0
 have HC0 := Aside0.mk hc0
 clear hr0 hc0
 have HR1 := Aside0.mk hr1
 have HC1 := Aside0.mk hc1
 clear hr1 hc1
 have H : (spec_l07Product.l0 k l0 l1 0 0) = some r := h
 clear h
 have H' := Aside0.mk H
 clear H
 go_enter Tryd.func116, Tryd.ntmps116
 go_wp2
 repeat (go_quiet (fail); try go_wp2)
 go_loopg [5, 6] k (fun kq v5 v6 w' => ∃ (x5_1 : Int) (x6_1 : Int), v5 = .int .i64 x5_1 ∧ v6 = .int .i64 x6_1 ∧ Aside0 (spec_l07Product.l0 kq l0 l1 x5_1 x6_1 = some r) ∧ Aside0 (kq ≤ k) ∧ Drawn0 w w')
 case atStart => exact ⟨(0), (0), (by first | rfl | (simp; done) | (simp [*]; done)), (by first | rfl | (simp; done) | (simp [*]; done)), H', ⟨Nat.le_refl _⟩, by repeat (first | exact Drawn0.refl _ | apply Drawn0.step)⟩
 case round =>
  clear H'
  try clear c1
  try clear p2
  obtain ⟨x5_1, x6_1, rfl, rfl, HA, HK1, ⟨m1, rfl⟩⟩ := hrel
  cases gk with
  | zero => exact absurd HA.out (by simp [spec_l07Product.l0])
  | succ k1 =>
   have H := HA.out
   clear HA
   simp only [spec_l07Product.l0] at H
   by_cases c3 : x6_1 < (l0.length : Int)
   ·rw [if_pos c3] at H
    have c3b0 : decide (x6_1 < (l0.length : Int)) = true := decide_eq_true c3
    clear c3
    revert H
    refine ifr fun c4 H => ?_
    have c4b0 : decide (0 ≤ x6_1) = true := decide_eq_true c4
    clear c4
    revert H
    refine ifr fun c5 H => ?_
    have c5b0 : decide (x6_1 < (l1.length : Int)) = true := decide_eq_true c5
    clear c5
    have H' := Aside0.mk H
    clear H
    have p239 : 0 ≤ (x6_1 : Int) := ode
    have q239 : x6_1 < (l0.length : Int) := ode
    obtain ⟨ad239, e239, hx239_0⟩ := Kd.at_int HR0.out x6_1 p239 q239
    cases e239
    replace p239 := eq_true p239
    replace q239 := eq_true q239
    have p240 : 0 ≤ (x6_1 : Int) := ode
    have q240 : x6_1 < (l1.length : Int) := ode
    obtain ⟨ad240, e240, hx240_0⟩ := Kd.at_int HR1.out x6_1 p240 q240
    cases e240
    replace p240 := eq_true p240
    replace q240 := eq_true q240
    go_wp2
    repeat (go_quiet (fail); try go_wp2)
    go_roundg k1
    case measure => have := HK1.out; omega
    case rel => exact ⟨(wrap64 (x5_1 + (wrap64 ((rd l0 x6_1) * (rd l1 x6_1))))), (wrap64 (x6_1 + 1)), (by first | rfl | (simp; done) | (simp [*]; done)), (by first | rfl | (simp; done) | (simp [*]; done)), H', ⟨by have := HK1.out; omega⟩, by repeat (first | exact Drawn0.refl _ | apply Drawn0.step)⟩
   ·rw [if_neg c3] at H
    have c3b0 : decide (x6_1 < (l0.length : Int)) = false := decide_eq_false c3
    clear c3
    obtain rfl := Option.some.inj H
    go_wp2
    repeat (go_quiet (fail); try go_wp2)
    go_ret
    exact ⟨by first | rfl | (simp; done) | (simp [*]; done), by repeat (first | exact Drawn0.refl _ | apply Drawn0.step)⟩

/-! ### spec_l09Meet: function 102 -/
def spec_l09Meet.f (k : Nat) (l0_0 : List Int) (l1_0 : List Int) (a2 : Int) : Option (Int) := (spec_l06Sequence.f k l0_0 a2).bind fun t243 => ((spec_l06Sequence.f k l1_0 a2).bind fun t246 => ((spec_l07Product.f k t243 t246).bind fun t249 => (some t249)))
def spec_l09Meet.T1 : Bool × List (List Nat × List Nat) := (true, [([], []), ([], []), ([0, 1], [0, 1]), ([], []), ([], []), ([3, 4, 2], [3, 4]), ([2, 5, 5], [2, 5]), ([6, 6, 0, 1, 2, 3, 4, 5, 6], [6])])
def spec_l09Meet.B1 : List Nat := [0, 0, 3, 0, 0, 31, 63, 127]
theorem spec_l09Meet.tab1 : rtab .any (opsOf Tryd.f102 1) = spec_l09Meet.T1 := by kernel_rfl
theorem spec_l09Meet.bits1 : waitsOk spec_l09Meet.T1.2 spec_l09Meet.B1 = true := by kernel_rfl
set_option maxHeartbeats 8000000 in
set_option maxRecDepth 100000 in
theorem spec_l09Meet.calls (k : Nat) (A0_0 : Option Addr) (c0_0 : Nat) (l0_0 : List Int) (A1_0 : Option Addr) (c1_0 : Nat) (l1_0 : List Int) (a2 : Int) (r : Int) (w : World) (hr0_0 : Kd.C (Kd.int .i64) w A0_0 l0_0.length l0_0) (hc0_0 : l0_0.length ≤ c0_0) (hr1_0 : Kd.C (Kd.int .i64) w A1_0 l1_0.length l1_0) (hc1_0 : l1_0.length ≤ c1_0) (h : spec_l09Meet.f k l0_0 l1_0 a2 = some r) :
  Calls Tryd.prog 102 #[.agg #[.slice A0_0 l0_0.length c0_0], .agg #[.slice A1_0 l1_0.length c1_0], .int .i64 a2] w fun e w' => e = .returned (.int .i64 r) ∧ Below w.heap.size w w' := by
 have hu74 := Tryd.underlying74
 have HR0_0 := Aside0.mk hr0_0
 have HC0_0 := Aside0.mk hc0_0
 clear hr0_0 hc0_0
 have HR1_0 := Aside0.mk hr1_0
 have HC1_0 := Aside0.mk hc1_0
 clear hr1_0 hc1_0
 have HB := Aside0.mk (Below.refl w.heap.size w)
 have H : ((spec_l06Sequence.f k l0_0 a2).bind fun t243 => ((spec_l06Sequence.f k l1_0 a2).bind fun t246 => ((spec_l07Product.f k t243 t246).bind fun t249 => (some t249)))) = some r := h
 clear h
 replace H := Option.bind_eq_some_iff.mp H
 obtain ⟨t243, A40, H⟩ := H
 replace H : ((spec_l06Sequence.f k l1_0 a2).bind fun t246 => ((spec_l07Product.f k t243 t246).bind fun t249 => (some t249))) = some r := H
 have A4 := Aside0.mk A40
 clear A40
 replace H := Option.bind_eq_some_iff.mp H
 obtain ⟨t246, A50, H⟩ := H
 replace H : ((spec_l07Product.f k t243 t246).bind fun t249 => (some t249)) = some r := H
 have A5 := Aside0.mk A50
 clear A50
 replace H := Option.bind_eq_some_iff.mp H
 obtain ⟨t249, A60, H⟩ := H
 replace H : (some t249) = some r := H
 have A6 := Aside0.mk A60
 clear A60
 obtain rfl := Option.some.inj H
 go_enter Tryd.func102, Tryd.ntmps102
 try go_wp2_with (first | ((with_reducible refine gate_dst (N := 3) rfl ?_); refine box_event ?hg (N := 3) ?hd (cs := #[.slice A0_0 l0_0.length c0_0]) (t := 74) ?hr ?_; (case hd => rfl); (case hg => rfl); (case hr => first | (go_simp; done) | (go_simp; rfl)); intro gb241 hg w7 hbox hb; have BK241 := Aside0.mk (hbox); have GW241 := Aside0.mk ((by rw [hg]; exact (below_size bq) : w.heap.size ≤ gb241)); have GE241 := Aside0.mk ((by rw [hg]; exact (below_size bq) : w.heap.size ≤ gb241)); replace HB := Aside0.mk (below_step bq hb); clear hb hbox hg) | ((with_reducible refine gate_dst (N := 4) rfl ?_); refine box_event ?hg (N := 4) ?hd (cs := #[.slice A1_0 l1_0.length c1_0]) (t := 74) ?hr ?_; (case hd => rfl); (case hg => rfl); (case hr => first | (go_simp; done) | (go_simp; rfl)); intro gb242 hg w8 hbox hb; have BK242 := Aside0.mk (hbox); have GW242 := Aside0.mk ((by rw [hg]; exact (below_size bq) : w.heap.size ≤ gb242)); have GE242 := Aside0.mk ((by rw [hg]; exact (below_size bq) : w.heap.size ≤ gb242)); replace HB := Aside0.mk (below_step bq hb); have NB241_242 := Aside0.mk ((by rw [hg]; exact Nat.ne_of_lt (blk_lt (g := gb241) (o := .cells #[.slice A0_0 l0_0.length c0_0] 74 (0, 0)) (bk BK241)) : gb241 ≠ gb242)); have NB242_241 := Aside0.mk ((by rw [hg]; exact Nat.ne_of_gt (blk_lt (g := gb241) (o := .cells #[.slice A0_0 l0_0.length c0_0] 74 (0, 0)) (bk BK241)) : gb242 ≠ gb241)); replace BK241 := Aside0.mk (blk_below (g := gb241) (o := .cells #[.slice A0_0 l0_0.length c0_0] 74 (0, 0)) (bk BK241) hb); clear hb hbox hg))
 have n0_ := Aside0.mk (blk_drew BK241.out)
 have n1_ := Aside0.mk (blk_drew BK242.out)
 have n2_ := Aside0.mk (below_drew1 HB.out)
 clear BK241
 clear BK242
 clear HB
 have BK241 := n0_
 have BK242 := n1_
 have HB := n2_
 clear n0_ n1_ n2_
 refine start_ (n := 8) (S := fun w' => w'.cell? ⟨gb241, 0, none⟩ = some (.slice A0_0 l0_0.length c0_0) ∧ w'.cell? ⟨gb242, 0, none⟩ = some (.slice A1_0 l1_0.length c1_0)) (ds := []) (bA 8 0) (by kernel_rfl) rfl (by kernel_rfl) ⟨(blk_cell BK241.out 0).trans rfl, (blk_cell BK242.out 0).trans rfl⟩ (fun hHeld => ?_); refine with_tabW spec_l09Meet.tab1 spec_l09Meet.bits1 (fun HT_ HW_ => ?_)
 generalize w8.drew = w9 at BK241 BK242 HB hHeld ⊢
 refine pu HT_ 1 8 2 ?_
 refine pu HT_ 4 11 18 ?_
 refine tk2 HT_ HW_ hHeld 0 7 19 ?_
 refine tk2 HT_ HW_ hHeld 3 10 27 ?_
 refine one_ (i := 2) (N := some 9) (bA 8 31) rfl rfl (one_of HT_.out (by kernel_rfl)) (by decide) (fun K hK => ?_)
 refine goes_ Tryd.func92 (by kernel_rfl) rfl #[.agg #[.slice A0_0 l0_0.length c0_0], .int .i64 a2] (by rfl) rfl rfl (by (try simp only [List.map_toArray, List.map_cons, List.map_nil]); first | done | rfl | (simp only [List.length_drop, List.length_take]; rfl)) ?_
 with_reducible refine (spec_l06Sequence.calls k _ _ l0_0 a2 t243 _ ?side1 ?side2 A4.out).mono ?_
 (case side1 => exact kc HR0_0)
 (case side2 => exact HC0_0.out)
 rintro e w10 ⟨v244, rfl, ho0, hb⟩
 refine ⟨_, rfl, ?_⟩
 have n0_ := Aside0.mk (Kd.R_lower ho0 (below_size bq))
 have n1_ := Aside0.mk (blk_below (g := gb241) (o := .cells #[.slice A0_0 l0_0.length c0_0] 74 (0, 0)) (bk BK241) hb)
 have n2_ := Aside0.mk (blk_below (g := gb242) (o := .cells #[.slice A1_0 l1_0.length c1_0] 74 (0, 0)) (bk BK242) hb)
 have n3_ := Aside0.mk (below_step bq hb)
 clear BK241
 clear BK242
 clear HB
 have HO245 := n0_
 have BK241 := n1_
 have BK242 := n2_
 have HB := n3_
 clear n0_ n1_ n2_ n3_
 
 
 
 
 (try clear ho0)
 refine hK.out _ _ ⟨(blk_cell BK241.out 0).trans rfl, (blk_cell BK242.out 0).trans rfl⟩ (fun hHeld => ?_)
 clear hK K
 refine norm_ (a' := ?_) ?_ ?_
 rotate_left
 ·show Act.put _ (some 9) _ = _
  simp only [Act.put, List.setIfInBounds_toArray, List.set_cons_zero, List.set_cons_succ, i64_w, i32_w]
  rfl
 refine one_ (i := 5) (N := some 12) (bA 8 63) rfl rfl (one_of HT_.out (by kernel_rfl)) (by decide) (fun K hK => ?_)
 refine goes_ Tryd.func92 (by kernel_rfl) rfl #[.agg #[.slice A1_0 l1_0.length c1_0], .int .i64 a2] (by rfl) rfl rfl (by (try simp only [List.map_toArray, List.map_cons, List.map_nil]); first | done | rfl | (simp only [List.length_drop, List.length_take]; rfl)) ?_
 with_reducible refine (spec_l06Sequence.calls k _ _ l1_0 a2 t246 _ ?side1 ?side2 A5.out).mono ?_
 (case side1 => exact kc HR1_0)
 (case side2 => exact HC1_0.out)
 rintro e w11 ⟨v247, rfl, ho0, hb⟩
 refine ⟨_, rfl, ?_⟩
 have n0_ := Aside0.mk (Kd.R_elder' (by (with_reducible repeat (first | apply Kd.R_alloc | apply Kd.R_drewN | apply Kd.R_drew)); exact HO245.out) (Kd.R_base ho0) hb)
 have n1_ := Aside0.mk (Kd.R_lower (Kd.R_new' ho0 (Kd.R_lt (by (with_reducible repeat (first | apply Kd.R_alloc | apply Kd.R_drewN | apply Kd.R_drew)); exact HO245.out))) (below_size bq))
 have n2_ := Aside0.mk (blk_below (g := gb241) (o := .cells #[.slice A0_0 l0_0.length c0_0] 74 (0, 0)) (bk BK241) hb)
 have n3_ := Aside0.mk (blk_below (g := gb242) (o := .cells #[.slice A1_0 l1_0.length c1_0] 74 (0, 0)) (bk BK242) hb)
 have n4_ := Aside0.mk (below_step bq hb)
 clear HO245
 clear BK241
 clear BK242
 clear HB
 have HO245 := n0_
 have HO248 := n1_
 have BK241 := n2_
 have BK242 := n3_
 have HB := n4_
 clear n0_ n1_ n2_ n3_ n4_
 
 
 
 
 (try clear ho0)
 obtain ⟨Ao12, co12, eo12⟩ := Kd.R_slice HO245.out
 (first | subst eo12 | (injection eo12 with f1_ f2_ f3_; have f4_ := f1_.symm; have f5_ := f3_.symm; clear f1_ f2_ f3_; subst f4_; subst f5_))
 obtain ⟨Ao13, co13, eo13⟩ := Kd.R_slice HO248.out
 (first | subst eo13 | (injection eo13 with f1_ f2_ f3_; have f4_ := f1_.symm; have f5_ := f3_.symm; clear f1_ f2_ f3_; subst f4_; subst f5_))
 refine hK.out _ _ ⟨(blk_cell BK241.out 0).trans rfl, (blk_cell BK242.out 0).trans rfl⟩ (fun hHeld => ?_)
 clear hK K
 refine norm_ (a' := ?_) ?_ ?_
 rotate_left
 ·show Act.put _ (some 12) _ = _
  simp only [Act.put, List.setIfInBounds_toArray, List.set_cons_zero, List.set_cons_succ, i64_w, i32_w]
  rfl
 refine one_ (i := 6) (N := some 13) (bA 8 127) rfl rfl (one_of HT_.out (by kernel_rfl)) (by decide) (fun K hK => ?_)
 refine goes_ Tryd.func116 (by kernel_rfl) rfl #[.slice Ao12 t243.length co12, .slice Ao13 t246.length co13] (by rfl) rfl rfl (by (try simp only [List.map_toArray, List.map_cons, List.map_nil]); first | done | rfl | (simp only [List.length_drop, List.length_take]; rfl)) ?_
 with_reducible refine (spec_l07Product.calls k _ _ t243 _ _ t246 t249 _ ?side1 ?side2 ?side3 ?side4 A6.out).mono ?_
 (case side1 => repeat (first | exact (Kd.R_reads' HO245.out).2.2 | (with_reducible refine Kd.C_alloc ?_ _) | (with_reducible refine Kd.C_drewN ?_ _) | (with_reducible refine Kd.C_drew ?_)))
 (case side2 => exact (Kd.R_reads' HO245.out).2.1)
 (case side3 => repeat (first | exact (Kd.R_reads' HO248.out).2.2 | (with_reducible refine Kd.C_alloc ?_ _) | (with_reducible refine Kd.C_drewN ?_ _) | (with_reducible refine Kd.C_drew ?_)))
 (case side4 => exact (Kd.R_reads' HO248.out).2.1)
 rintro e w' ⟨rfl, ⟨nd, rfl⟩⟩
 refine ⟨_, rfl, ?_⟩
 refine hK.out _ _ ⟨(blk_cell BK241.out 0).trans rfl, (blk_cell BK242.out 0).trans rfl⟩ (fun hHeld => ?_)
 clear hK K
 refine norm_ (a' := ?_) ?_ ?_
 rotate_left
 ·show Act.put _ (some 13) _ = _
  simp only [Act.put, List.setIfInBounds_toArray, List.set_cons_zero, List.set_cons_succ, i64_w, i32_w]
  rfl
 refine pu HT_ 7 6 255 ?_
 refine done_ (done_of HT_.out (by kernel_rfl)) ?_
 try go_wp2
 go_ret
 exact ⟨eq_, bq⟩

/-! ### spec_l09Delta: function 80 -/
mutual
def spec_l09Delta.l0 : Nat → Int → Int → List (S74) → List (List Int) → Option (Int)
 | 0, _, _, _, _ => none
 | k + 1, x3, x4, x251000, x251001 => if x4 < (x251000.length : Int) then (if 0 ≤ x4 then ((spec_l04Delta.f k ((rd_T74 x251000 x4).f0)).bind fun t252 => (spec_l09Delta.l1 k (wrap64 (x3 + t252)) x4 0 x251000 x251001)) else (none)) else (some x3)
def spec_l09Delta.l1 : Nat → Int → Int → Int → List (S74) → List (List Int) → Option (Int)
 | 0, _, _, _, _, _ => none
 | k + 1, x3, x4, x5, x251000, x251001 => if x5 < x4 then (if 0 ≤ x4 then (if x4 < (x251000.length : Int) then (if 0 ≤ x5 then (if x5 < (x251000.length : Int) then (if x4 < (x251001.length : Int) then (if x5 < ((rd_L1 x251001 x4).length : Int) then ((spec_l09Meet.f k ((rd_T74 x251000 x4).f0) ((rd_T74 x251000 x5).f0) (rd (rd_L1 x251001 x4) x5)).bind fun t257 => (spec_l09Delta.l1 k (wrap64 (x3 + t257)) x4 (wrap64 (x5 + 1)) x251000 x251001)) else (none)) else (none)) else (none)) else (none)) else (none)) else (none)) else (spec_l09Delta.l0 k x3 (wrap64 (x4 + 1)) x251000 x251001)
end
def spec_l09Delta.f (k : Nat) (l0_0 : List (S74)) (l0_1 : List (List Int)) : Option (Int) := spec_l09Delta.l0 k 0 0 l0_0 l0_1
def spec_l09Delta.T9 : Bool × List (List Nat × List Nat) := (true, [([], []), ([], []), ([1], [1]), ([], []), ([2, 3], [2, 3]), ([4], [4]), ([], []), ([6], [6]), ([], []), ([7, 8], [7, 8]), ([9], [9]), ([], []), ([11], [11]), ([], []), ([12, 13], [12, 13]), ([14], [14]), ([], []), ([15, 16], [15, 16]), ([17], [17]), ([5, 10, 18], [5, 10, 18]), ([0, 19], [0, 19]), ([20, 19, 0, 1, 2, 3, 4, 5, 6, 7, 8, 9, 10, 11, 12, 13, 14, 15, 16, 17, 18, 19, 20], [0, 20])])
def spec_l09Delta.B9 : List Nat := [0, 0, 2, 0, 14, 30, 0, 64, 0, 448, 960, 0, 2048, 0, 14336, 30720, 0, 129024, 260096, 524286, 1048575, 2097151]
theorem spec_l09Delta.tab9 : rtab .any (opsOf Tryd.f80 9) = spec_l09Delta.T9 := by kernel_rfl
theorem spec_l09Delta.bits9 : waitsOk spec_l09Delta.T9.2 spec_l09Delta.B9 = true := by kernel_rfl
set_option maxHeartbeats 8000000 in
set_option maxRecDepth 100000 in
theorem spec_l09Delta.calls (k : Nat) (A0_0 : Option Addr) (c0_0 : Nat) (l0_0 : List (S74)) (A0_1 : Option Addr) (c0_1 : Nat) (l0_1 : List (List Int)) (r : Int) (w : World) (hr0_0 : Kd.C k74 w A0_0 l0_0.length l0_0) (hc0_0 : l0_0.length ≤ c0_0) (hr0_1 : Kd.C (Kd.slice 2 (Kd.int .i64)) w A0_1 l0_1.length l0_1) (hc0_1 : l0_1.length ≤ c0_1) (h : spec_l09Delta.f k l0_0 l0_1 = some r) :
  Calls Tryd.prog 80 #[.agg #[.slice A0_0 l0_0.length c0_0, .slice A0_1 l0_1.length c0_1]] w fun e w' => e = .returned (.int .i64 r) ∧ Below w.heap.size w w' := by
 have hu31 := Tryd.underlying31
 have hu74 := Tryd.underlying74
 have HR0_0 := Aside0.mk hr0_0
 have HC0_0 := Aside0.mk hc0_0
 clear hr0_0 hc0_0
 have HR0_1 := Aside0.mk hr0_1
 have HC0_1 := Aside0.mk hc0_1
 clear hr0_1 hc0_1
 have HB := Aside0.mk (Below.refl w.heap.size w)
 have H : (spec_l09Delta.l0 k 0 0 l0_0 l0_1) = some r := h
 clear h
 have H' := Aside0.mk H
 clear H
 go_enter Tryd.func80, Tryd.ntmps80
 go_wp2_with (first | ((with_reducible refine gate_dst (N := 1) rfl ?_); refine box_event ?hg (N := 1) ?hd (cs := #[.slice A0_0 l0_0.length c0_0, .slice A0_1 l0_1.length c0_1]) (t := 31) ?hr ?_; (case hd => rfl); (case hg => rfl); (case hr => first | (go_simp; done) | (go_simp; rfl)); intro gb250 hg w2 hbox hb; have BK250 := Aside0.mk (hbox); have GW250 := Aside0.mk ((by rw [hg]; exact (below_size bq) : w.heap.size ≤ gb250)); have GE250 := Aside0.mk ((by rw [hg]; exact (below_size bq) : w.heap.size ≤ gb250)); replace HB := Aside0.mk (below_step bq hb); clear hb hbox hg))
 go_loopg [3, 4] k (fun kq v3 v4 w' => ∃ (x3_1 : Int) (x4_1 : Int), v3 = .int .i64 x3_1 ∧ v4 = .int .i64 x4_1 ∧ Aside0 (spec_l09Delta.l0 kq x3_1 x4_1 l0_0 l0_1 = some r) ∧ Aside0 (kq ≤ k) ∧ Aside0 (w'.heap[gb250]? = some (.cells #[(.slice A0_0 l0_0.length c0_0), (.slice A0_1 l0_1.length c0_1)] 31 (0, 0))) ∧ Aside0 (Below w.heap.size w w'))
 case atStart => exact ⟨(0), (0), (by first | rfl | (simp; done) | (simp [*]; done)), (by first | rfl | (simp; done) | (simp [*]; done)), H', ⟨Nat.le_refl _⟩, ⟨bk BK250⟩, ⟨bq⟩⟩
 case round =>
  clear H'
  try clear p2
  obtain ⟨x3_1, x4_1, rfl, rfl, HA, HK1, BK250, HB⟩ := hrel
  cases gk with
  | zero => exact absurd HA.out (by simp [spec_l09Delta.l0])
  | succ k1 =>
   have H := HA.out
   clear HA
   simp only [spec_l09Delta.l0] at H
   by_cases c3 : x4_1 < (l0_0.length : Int)
   ·rw [if_pos c3] at H
    have c3b0 : decide (x4_1 < (l0_0.length : Int)) = true := decide_eq_true c3
    clear c3
    revert H
    refine ifr fun c4 H => ?_
    have c4b0 : decide (0 ≤ x4_1) = true := decide_eq_true c4
    clear c4
    replace H := Option.bind_eq_some_iff.mp H
    obtain ⟨t252, A50, H⟩ := H
    replace H : (spec_l09Delta.l1 k1 (wrap64 (x3_1 + t252)) x4_1 0 l0_0 l0_1) = some r := H
    have A5 := Aside0.mk A50
    clear A50
    have H' := Aside0.mk H
    clear H
    have hcz6_0 := bc0 BK250
    have hcz6_1 := bc1 BK250
    have hfz6_0 := blk_frozen BK250.out 0
    have hfz6_1 := blk_frozen BK250.out 1
    have p251 : 0 ≤ (x4_1 : Int) := ode
    have q251 : x4_1 < (l0_0.length : Int) := ode
    obtain ⟨ad251, A251_0, c251_0, e251, hx251_0, hl251_0, hi251_0⟩ := at_T74 HR0_0.out x4_1 p251 q251
    cases e251
    try replace hx251_0 := (HB.out.cell (World.block_lt_of_cell? w _ hx251_0)).trans hx251_0
    have HR251_0 := Aside0.mk hi251_0
    have HC251_0 := Aside0.mk hl251_0
    clear hi251_0 hl251_0
    replace p251 := eq_true p251
    replace q251 := eq_true q251
    go_wp2_with (first | ((with_reducible refine gate_callee (f := 101) rfl ?_); refine gL 19 Tryd.func101 #[.agg #[.slice A251_0 ((rd_T74 l0_0 x4_1).f0).length c251_0]] ?_; (with_reducible refine (spec_l04Delta.calls k1 _ _ ((rd_T74 l0_0 x4_1).f0) t252 _ ?side1 ?side2 A5.out).mono ?_); (case side1 => exact kc HR251_0); (case side2 => exact HC251_0.out); rintro e w7 ⟨rfl, hb⟩; refine ⟨_, rfl, ?_⟩; replace BK250 := Aside0.mk (blk_below (g := gb250) (o := .cells #[.slice (some ad251) l0_0.length c0_0, .slice A0_1 l0_1.length c0_1] 31 (0, 0)) (bk BK250) hb); replace HB := Aside0.mk (below_step bq hb); (try clear hb)))
    go_loopg [3, 5] k1 (fun kq v3 v5 w' => ∃ (x3_2 : Int) (x5_2 : Int), v3 = .int .i64 x3_2 ∧ v5 = .int .i64 x5_2 ∧ Aside0 (spec_l09Delta.l1 kq x3_2 x4_1 x5_2 l0_0 l0_1 = some r) ∧ Aside0 (kq ≤ k1) ∧ Aside0 (w'.heap[gb250]? = some (.cells #[(.slice (some ad251) l0_0.length c0_0), (.slice A0_1 l0_1.length c0_1)] 31 (0, 0))) ∧ Aside0 (Below w.heap.size w w'))
    case atStart => exact ⟨(wrap64 (x3_1 + t252)), (0), (by first | rfl | (simp; done) | (simp [*]; done)), (by first | rfl | (simp; done) | (simp [*]; done)), H', ⟨Nat.le_refl _⟩, ⟨bk BK250⟩, ⟨bq⟩⟩
    case round =>
     clear H'
     try clear c1
     try clear c2
     try clear p2
     try clear q2
     try clear hx2
     try clear c3
     try clear c3b0
     try clear c4
     try clear c4b0
     try clear p6
     try clear hcz6_0
     try clear hcz6_1
     try clear hfz6_0
     try clear hfz6_1
     try clear hx251_0
     try clear p2
     try clear p251
     try clear q251
     obtain ⟨x3_2, x5_2, rfl, rfl, HA, HK2, BK250, HB⟩ := hrel
     cases gk with
     | zero => exact absurd HA.out (by simp [spec_l09Delta.l1])
     | succ k2 =>
      have H := HA.out
      clear HA
      simp only [spec_l09Delta.l1] at H
      by_cases c8 : x5_2 < x4_1
      ·rw [if_pos c8] at H
       have c8b0 : decide (x5_2 < x4_1) = true := decide_eq_true c8
       clear c8
       revert H
       refine ifr fun c9 H => ?_
       have c9b0 : decide (0 ≤ x4_1) = true := decide_eq_true c9
       clear c9
       revert H
       refine ifr fun c10 H => ?_
       have c10b0 : decide (x4_1 < (l0_0.length : Int)) = true := decide_eq_true c10
       clear c10
       revert H
       refine ifr fun c11 H => ?_
       have c11b0 : decide (0 ≤ x5_2) = true := decide_eq_true c11
       clear c11
       revert H
       refine ifr fun c12 H => ?_
       have c12b0 : decide (x5_2 < (l0_0.length : Int)) = true := decide_eq_true c12
       clear c12
       revert H
       refine ifr fun c13 H => ?_
       have c13b0 : decide (x4_1 < (l0_1.length : Int)) = true := decide_eq_true c13
       clear c13
       revert H
       refine ifr fun c14 H => ?_
       have c14b0 : decide (x5_2 < ((rd_L1 l0_1 x4_1).length : Int)) = true := decide_eq_true c14
       clear c14
       replace H := Option.bind_eq_some_iff.mp H
       obtain ⟨t257, A150, H⟩ := H
       replace H : (spec_l09Delta.l1 k2 (wrap64 (x3_2 + t257)) x4_1 (wrap64 (x5_2 + 1)) l0_0 l0_1) = some r := H
       have A15 := Aside0.mk A150
       clear A150
       have H' := Aside0.mk H
       clear H
       try go_wp2
       have n0_ := Aside0.mk (blk_drew BK250.out)
       have n1_ := Aside0.mk (below_drew1 HB.out)
       clear BK250
       clear HB
       have BK250 := n0_
       have HB := n1_
       clear n0_ n1_
       have p253 : 0 ≤ (x4_1 : Int) := ode
       have q253 : x4_1 < (l0_0.length : Int) := ode
       obtain ⟨ad253, A253_0, c253_0, e253, hx253_0, hl253_0, hi253_0⟩ := at_T74 HR0_0.out x4_1 p253 q253
       have hw253_0 := hx253_0
       obtain rfl : ad251 = ad253 := (by injection e253)
       try replace hx253_0 := (HB.out.cell (World.block_lt_of_cell? w _ hx253_0)).trans hx253_0
       have HR253_0 := Aside0.mk hi253_0
       have HC253_0 := Aside0.mk hl253_0
       clear hi253_0 hl253_0
       replace p253 := eq_true p253
       replace q253 := eq_true q253
       have p254 : 0 ≤ (x5_2 : Int) := ode
       have q254 : x5_2 < (l0_0.length : Int) := ode
       obtain ⟨ad254, A254_0, c254_0, e254, hx254_0, hl254_0, hi254_0⟩ := at_T74 HR0_0.out x5_2 p254 q254
       have hw254_0 := hx254_0
       obtain rfl : ad251 = ad254 := (by injection e254)
       try replace hx254_0 := (HB.out.cell (World.block_lt_of_cell? w _ hx254_0)).trans hx254_0
       have HR254_0 := Aside0.mk hi254_0
       have HC254_0 := Aside0.mk hl254_0
       clear hi254_0 hl254_0
       replace p254 := eq_true p254
       replace q254 := eq_true q254
       have p255 : 0 ≤ (x4_1 : Int) := ode
       have q255 : x4_1 < (l0_1.length : Int) := ode
       obtain ⟨ad255, A255_0, c255_0, e255, hx255_0, hl255_0, hi255_0⟩ := at_L1 HR0_1.out x4_1 p255 q255
       have hw255_0 := hx255_0
       cases e255
       try replace hx255_0 := (HB.out.cell (World.block_lt_of_cell? w _ hx255_0)).trans hx255_0
       have HR255_0 := Aside0.mk hi255_0
       have HC255_0 := Aside0.mk hl255_0
       clear hi255_0 hl255_0
       replace p255 := eq_true p255
       replace q255 := eq_true q255
       have p256 : 0 ≤ (x5_2 : Int) := ode
       have q256 : x5_2 < ((rd_L1 l0_1 x4_1).length : Int) := ode
       obtain ⟨ad256, e256, hx256_0⟩ := Kd.at_int HR255_0.out x5_2 p256 q256
       have hw256_0 := hx256_0
       cases e256
       try replace hx256_0 := (HB.out.cell (World.block_lt_of_cell? w _ hx256_0)).trans hx256_0
       replace p256 := eq_true p256
       replace q256 := eq_true q256
       refine start_ (n := 22) (S := fun w' => w'.cell? ⟨gb250, 0, none⟩ = some (.slice (some ad251) l0_0.length c0_0) ∧ w'.cell? ⟨gb250, 1, none⟩ = some (.slice (some ad255) l0_1.length c0_1) ∧ w'.cell? (ad251.add (x4_1).toNat) = some (.slice A253_0 ((rd_T74 l0_0 x4_1).f0).length c253_0) ∧ w'.cell? (ad251.add (x5_2).toNat) = some (.slice A254_0 ((rd_T74 l0_0 x5_2).f0).length c254_0) ∧ w'.cell? (ad255.add (x4_1).toNat) = some (.slice (some ad256) (rd_L1 l0_1 x4_1).length c255_0) ∧ w'.cell? (ad256.add (x5_2).toNat) = some (.int .i64 (rd (rd_L1 l0_1 x4_1) x5_2))) (ds := []) (bA 22 0) (by kernel_rfl) rfl (by kernel_rfl) ⟨(blk_cell BK250.out 0).trans rfl, (blk_cell BK250.out 1).trans rfl, ((HB.out.cell (World.block_lt_of_cell? w _ hw253_0)).trans hw253_0), ((HB.out.cell (World.block_lt_of_cell? w _ hw254_0)).trans hw254_0), ((HB.out.cell (World.block_lt_of_cell? w _ hw255_0)).trans hw255_0), ((HB.out.cell (World.block_lt_of_cell? w _ hw256_0)).trans hw256_0)⟩ (fun hHeld => ?_); refine with_tabW spec_l09Delta.tab9 spec_l09Delta.bits9 (fun HT_ HW_ => ?_)
       generalize wr.drew = w16 at BK250 HB HR253_0 HR254_0 HR255_0 hx253_0 hx254_0 hx255_0 hx256_0 hHeld ⊢
       refine pu HT_ 0 26 1 ?_
       refine pu HT_ 1 27 3 ?_
       refine pu HT_ 3 29 11 ?_
       refine pu HT_ 6 32 75 ?_
       refine pu HT_ 8 34 331 ?_
       refine pu HT_ 11 37 2379 ?_
       refine pu HT_ 13 39 10571 ?_
       refine pu HT_ 16 42 76107 ?_
       refine tk6 HT_ HW_ hHeld 2 28 76111 ?_
       refine pu HT_ 4 30 76127 ?_
       refine tk6 HT_ HW_ hHeld 5 31 76159 ?_
       refine tk6 HT_ HW_ hHeld 7 33 76287 ?_
       refine pu HT_ 9 35 76799 ?_
       refine tk6 HT_ HW_ hHeld 10 36 77823 ?_
       refine tk6 HT_ HW_ hHeld 12 38 81919 ?_
       refine pu HT_ 14 40 98303 ?_
       refine tk6 HT_ HW_ hHeld 15 41 131071 ?_
       refine pu HT_ 17 43 262143 ?_
       refine tk6 HT_ HW_ hHeld 18 44 524287 ?_
       refine one_ (i := 19) (N := some 45) (bA 22 1048575) rfl rfl (one_of HT_.out (by kernel_rfl)) (by decide) (fun K hK => ?_)
       refine goes_ Tryd.func102 (by kernel_rfl) rfl #[.agg #[.slice A253_0 ((rd_T74 l0_0 x4_1).f0).length c253_0], .agg #[.slice A254_0 ((rd_T74 l0_0 x5_2).f0).length c254_0], .int .i64 (rd (rd_L1 l0_1 x4_1) x5_2)] (by rfl) rfl rfl (by (try simp only [List.map_toArray, List.map_cons, List.map_nil]); first | done | rfl | (simp only [List.length_drop, List.length_take]; rfl)) ?_
       with_reducible refine (spec_l09Meet.calls k2 _ _ ((rd_T74 l0_0 x4_1).f0) _ _ ((rd_T74 l0_0 x5_2).f0) (rd (rd_L1 l0_1 x4_1) x5_2) t257 _ ?side1 ?side2 ?side3 ?side4 A15.out).mono ?_
       (case side1 => exact kc HR253_0)
       (case side2 => exact HC253_0.out)
       (case side3 => exact kc HR254_0)
       (case side4 => exact HC254_0.out)
       rintro e w17 ⟨rfl, hb⟩
       refine ⟨_, rfl, ?_⟩
       have n0_ := Aside0.mk (blk_below (g := gb250) (o := .cells #[.slice (some ad251) l0_0.length c0_0, .slice (some ad255) l0_1.length c0_1] 31 (0, 0)) (bk BK250) hb)
       have n1_ := Aside0.mk (below_step bq hb)
       clear BK250
       clear HB
       have BK250 := n0_
       have HB := n1_
       clear n0_ n1_
       
       
       
       
       refine hK.out _ _ ⟨(blk_cell BK250.out 0).trans rfl, (blk_cell BK250.out 1).trans rfl, ((HB.out.cell (World.block_lt_of_cell? w _ hw253_0)).trans hw253_0), ((HB.out.cell (World.block_lt_of_cell? w _ hw254_0)).trans hw254_0), ((HB.out.cell (World.block_lt_of_cell? w _ hw255_0)).trans hw255_0), ((HB.out.cell (World.block_lt_of_cell? w _ hw256_0)).trans hw256_0)⟩ (fun hHeld => ?_)
       clear hK K
       refine norm_ (a' := ?_) ?_ ?_
       rotate_left
       ·show Act.put _ (some 45) _ = _
        simp only [Act.put, List.setIfInBounds_toArray, List.set_cons_zero, List.set_cons_succ, i64_w, i32_w]
        rfl
       refine pu HT_ 20 46 2097151 ?_
       refine pu HT_ 21 3 4194303 ?_
       refine done_ (done_of HT_.out (by kernel_rfl)) ?_
       try go_wp2
       go_roundg k2
       case measure => have := HK1.out; have := HK2.out; omega
       case rel => exact ⟨(wrap64 (x3_2 + t257)), (wrap64 (x5_2 + 1)), (by first | rfl | (simp; done) | (simp [*]; done)), (by first | rfl | (simp; done) | (simp [*]; done)), H', ⟨by have := HK1.out; have := HK2.out; omega⟩, ⟨bk BK250⟩, ⟨bq⟩⟩
      ·rw [if_neg c8] at H
       have c8b0 : decide (x5_2 < x4_1) = false := decide_eq_false c8
       clear c8
       have H' := Aside0.mk H
       clear H
       go_wp2
       go_roundg k2
       case measure => have := HK1.out; have := HK2.out; omega
       case rel => exact ⟨(x3_2), (wrap64 (x4_1 + 1)), (by first | rfl | (simp; done) | (simp [*]; done)), (by first | rfl | (simp; done) | (simp [*]; done)), H', ⟨by have := HK1.out; have := HK2.out; omega⟩, ⟨bk BK250⟩, ⟨bq⟩⟩
   ·rw [if_neg c3] at H
    have c3b0 : decide (x4_1 < (l0_0.length : Int)) = false := decide_eq_false c3
    clear c3
    obtain rfl := Option.some.inj H
    have hcz18_0 := bc0 BK250
    have hcz18_1 := bc1 BK250
    have hfz18_0 := blk_frozen BK250.out 0
    have hfz18_1 := blk_frozen BK250.out 1
    go_wp2
    go_ret
    exact ⟨eq_, bq⟩

/-! ### spec_l09Milnor: function 46 -/
def spec_l09Milnor.f (k : Nat) (l0_0 : List (S74)) (l0_1 : List (List Int)) : Option (Int) := (spec_l09Delta.f k l0_0 l0_1).bind fun t259 => (some (wrap64 ((wrap64 ((wrap64 (2 * t259)) - (l0_0.length : Int))) + 1)))
def spec_l09Milnor.T1 : Bool × List (List Nat × List Nat) := (true, [([], []), ([0], [0]), ([1], [1]), ([], []), ([3], [3]), ([4], [4]), ([2, 5], [2, 5]), ([6], [6]), ([7, 1, 0, 1, 2, 3, 4, 5, 6, 7], [7])])
def spec_l09Milnor.B1 : List Nat := [0, 1, 3, 0, 8, 24, 63, 127, 255]
theorem spec_l09Milnor.tab1 : rtab .any (opsOf Tryd.f46 1) = spec_l09Milnor.T1 := by kernel_rfl
theorem spec_l09Milnor.bits1 : waitsOk spec_l09Milnor.T1.2 spec_l09Milnor.B1 = true := by kernel_rfl
set_option maxHeartbeats 8000000 in
set_option maxRecDepth 100000 in
theorem spec_l09Milnor.calls (k : Nat) (A0_0 : Option Addr) (c0_0 : Nat) (l0_0 : List (S74)) (A0_1 : Option Addr) (c0_1 : Nat) (l0_1 : List (List Int)) (r : Int) (w : World) (hr0_0 : Kd.C k74 w A0_0 l0_0.length l0_0) (hc0_0 : l0_0.length ≤ c0_0) (hr0_1 : Kd.C (Kd.slice 2 (Kd.int .i64)) w A0_1 l0_1.length l0_1) (hc0_1 : l0_1.length ≤ c0_1) (h : spec_l09Milnor.f k l0_0 l0_1 = some r) :
  Calls Tryd.prog 46 #[.agg #[.slice A0_0 l0_0.length c0_0, .slice A0_1 l0_1.length c0_1]] w fun e w' => e = .returned (.int .i64 r) ∧ Below w.heap.size w w' := by
 have hu31 := Tryd.underlying31
 have HR0_0 := Aside0.mk hr0_0
 have HC0_0 := Aside0.mk hc0_0
 clear hr0_0 hc0_0
 have HR0_1 := Aside0.mk hr0_1
 have HC0_1 := Aside0.mk hc0_1
 clear hr0_1 hc0_1
 have HB := Aside0.mk (Below.refl w.heap.size w)
 have H : ((spec_l09Delta.f k l0_0 l0_1).bind fun t259 => (some (wrap64 ((wrap64 ((wrap64 (2 * t259)) - (l0_0.length : Int))) + 1)))) = some r := h
 clear h
 replace H := Option.bind_eq_some_iff.mp H
 obtain ⟨t259, A20, H⟩ := H
 replace H : (some (wrap64 ((wrap64 ((wrap64 (2 * t259)) - (l0_0.length : Int))) + 1))) = some r := H
 have A2 := Aside0.mk A20
 clear A20
 obtain rfl := Option.some.inj H
 go_enter Tryd.func46, Tryd.ntmps46
 try go_wp2_with (first | ((with_reducible refine gate_dst (N := 1) rfl ?_); refine box_event ?hg (N := 1) ?hd (cs := #[.slice A0_0 l0_0.length c0_0, .slice A0_1 l0_1.length c0_1]) (t := 31) ?hr ?_; (case hd => rfl); (case hg => rfl); (case hr => first | (go_simp; done) | (go_simp; rfl)); intro gb258 hg w3 hbox hb; have BK258 := Aside0.mk (hbox); have GW258 := Aside0.mk ((by rw [hg]; exact (below_size bq) : w.heap.size ≤ gb258)); have GE258 := Aside0.mk ((by rw [hg]; exact (below_size bq) : w.heap.size ≤ gb258)); replace HB := Aside0.mk (below_step bq hb); clear hb hbox hg))
 have n0_ := Aside0.mk (blk_drew BK258.out)
 have n1_ := Aside0.mk (below_drew1 HB.out)
 clear BK258
 clear HB
 have BK258 := n0_
 have HB := n1_
 clear n0_ n1_
 refine start_ (n := 9) (S := fun w' => w'.cell? ⟨gb258, 0, none⟩ = some (.slice A0_0 l0_0.length c0_0) ∧ w'.cell? ⟨gb258, 1, none⟩ = some (.slice A0_1 l0_1.length c0_1)) (ds := []) (bA 9 0) (by kernel_rfl) rfl (by kernel_rfl) ⟨(blk_cell BK258.out 0).trans rfl, (blk_cell BK258.out 1).trans rfl⟩ (fun hHeld => ?_); refine with_tabW spec_l09Milnor.tab1 spec_l09Milnor.bits1 (fun HT_ HW_ => ?_)
 generalize w3.drew = w4 at BK258 HB hHeld ⊢
 refine pu HT_ 3 6 8 ?_
 refine tk2 HT_ HW_ hHeld 0 3 9 ?_
 refine tk2 HT_ HW_ hHeld 4 7 25 ?_
 refine pu HT_ 5 8 57 ?_
 refine one_ (i := 1) (N := some 4) (bA 9 59) rfl rfl (one_of HT_.out (by kernel_rfl)) (by decide) (fun K hK => ?_)
 refine goes_ Tryd.func80 (by kernel_rfl) rfl #[.agg #[.slice A0_0 l0_0.length c0_0, .slice A0_1 l0_1.length c0_1]] (by rfl) rfl rfl (by (try simp only [List.map_toArray, List.map_cons, List.map_nil]); first | done | rfl | (simp only [List.length_drop, List.length_take]; rfl)) ?_
 with_reducible refine (spec_l09Delta.calls k _ _ l0_0 _ _ l0_1 t259 _ ?side1 ?side2 ?side3 ?side4 A2.out).mono ?_
 (case side1 => exact kc HR0_0)
 (case side2 => exact HC0_0.out)
 (case side3 => exact kc HR0_1)
 (case side4 => exact HC0_1.out)
 rintro e w5 ⟨rfl, hb⟩
 refine ⟨_, rfl, ?_⟩
 have n0_ := Aside0.mk (blk_below (g := gb258) (o := .cells #[.slice A0_0 l0_0.length c0_0, .slice A0_1 l0_1.length c0_1] 31 (0, 0)) (bk BK258) hb)
 have n1_ := Aside0.mk (below_step bq hb)
 clear BK258
 clear HB
 have BK258 := n0_
 have HB := n1_
 clear n0_ n1_
 
 
 
 
 refine hK.out _ _ ⟨(blk_cell BK258.out 0).trans rfl, (blk_cell BK258.out 1).trans rfl⟩ (fun hHeld => ?_)
 clear hK K
 refine norm_ (a' := ?_) ?_ ?_
 rotate_left
 ·show Act.put _ (some 4) _ = _
  simp only [Act.put, List.setIfInBounds_toArray, List.set_cons_zero, List.set_cons_succ, i64_w, i32_w]
  rfl
 refine pu HT_ 2 5 63 ?_
 refine pu HT_ 6 9 127 ?_
 refine pu HT_ 7 10 255 ?_
 refine pu HT_ 8 2 511 ?_
 refine done_ (done_of HT_.out (by kernel_rfl)) ?_
 try go_wp2
 go_ret
 exact ⟨eq_, bq⟩

/-! ### spec_l01Dec: function 47 -/
def spec_l01Dec.f : Nat → Int → Option (ByteArray)
 | 0, _ => none
 | k + 1, a0 => if a0 < 10 then (some (strOfNums (([(wrap64 (48 + a0)) % 256] : List Int)))) else ((spec_l01Dec.f k (wrap64 (Int.tdiv a0 10))).bind fun t263 => ((some (([(wrap64 (48 + (Int.tmod a0 10))) % 256] : List Int) : List Int)).bind fun y264 => (if t263.size + (strOfNums y264).size ≤ 9223372036854775807 then (some (t263 ++ (strOfNums y264))) else (none))))
def spec_l01Dec.T3 : Bool × List (List Nat × List Nat) := (true, [([], []), ([0], [0]), ([1], [1]), ([], []), ([3], [3]), ([4], [4]), ([5], [5]), ([6], [6]), ([7], [7]), ([2, 8], [2, 8]), ([9, 2, 0, 1, 2, 3, 4, 5, 6, 7, 8, 9], [9])])
def spec_l01Dec.B3 : List Nat := [0, 1, 3, 0, 8, 24, 56, 120, 248, 511, 1023]
theorem spec_l01Dec.tab3 : rtab .any (opsOf Tryd.f47 3) = spec_l01Dec.T3 := by kernel_rfl
theorem spec_l01Dec.bits3 : waitsOk spec_l01Dec.T3.2 spec_l01Dec.B3 = true := by kernel_rfl
set_option maxHeartbeats 8000000 in
set_option maxRecDepth 100000 in
theorem spec_l01Dec.calls (k : Nat) : ∀ (a0 : Int) (r : ByteArray) (w : World) (h : spec_l01Dec.f k a0 = some r),
  Calls Tryd.prog 47 #[.int .i64 a0] w fun e w' => e = .returned (.string r) ∧ Below w.heap.size w w' := by
 induction k using Nat.strongRecOn with
 | _ k ih =>
 intro a0 r w h
 cases k with
 | zero => exact absurd h (by simp [spec_l01Dec.f])
 | succ k =>
 simp only [spec_l01Dec.f] at h
 have HB := Aside0.mk (Below.refl w.heap.size w)
 have H : (if a0 < 10 then (some (strOfNums (([(wrap64 (48 + a0)) % 256] : List Int)))) else ((spec_l01Dec.f k (wrap64 (Int.tdiv a0 10))).bind fun t263 => ((some (([(wrap64 (48 + (Int.tmod a0 10))) % 256] : List Int) : List Int)).bind fun y264 => (if t263.size + (strOfNums y264).size ≤ 9223372036854775807 then (some (t263 ++ (strOfNums y264))) else (none))))) = some r := h
 clear h
 by_cases c2 : a0 < 10
 ·rw [if_pos c2] at H
  have c2b0 : decide (a0 < 10) = true := decide_eq_true c2
  clear c2
  obtain ⟨y260, hy260⟩ : ∃ y_ : List Int, y_ = (([(wrap64 (48 + a0)) % 256] : List Int)) := ⟨_, rfl⟩
  replace H : (some (strOfNums y260)) = some r := by first | (rw [hy260]; with_reducible exact H) | (have H2_ := (Option.bind_some _ _).symm.trans H; rw [hy260]; with_reducible exact H2_) | (have H2_ := (Option.bind_some _ _).symm.trans H; with_reducible exact H2_) | with_reducible exact H | (rw [hy260]; exact H) | exact H
  have Ny260 := Aside0.mk hy260
  clear hy260
  obtain rfl := Option.some.inj H
  go_enter Tryd.func47, Tryd.ntmps47
  go_wp2_with (first | ((with_reducible refine gate_dst (N := 8) rfl ?_); refine Kd.R_lit (Kd.int .u8) _ 5 ?hg (N := 8) ?hd (xs := ([(wrap64 (48 + a0)) % 256] : List Int)) (inner := [.int .u8 ((wrap64 (48 + a0)) % 256)]) (ok := fun _ => True) (okp := fun _ => True) ?hr ?hp (fun _ hk => hk) trivial (Below.refl _ _) (Nat.le_refl _) (by simp) ?_; (case hd => rfl); (case hg => rfl); (case hr => first | (go_simp; done) | (go_simp; rfl)); (case hp => exact (Reps.one (show Kd.M (Kd.int .u8) _ _ _ ((wrap64 (48 + a0)) % 256) [.int .u8 ((wrap64 (48 + a0)) % 256)] from rfl) (Reps.none _ _))); intro v261 w3 ho4 hb hg_ hnew_; clear hg_ hnew_; (first | rw [← Ny260.out] at ho4 | (simp only [Int.reduceToNat] at ho4; rw [← Ny260.out] at ho4)); have HO262 := Aside0.mk (Kd.R_lower ho4 (below_size bq)); replace HB := Aside0.mk (below_step bq hb); clear hb ho4; have hcv5 := own_string (P := Tryd.prog) Tryd.underlying105 Tryd.underlying5 Tryd.underlying9 (Kd.own_of_R HO262.out)))
  go_ret
  exact ⟨eq_, bq⟩
 ·rw [if_neg c2] at H
  have c2b0 : decide (a0 < 10) = false := decide_eq_false c2
  clear c2
  replace H := Option.bind_eq_some_iff.mp H
  obtain ⟨t263, A60, H⟩ := H
  replace H : ((some (([(wrap64 (48 + (Int.tmod a0 10))) % 256] : List Int) : List Int)).bind fun y264 => (if t263.size + (strOfNums y264).size ≤ 9223372036854775807 then (some (t263 ++ (strOfNums y264))) else (none))) = some r := H
  have A6 := Aside0.mk A60
  clear A60
  obtain ⟨y264, hy264⟩ : ∃ y_ : List Int, y_ = (([(wrap64 (48 + (Int.tmod a0 10))) % 256] : List Int)) := ⟨_, rfl⟩
  replace H : (if t263.size + (strOfNums y264).size ≤ 9223372036854775807 then (some (t263 ++ (strOfNums y264))) else (none)) = some r := by first | (rw [hy264]; with_reducible exact H) | (have H2_ := (Option.bind_some _ _).symm.trans H; rw [hy264]; with_reducible exact H2_) | (have H2_ := (Option.bind_some _ _).symm.trans H; with_reducible exact H2_) | with_reducible exact H | (rw [hy264]; exact H) | exact H
  have Ny264 := Aside0.mk hy264
  clear hy264
  by_cases c7 : t263.size + (strOfNums y264).size ≤ 9223372036854775807
  ·rw [if_pos c7] at H
   have c7b0 := eq_true c7
   have c7b1 : decide (t263.size + (strOfNums y264).size ≤ 9223372036854775807) = true := decide_eq_true c7
   try have c7b2 : (9223372036854775807 < t263.size + (strOfNums y264).size) = False := eq_false (Nat.not_lt.2 c7)
   obtain rfl := Option.some.inj H
   go_enter Tryd.func47, Tryd.ntmps47
   try go_wp2
   have n0_ := Aside0.mk (below_drew1 HB.out)
   clear HB
   have HB := n0_
   clear n0_
   refine start_ (n := 11) (S := fun w' => True) (ds := []) (bA 11 0) (by kernel_rfl) rfl (by kernel_rfl) trivial (fun hHeld => ?_); refine with_tabW spec_l01Dec.tab3 spec_l01Dec.bits3 (fun HT_ HW_ => ?_)
   generalize w.drew = w8 at HB hHeld ⊢
   refine pu HT_ 0 10 1 ?_
   refine pu HT_ 1 11 3 ?_
   refine pu HT_ 3 13 11 ?_
   refine pu HT_ 4 14 27 ?_
   refine pu HT_ 5 15 59 ?_
   refine pu HT_ 6 16 123 ?_
   refine join_ (σ := Value) 2 (bA 11 511) (fun s_ => [(12, .string t263), (17, s_), (18, .string (strOfNums y264))]) (fun s_ w' => (Kd.R (Kd.int .u8) 5 w' w.heap.size (fun _ => True) s_ y264) ∧ (Below w.heap.size w w')) ?_ ?_
   rotate_left
   ·intro hCont
    refine two_ (i := 2) (j := 7) (Ni := some 12) (Nj := some 17) (bA 11 127) (bA 11 251) rfl rfl rfl rfl (two_of HT_.out (by kernel_rfl)) (by decide) (by decide) (fun K hK => ?_) (fun K hK => ?_)
    ·skip
     refine goes_ Tryd.func47 (by kernel_rfl) rfl #[.int .i64 (wrap64 (Int.tdiv a0 10))] (by rfl) rfl rfl (by (try simp only [List.map_toArray, List.map_cons, List.map_nil]); first | done | rfl | (simp only [List.length_drop, List.length_take]; rfl)) ?_
     with_reducible refine (ih k (by omega) (wrap64 (Int.tdiv a0 10)) t263 _ A6.out).mono ?_
     rintro e w9 ⟨rfl, hb⟩
     refine ⟨_, rfl, ?_⟩
     have n0_ := Aside0.mk (below_step bq hb)
     clear HB
     have HB := n0_
     clear n0_
     
     
     
     
     refine hK.out _ _ trivial (fun hHeld => ?_)
     clear hK K
     refine norm_ (a' := ?_) ?_ ?_
     rotate_left
     ·show Act.put _ (some 12) _ = _
      simp only [Act.put, List.setIfInBounds_toArray, List.set_cons_zero, List.set_cons_succ, i64_w, i32_w]
      rfl
     refine one_ (i := 7) (N := some 17) (bA 11 255) rfl rfl (one_of HT_.out (by kernel_rfl)) (by decide) (fun K hK => ?_)
     refine Kd.R_lit_step (Kd.int .u8) _ 5 ?hg (N := 17) ?hd (xs := ([(wrap64 (48 + (Int.tmod a0 10))) % 256] : List Int)) (inner := [.int .u8 ((wrap64 (48 + (Int.tmod a0 10))) % 256)]) (ok := fun _ => True) (okp := fun _ => True) ?hr ?hp (fun _ hk => hk) trivial (Below.refl _ _) (Nat.le_refl _) (by simp) ?_; (case hd => rfl); (case hg => rfl); (case hr => first | (go_simp; done) | (go_simp; rfl)); (case hp => exact (Reps.one (show Kd.M (Kd.int .u8) _ _ _ ((wrap64 (48 + (Int.tmod a0 10))) % 256) [.int .u8 ((wrap64 (48 + (Int.tmod a0 10))) % 256)] from rfl) (Reps.none _ _)))
     intro v265 w10 ho11 hb hg_ hnew_
     clear hg_ hnew_
     (first | rw [← Ny264.out] at ho11 | (simp only [Int.reduceToNat] at ho11; rw [← Ny264.out] at ho11))
     have n0_ := Aside0.mk (Kd.R_lower ho11 (below_size bq))
     have n1_ := Aside0.mk (below_step bq hb)
     clear HB
     have HO266 := n0_
     have HB := n1_
     clear n0_ n1_
     clear hb ho11
     refine hK.out _ _ trivial (fun hHeld => ?_)
     clear hK K
     refine norm_ (a' := ?_) ?_ ?_
     rotate_left
     ·show Act.put _ (some 17) _ = _
      simp only [Act.put, List.setIfInBounds_toArray, List.set_cons_zero, List.set_cons_succ, i64_w, i32_w]
      rfl
     refine one_ (i := 8) (N := some 18) (bA 11 511) rfl rfl (one_of HT_.out (by kernel_rfl)) (by decide) (fun K hK => ?_)
     have hcv12 := own_string (P := Tryd.prog) Tryd.underlying105 Tryd.underlying5 Tryd.underlying9 (Kd.own_of_R HO266.out)
     refine value_ (w1 := ?_) (v := ?_) (by rfl) rfl ?_ ?_
     rotate_left 2
     ·go_simp
      constructor
      ·rfl
      ·rfl
     clear hcv12
     refine hK.out _ _ trivial (fun hHeld => ?_)
     clear hK K
     refine norm_ (a' := ?_) ?_ ?_
     rotate_left
     ·show Act.put _ (some 18) _ = _
      simp only [Act.put, List.setIfInBounds_toArray, List.set_cons_zero, List.set_cons_succ, i64_w, i32_w]
      rfl
     exact norm_ (by simp only [putAll, Act.put, List.setIfInBounds_toArray, List.set_cons_zero, List.set_cons_succ]) (hCont (v265) _ ⟨(by (with_reducible repeat (first | apply Kd.R_alloc | apply Kd.R_drewN | apply Kd.R_drew)); exact HO266.out), bq⟩)
    ·skip
     refine Kd.R_lit_step (Kd.int .u8) _ 5 ?hg (N := 17) ?hd (xs := ([(wrap64 (48 + (Int.tmod a0 10))) % 256] : List Int)) (inner := [.int .u8 ((wrap64 (48 + (Int.tmod a0 10))) % 256)]) (ok := fun _ => True) (okp := fun _ => True) ?hr ?hp (fun _ hk => hk) trivial (Below.refl _ _) (Nat.le_refl _) (by simp) ?_; (case hd => rfl); (case hg => rfl); (case hr => first | (go_simp; done) | (go_simp; rfl)); (case hp => exact (Reps.one (show Kd.M (Kd.int .u8) _ _ _ ((wrap64 (48 + (Int.tmod a0 10))) % 256) [.int .u8 ((wrap64 (48 + (Int.tmod a0 10))) % 256)] from rfl) (Reps.none _ _)))
     intro v265 w9 ho10 hb hg_ hnew_
     clear hg_ hnew_
     (first | rw [← Ny264.out] at ho10 | (simp only [Int.reduceToNat] at ho10; rw [← Ny264.out] at ho10))
     have n0_ := Aside0.mk (Kd.R_lower ho10 (below_size bq))
     have n1_ := Aside0.mk (below_step bq hb)
     clear HB
     have HO266 := n0_
     have HB := n1_
     clear n0_ n1_
     clear hb ho10
     refine hK.out _ _ trivial (fun hHeld => ?_)
     clear hK K
     refine norm_ (a' := ?_) ?_ ?_
     rotate_left
     ·show Act.put _ (some 17) _ = _
      simp only [Act.put, List.setIfInBounds_toArray, List.set_cons_zero, List.set_cons_succ, i64_w, i32_w]
      rfl
     refine two_ (i := 2) (j := 8) (Ni := some 12) (Nj := some 18) (bA 11 255) (bA 11 507) rfl rfl rfl rfl (two_of HT_.out (by kernel_rfl)) (by decide) (by decide) (fun K hK => ?_) (fun K hK => ?_)
     ·skip
      refine goes_ Tryd.func47 (by kernel_rfl) rfl #[.int .i64 (wrap64 (Int.tdiv a0 10))] (by rfl) rfl rfl (by (try simp only [List.map_toArray, List.map_cons, List.map_nil]); first | done | rfl | (simp only [List.length_drop, List.length_take]; rfl)) ?_
      with_reducible refine (ih k (by omega) (wrap64 (Int.tdiv a0 10)) t263 _ A6.out).mono ?_
      rintro e w11 ⟨rfl, hb⟩
      refine ⟨_, rfl, ?_⟩
      have n0_ := Aside0.mk (Kd.R_below (by (with_reducible repeat (first | apply Kd.R_alloc | apply Kd.R_drewN | apply Kd.R_drew)); exact HO266.out) hb)
      have n1_ := Aside0.mk (below_step bq hb)
      clear HO266
      clear HB
      have HO266 := n0_
      have HB := n1_
      clear n0_ n1_
      
      
      
      
      refine hK.out _ _ trivial (fun hHeld => ?_)
      clear hK K
      refine norm_ (a' := ?_) ?_ ?_
      rotate_left
      ·show Act.put _ (some 12) _ = _
       simp only [Act.put, List.setIfInBounds_toArray, List.set_cons_zero, List.set_cons_succ, i64_w, i32_w]
       rfl
      refine one_ (i := 8) (N := some 18) (bA 11 511) rfl rfl (one_of HT_.out (by kernel_rfl)) (by decide) (fun K hK => ?_)
      have hcv12 := own_string (P := Tryd.prog) Tryd.underlying105 Tryd.underlying5 Tryd.underlying9 (Kd.own_of_R HO266.out)
      refine value_ (w1 := ?_) (v := ?_) (by rfl) rfl ?_ ?_
      rotate_left 2
      ·go_simp
       constructor
       ·rfl
       ·rfl
      clear hcv12
      refine hK.out _ _ trivial (fun hHeld => ?_)
      clear hK K
      refine norm_ (a' := ?_) ?_ ?_
      rotate_left
      ·show Act.put _ (some 18) _ = _
       simp only [Act.put, List.setIfInBounds_toArray, List.set_cons_zero, List.set_cons_succ, i64_w, i32_w]
       rfl
      exact norm_ (by simp only [putAll, Act.put, List.setIfInBounds_toArray, List.set_cons_zero, List.set_cons_succ]) (hCont (v265) _ ⟨(by (with_reducible repeat (first | apply Kd.R_alloc | apply Kd.R_drewN | apply Kd.R_drew)); exact HO266.out), bq⟩)
     ·skip
      have hcv11 := own_string (P := Tryd.prog) Tryd.underlying105 Tryd.underlying5 Tryd.underlying9 (Kd.own_of_R HO266.out)
      refine value_ (w1 := ?_) (v := ?_) (by rfl) rfl ?_ ?_
      rotate_left 2
      ·go_simp
       constructor
       ·rfl
       ·rfl
      clear hcv11
      refine hK.out _ _ trivial (fun hHeld => ?_)
      clear hK K
      refine norm_ (a' := ?_) ?_ ?_
      rotate_left
      ·show Act.put _ (some 18) _ = _
       simp only [Act.put, List.setIfInBounds_toArray, List.set_cons_zero, List.set_cons_succ, i64_w, i32_w]
       rfl
      refine one_ (i := 2) (N := some 12) (bA 11 511) rfl rfl (one_of HT_.out (by kernel_rfl)) (by decide) (fun K hK => ?_)
      refine goes_ Tryd.func47 (by kernel_rfl) rfl #[.int .i64 (wrap64 (Int.tdiv a0 10))] (by rfl) rfl rfl (by (try simp only [List.map_toArray, List.map_cons, List.map_nil]); first | done | rfl | (simp only [List.length_drop, List.length_take]; rfl)) ?_
      with_reducible refine (ih k (by omega) (wrap64 (Int.tdiv a0 10)) t263 _ A6.out).mono ?_
      rintro e w12 ⟨rfl, hb⟩
      refine ⟨_, rfl, ?_⟩
      have n0_ := Aside0.mk (Kd.R_below (by (with_reducible repeat (first | apply Kd.R_alloc | apply Kd.R_drewN | apply Kd.R_drew)); exact HO266.out) hb)
      have n1_ := Aside0.mk (below_step bq hb)
      clear HO266
      clear HB
      have HO266 := n0_
      have HB := n1_
      clear n0_ n1_
      
      
      
      
      refine hK.out _ _ trivial (fun hHeld => ?_)
      clear hK K
      refine norm_ (a' := ?_) ?_ ?_
      rotate_left
      ·show Act.put _ (some 12) _ = _
       simp only [Act.put, List.setIfInBounds_toArray, List.set_cons_zero, List.set_cons_succ, i64_w, i32_w]
       rfl
      exact norm_ (by simp only [putAll, Act.put, List.setIfInBounds_toArray, List.set_cons_zero, List.set_cons_succ]) (hCont (v265) _ ⟨(by (with_reducible repeat (first | apply Kd.R_alloc | apply Kd.R_drewN | apply Kd.R_drew)); exact HO266.out), bq⟩)
   rintro v265 w13 ⟨h0_, h1_⟩
   have n0_ : Aside0 (Kd.R (Kd.int .u8) 5 w13 w.heap.size (fun _ => True) v265 y264) := ⟨h0_⟩
   have n1_ : Aside0 (Below w.heap.size w w13) := ⟨h1_⟩
   clear HB
   clear h0_ h1_
   have HO266 := n0_
   have HB := n1_
   clear n0_ n1_
   have hHeld := trivial
   refine norm_ (a' := ?_) ?_ ?_
   rotate_left
   ·simp only [putAll, Act.put, List.setIfInBounds_toArray, List.set_cons_zero, List.set_cons_succ]
    rfl
   refine pu HT_ 9 19 1023 ?_
   refine pu HT_ 10 2 2047 ?_
   refine done_ (done_of HT_.out (by kernel_rfl)) ?_
   try go_wp2
   go_ret
   exact ⟨eq_, bq⟩
  ·rw [if_neg c7] at H
   exact absurd H (by simp)
end Go.Proofs.YtkfdfpcdcabcoaaDoor.QName
