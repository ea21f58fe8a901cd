/- Walks: the printed functions, and that each call comes to them (15). -/
import Derived.Test.YtkfdfpcdcabcoaaDoorV
import Derived.Test.YtkfdfpcdcabcoaaDoorGA
import Derived.Test.YtkfdfpcdcabcoaaDoorGG
import Derived.Test.YtkfdfpcdcabcoaaDoorGH
import Derived.Test.YtkfdfpcdcabcoaaDoorGM
import Derived.Test.YtkfdfpcdcabcoaaDoorGN
namespace Go.Proofs.YtkfdfpcdcabcoaaDoor.QName
open Go.RowKit Go.Proofs.YtkfdfpcdcabcoaaDoorW.PrintWords Go.Proofs.YtkfdfpcdcabcoaaDoorW.PrintLast Go.Proofs.YtkfdfpcdcabcoaaDoorW.PrintMore
attribute [local go_sem] max2_int min2_int max_two min_two max_three min_three max_four min_four
set_option linter.unusedVariables false
set_option linter.unusedSimpArgs false

/-! ### laws_FnExactNameOfCurve: function 3 -/
def laws_FnExactNameOfCurve.j0 : Nat → Bool → List (S71) → List (List Int) → List (S74) → List (List Int) → Option (Bool)
 | 0, _, _, _, _, _ => none
 | k + 1, x34, x558000, x558001, x574000, x574001 => if x34 = true then (some false) else ((laws_toCurve.f k x558000 x558001).bind fun bt576 => ((laws_eqCurve.f k x574000 x574001 bt576.1 bt576.2).bind fun t582 => (if t582 = true then (some true) else (some false))))
def laws_FnExactNameOfCurve.f (k : Nat) (l0_0 : List (S71)) (l0_1 : List (List Int)) : Option (Bool) := (laws_szCurve.f k l0_0 l0_1 1048576).bind fun t558 => (if t558 < 0 then (some true) else ((laws_toCurve.f k l0_0 l0_1).bind fun bt559 => ((spec_NameOfCurve.f k bt559.1 bt559.2).bind fun bt565 => ((laws_toCurve.f k l0_0 l0_1).bind fun bt567 => ((impl_NameOfCurve.f k bt567.1 bt567.2).bind fun bt574 => (if bt574.1.toList = bt565.1.toList then (laws_FnExactNameOfCurve.j0 k (bt574.2 != bt565.2) l0_0 l0_1 bt567.1 bt567.2) else (laws_FnExactNameOfCurve.j0 k true l0_0 l0_1 bt567.1 bt567.2)))))))
set_option maxHeartbeats 8000000 in
set_option maxRecDepth 100000 in
theorem laws_FnExactNameOfCurve.calls (k : Nat) (A0_0 : Option Addr) (c0_0 : Nat) (l0_0 : List (S71)) (A0_1 : Option Addr) (c0_1 : Nat) (l0_1 : List (List Int)) (r : Bool) (w : World) (hG : Lib.TabIs Tryd.prog w "internal/strconv.uint64pow10" .u64 Lib.pow10Tab) (hr0_0 : Kd.C k71 w A0_0 l0_0.length l0_0) (hc0_0 : l0_0.length ≤ c0_0) (hr0_1 : Kd.C (Kd.slice 2 (Kd.int .i64)) w A0_1 l0_1.length l0_1) (hc0_1 : l0_1.length ≤ c0_1) (h : laws_FnExactNameOfCurve.f k l0_0 l0_1 = some r) :
  Calls Tryd.prog 3 #[.agg #[.slice A0_0 l0_0.length c0_0, .slice A0_1 l0_1.length c0_1]] w fun e w' => e = .returned (.bool r) ∧ Below w.heap.size w w' := by
 have HG := Aside0.mk hG
 clear hG
 have hu25 := Tryd.underlying25
 have hu31 := Tryd.underlying31
 have HR0_0 := Aside0.mk hr0_0
 have HC0_0 := Aside0.mk hc0_0
 clear hr0_0 hc0_0
 have HR0_1 := Aside0.mk hr0_1
 have HC0_1 := Aside0.mk hc0_1
 clear hr0_1 hc0_1
 have HB := Aside0.mk (Below.refl w.heap.size w)
 have H : ((laws_szCurve.f k l0_0 l0_1 1048576).bind fun t558 => (if t558 < 0 then (some true) else ((laws_toCurve.f k l0_0 l0_1).bind fun bt559 => ((spec_NameOfCurve.f k bt559.1 bt559.2).bind fun bt565 => ((laws_toCurve.f k l0_0 l0_1).bind fun bt567 => ((impl_NameOfCurve.f k bt567.1 bt567.2).bind fun bt574 => (if bt574.1.toList = bt565.1.toList then (laws_FnExactNameOfCurve.j0 k (bt574.2 != bt565.2) l0_0 l0_1 bt567.1 bt567.2) else (laws_FnExactNameOfCurve.j0 k true l0_0 l0_1 bt567.1 bt567.2)))))))) = some r := h
 clear h
 replace H := Option.bind_eq_some_iff.mp H
 obtain ⟨t558, A20, H⟩ := H
 replace H : (if t558 < 0 then (some true) else ((laws_toCurve.f k l0_0 l0_1).bind fun bt559 => ((spec_NameOfCurve.f k bt559.1 bt559.2).bind fun bt565 => ((laws_toCurve.f k l0_0 l0_1).bind fun bt567 => ((impl_NameOfCurve.f k bt567.1 bt567.2).bind fun bt574 => (if bt574.1.toList = bt565.1.toList then (laws_FnExactNameOfCurve.j0 k (bt574.2 != bt565.2) l0_0 l0_1 bt567.1 bt567.2) else (laws_FnExactNameOfCurve.j0 k true l0_0 l0_1 bt567.1 bt567.2))))))) = some r := H
 have A2 := Aside0.mk A20
 clear A20
 by_cases c3 : t558 < 0
 ·rw [if_pos c3] at H
  have c3b0 : decide (t558 < 0) = true := decide_eq_true c3
  clear c3
  obtain rfl := Option.some.inj H
  go_enter Tryd.func3, Tryd.ntmps3
  go_wp2_with (first | ((with_reducible refine gate_dst (N := 1) rfl ?_); refine box_event ?hg (N := 1) ?hd (cs := #[.slice A0_0 l0_0.length c0_0, .slice A0_1 l0_1.length c0_1]) (t := 25) ?hr ?_; (case hd => rfl); (case hg => rfl); (case hr => first | (go_simp; done) | (go_simp; rfl)); intro gb557 hg w4 hbox hb; have BK557 := Aside0.mk (hbox); have GW557 := Aside0.mk ((by rw [hg]; exact (below_size bq) : w.heap.size ≤ gb557)); have GE557 := Aside0.mk ((by rw [hg]; exact (below_size bq) : w.heap.size ≤ gb557)); replace HB := Aside0.mk (below_step bq hb); clear hb hbox hg; have hcz5_0 := bc0 BK557; have hcz5_1 := bc1 BK557; have hfz5_0 := blk_frozen BK557.out 0; have hfz5_1 := blk_frozen BK557.out 1) | ((with_reducible refine gate_callee (f := 5) rfl ?_); refine gL 11 Tryd.func5 #[.agg #[.slice A0_0 l0_0.length c0_0, .slice A0_1 l0_1.length c0_1], .int .i64 1048576] ?_; (with_reducible refine (laws_szCurve.calls k _ _ l0_0 _ _ l0_1 1048576 t558 _ ?side1 ?side2 ?side3 ?side4 A2.out).mono ?_); (case side1 => exact kc HR0_0); (case side2 => exact HC0_0.out); (case side3 => exact kc HR0_1); (case side4 => exact HC0_1.out); rintro e w6 ⟨rfl, hb⟩; refine ⟨_, rfl, ?_⟩; replace BK557 := Aside0.mk (blk_below (g := gb557) (o := .cells #[.slice A0_0 l0_0.length c0_0, .slice A0_1 l0_1.length c0_1] 25 (0, 0)) (bk BK557) hb); replace HB := Aside0.mk (below_step bq hb); (try clear hb)))
  go_ret
  exact ⟨eq_, bq⟩
 ·rw [if_neg c3] at H
  have c3b0 : decide (t558 < 0) = false := decide_eq_false c3
  clear c3
  replace H := Option.bind_eq_some_iff.mp H
  obtain ⟨⟨t559, t562⟩, A70, H⟩ := H
  replace H : ((spec_NameOfCurve.f k t559 t562).bind fun bt565 => ((laws_toCurve.f k l0_0 l0_1).bind fun bt567 => ((impl_NameOfCurve.f k bt567.1 bt567.2).bind fun bt574 => (if bt574.1.toList = bt565.1.toList then (laws_FnExactNameOfCurve.j0 k (bt574.2 != bt565.2) l0_0 l0_1 bt567.1 bt567.2) else (laws_FnExactNameOfCurve.j0 k true l0_0 l0_1 bt567.1 bt567.2))))) = some r := H
  have A7 := Aside0.mk A70
  clear A70
  replace H := Option.bind_eq_some_iff.mp H
  obtain ⟨⟨t565, t566⟩, A80, H⟩ := H
  replace H : ((laws_toCurve.f k l0_0 l0_1).bind fun bt567 => ((impl_NameOfCurve.f k bt567.1 bt567.2).bind fun bt574 => (if bt574.1.toList = t565.toList then (laws_FnExactNameOfCurve.j0 k (bt574.2 != t566) l0_0 l0_1 bt567.1 bt567.2) else (laws_FnExactNameOfCurve.j0 k true l0_0 l0_1 bt567.1 bt567.2)))) = some r := H
  have A8 := Aside0.mk A80
  clear A80
  replace H := Option.bind_eq_some_iff.mp H
  obtain ⟨⟨t567, t570⟩, A90, H⟩ := H
  replace H : ((impl_NameOfCurve.f k t567 t570).bind fun bt574 => (if bt574.1.toList = t565.toList then (laws_FnExactNameOfCurve.j0 k (bt574.2 != t566) l0_0 l0_1 t567 t570) else (laws_FnExactNameOfCurve.j0 k true l0_0 l0_1 t567 t570))) = some r := H
  have A9 := Aside0.mk A90
  clear A90
  replace H := Option.bind_eq_some_iff.mp H
  obtain ⟨⟨t574, t575⟩, A100, H⟩ := H
  replace H : (if t574.toList = t565.toList then (laws_FnExactNameOfCurve.j0 k (t575 != t566) l0_0 l0_1 t567 t570) else (laws_FnExactNameOfCurve.j0 k true l0_0 l0_1 t567 t570)) = some r := H
  have A10 := Aside0.mk A100
  clear A100
  have HC11 := Aside0.mk H
  clear H
  go_enter Tryd.func3, Tryd.ntmps3
  go_upto_region 8 with (first | ((with_reducible refine gate_dst (N := 1) rfl ?_); refine box_event ?hg (N := 1) ?hd (cs := #[.slice A0_0 l0_0.length c0_0, .slice A0_1 l0_1.length c0_1]) (t := 25) ?hr ?_; (case hd => rfl); (case hg => rfl); (case hr => first | (go_simp; done) | (go_simp; rfl)); intro gb557 hg w12 hbox hb; have BK557 := Aside0.mk (hbox); have GW557 := Aside0.mk ((by rw [hg]; exact (below_size bq) : w.heap.size ≤ gb557)); have GE557 := Aside0.mk ((by rw [hg]; exact (below_size bq) : w.heap.size ≤ gb557)); replace HB := Aside0.mk (below_step bq hb); clear hb hbox hg; have hcz13_0 := bc0 BK557; have hcz13_1 := bc1 BK557; have hfz13_0 := blk_frozen BK557.out 0; have hfz13_1 := blk_frozen BK557.out 1) | ((with_reducible refine gate_callee (f := 5) rfl ?_); refine gL 11 Tryd.func5 #[.agg #[.slice A0_0 l0_0.length c0_0, .slice A0_1 l0_1.length c0_1], .int .i64 1048576] ?_; (with_reducible refine (laws_szCurve.calls k _ _ l0_0 _ _ l0_1 1048576 t558 _ ?side1 ?side2 ?side3 ?side4 A2.out).mono ?_); (case side1 => exact kc HR0_0); (case side2 => exact HC0_0.out); (case side3 => exact kc HR0_1); (case side4 => exact HC0_1.out); rintro e w14 ⟨rfl, hb⟩; refine ⟨_, rfl, ?_⟩; replace BK557 := Aside0.mk (blk_below (g := gb557) (o := .cells #[.slice A0_0 l0_0.length c0_0, .slice A0_1 l0_1.length c0_1] 25 (0, 0)) (bk BK557) hb); replace HB := Aside0.mk (below_step bq hb); (try clear hb); have hcz15_0 := bc0 BK557; have hcz15_1 := bc1 BK557; have hfz15_0 := blk_frozen BK557.out 0; have hfz15_1 := blk_frozen BK557.out 1) | ((with_reducible refine gate_callee (f := 7) rfl ?_); refine gL 16 Tryd.func7 #[.agg #[.slice A0_0 l0_0.length c0_0, .slice A0_1 l0_1.length c0_1]] ?_; (with_reducible refine (laws_toCurve.calls k _ _ l0_0 _ _ l0_1 t559 t562 _ ?side1 ?side2 ?side3 ?side4 A7.out).mono ?_); (case side1 => exact kc HR0_0); (case side2 => exact HC0_0.out); (case side3 => exact kc HR0_1); (case side4 => exact HC0_1.out); rintro e w16 ⟨v560, v563, rfl, ho0, ho1, hb⟩; refine ⟨_, rfl, ?_⟩; have HO561 := Aside0.mk (Kd.S_lower ho0 (below_size bq)); have HO564 := Aside0.mk (Kd.S_lower ho1 (below_size bq)); replace BK557 := Aside0.mk (blk_below (g := gb557) (o := .cells #[.slice A0_0 l0_0.length c0_0, .slice A0_1 l0_1.length c0_1] 25 (0, 0)) (bk BK557) hb); replace HB := Aside0.mk (below_step bq hb); (try clear hb); (try clear ho0); (try clear ho1); obtain ⟨Ao17, co17, eo17⟩ := Kd.S_slice HO561.out; subst eo17; obtain ⟨Ao18, co18, eo18⟩ := Kd.S_slice HO564.out; subst eo18) | ((with_reducible refine gate_callee (f := 6) rfl ?_); refine gL 17 Tryd.func6 #[.agg #[.slice Ao17 t559.length co17, .slice Ao18 t562.length co18]] ?_; (with_reducible refine (spec_NameOfCurve.calls k _ _ t559 _ _ t562 t565 t566 _ ?side1 ?side2 ?side3 ?side4 A8.out).mono ?_); (case side1 => repeat (first | exact (Kd.S_reads' HO561.out).2.2 | (with_reducible refine Kd.C_alloc ?_ _) | (with_reducible refine Kd.C_drewN ?_ _) | (with_reducible refine Kd.C_drew ?_))); (case side2 => exact (Kd.S_reads' HO561.out).2.1); (case side3 => repeat (first | exact (Kd.S_reads' HO564.out).2.2 | (with_reducible refine Kd.C_alloc ?_ _) | (with_reducible refine Kd.C_drewN ?_ _) | (with_reducible refine Kd.C_drew ?_))); (case side4 => exact (Kd.S_reads' HO564.out).2.1); rintro e w19 ⟨rfl, hb⟩; refine ⟨_, rfl, ?_⟩; replace HO561 := Aside0.mk (Kd.S_below (by (with_reducible repeat (first | apply Kd.S_alloc | apply Kd.S_drewN | apply Kd.S_drew)); exact HO561.out) hb); replace HO564 := Aside0.mk (Kd.S_below (by (with_reducible repeat (first | apply Kd.S_alloc | apply Kd.S_drewN | apply Kd.S_drew)); exact HO564.out) hb); replace BK557 := Aside0.mk (blk_below (g := gb557) (o := .cells #[.slice A0_0 l0_0.length c0_0, .slice A0_1 l0_1.length c0_1] 25 (0, 0)) (bk BK557) hb); replace HB := Aside0.mk (below_step bq hb); (try clear hb); have hcz20_0 := bc0 BK557; have hcz20_1 := bc1 BK557; have hfz20_0 := blk_frozen BK557.out 0; have hfz20_1 := blk_frozen BK557.out 1) | ((with_reducible refine gate_callee (f := 7) rfl ?_); refine gL 21 Tryd.func7 #[.agg #[.slice A0_0 l0_0.length c0_0, .slice A0_1 l0_1.length c0_1]] ?_; (with_reducible refine (laws_toCurve.calls k _ _ l0_0 _ _ l0_1 t567 t570 _ ?side1 ?side2 ?side3 ?side4 A9.out).mono ?_); (case side1 => exact kc HR0_0); (case side2 => exact HC0_0.out); (case side3 => exact kc HR0_1); (case side4 => exact HC0_1.out); rintro e w21 ⟨v568, v571, rfl, ho0, ho1, hb⟩; refine ⟨_, rfl, ?_⟩; have HO569 := Aside0.mk (Kd.S_lower (Kd.S_new' ho0 (Kd.S_lt (by (with_reducible repeat (first | apply Kd.S_alloc | apply Kd.S_drewN | apply Kd.S_drew)); exact HO561.out))) (below_size bq)); replace HO561 := Aside0.mk (Kd.S_elder' (by (with_reducible repeat (first | apply Kd.S_alloc | apply Kd.S_drewN | apply Kd.S_drew)); exact HO561.out) (Kd.S_base ho0) hb); have HO572 := Aside0.mk (Kd.S_lower (Kd.S_new' ho1 (Kd.S_lt (by (with_reducible repeat (first | apply Kd.S_alloc | apply Kd.S_drewN | apply Kd.S_drew)); exact HO564.out))) (below_size bq)); replace HO564 := Aside0.mk (Kd.S_elder' (by (with_reducible repeat (first | apply Kd.S_alloc | apply Kd.S_drewN | apply Kd.S_drew)); exact HO564.out) (Kd.S_base ho1) hb); replace BK557 := Aside0.mk (blk_below (g := gb557) (o := .cells #[.slice A0_0 l0_0.length c0_0, .slice A0_1 l0_1.length c0_1] 25 (0, 0)) (bk BK557) hb); replace HB := Aside0.mk (below_step bq hb); (try clear hb); (try clear ho0); (try clear ho1)) | ((with_reducible refine gate_dst (N := 6) rfl ?_); refine box_event ?hg (N := 6) ?hd (cs := #[.slice none 0 0, .slice none 0 0]) (t := 31) ?hr ?_; (case hd => rfl); (case hg => rfl); (case hr => first | (go_simp; done) | (go_simp; rfl)); intro gb573 hg w22 hbox hb; replace HO561 := Aside0.mk (Kd.S_below (by (with_reducible repeat (first | apply Kd.S_alloc | apply Kd.S_drewN | apply Kd.S_drew)); exact HO561.out) hb); replace HO564 := Aside0.mk (Kd.S_below (by (with_reducible repeat (first | apply Kd.S_alloc | apply Kd.S_drewN | apply Kd.S_drew)); exact HO564.out) hb); replace HO569 := Aside0.mk (Kd.S_below (by (with_reducible repeat (first | apply Kd.S_alloc | apply Kd.S_drewN | apply Kd.S_drew)); exact HO569.out) hb); replace HO572 := Aside0.mk (Kd.S_below (by (with_reducible repeat (first | apply Kd.S_alloc | apply Kd.S_drewN | apply Kd.S_drew)); exact HO572.out) hb); have BK573 := Aside0.mk (hbox); have GW573 := Aside0.mk ((by rw [hg]; exact (below_size bq) : w.heap.size ≤ gb573)); have GE573 := Aside0.mk ((by rw [hg]; exact (below_size bq) : w.heap.size ≤ gb573)); replace HB := Aside0.mk (below_step bq hb); have NB557_573 := Aside0.mk ((by rw [hg]; exact Nat.ne_of_lt (blk_lt (g := gb557) (o := .cells #[.slice A0_0 l0_0.length c0_0, .slice A0_1 l0_1.length c0_1] 25 (0, 0)) (bk BK557)) : gb557 ≠ gb573)); have NB573_557 := Aside0.mk ((by rw [hg]; exact Nat.ne_of_gt (blk_lt (g := gb557) (o := .cells #[.slice A0_0 l0_0.length c0_0, .slice A0_1 l0_1.length c0_1] 25 (0, 0)) (bk BK557)) : gb573 ≠ gb557)); replace BK557 := Aside0.mk (blk_below (g := gb557) (o := .cells #[.slice A0_0 l0_0.length c0_0, .slice A0_1 l0_1.length c0_1] 25 (0, 0)) (bk BK557) hb); clear hb hbox hg; obtain ⟨Ao23, co23, eo23⟩ := Kd.S_slice HO569.out; subst eo23; have hnb24 := NB573_557.out; have hnc24 := NB557_573.out; have hcz25_0 := bc0 BK573; have hcz25_1 := bc1 BK573; have hfz25_0 := blk_frozen BK573.out 0; have hfz25_1 := blk_frozen BK573.out 1; obtain ⟨Ao26, co26, eo26⟩ := Kd.S_slice HO572.out; subst eo26) | ((with_reducible refine gate_callee (f := 8) rfl ?_); refine gL 24 Tryd.func8 #[.agg #[.slice Ao23 t567.length co23, .slice Ao26 t570.length co26]] ?_; (with_reducible refine (impl_NameOfCurve.calls k _ _ t567 _ _ t570 t574 t575 _ ?sideG ?side1 ?side2 ?side3 ?side4 A10.out).mono ?_); (case sideG => exact tab_below HG.out bq); (case side1 => refine (Kd.S_reads' (e := 74) (base := w.heap.size) (ok := fun k_ => (True ∧ some k_ ≠ (.slice Ao17 t559.length co17 : Value).ownBlock)) (n := t567.length) (c := co23) ?_).2.2; exact (by (with_reducible repeat (first | apply Kd.S_alloc | apply Kd.S_drewN | apply Kd.S_drew)); exact (Kd.S_mono (Kd.S_far (p := ⟨gb573, 1, none⟩) (Kd.S_far (p := ⟨gb573, 0, none⟩) (Kd.S_types HO569.out BK573.out (by decide)) (fun _ hk => hk.2) (.slice Ao23 t567.length co23)) (fun _ hk => hk.2) (.slice Ao26 t570.length co26)) (fun _ h_ => h_.1)))); (case side2 => exact (Kd.S_reads' HO569.out).2.1); (case side3 => refine (Kd.S_reads' (e := 35) (base := w.heap.size) (ok := fun k_ => (True ∧ some k_ ≠ (.slice Ao18 t562.length co18 : Value).ownBlock)) (n := t570.length) (c := co26) ?_).2.2; exact (by (with_reducible repeat (first | apply Kd.S_alloc | apply Kd.S_drewN | apply Kd.S_drew)); exact (Kd.S_mono (Kd.S_far (p := ⟨gb573, 1, none⟩) (Kd.S_far (p := ⟨gb573, 0, none⟩) (Kd.S_types HO572.out BK573.out (by decide)) (fun _ hk => hk.2) (.slice Ao23 t567.length co23)) (fun _ hk => hk.2) (.slice Ao26 t570.length co26)) (fun _ h_ => h_.1)))); (case side4 => exact (Kd.S_reads' HO572.out).2.1); rintro e w27 ⟨rfl, hb⟩; refine ⟨_, rfl, ?_⟩; replace HO561 := Aside0.mk (Kd.S_below (by (with_reducible repeat (first | apply Kd.S_alloc | apply Kd.S_drewN | apply Kd.S_drew)); exact (Kd.S_mono (Kd.S_far (p := ⟨gb573, 1, none⟩) (Kd.S_far (p := ⟨gb573, 0, none⟩) (Kd.S_types HO561.out BK573.out (by decide)) (fun _ hk => hk.2) (.slice Ao23 t567.length co23)) (fun _ hk => hk.2) (.slice Ao26 t570.length co26)) (fun _ h_ => h_.1))) hb); replace HO564 := Aside0.mk (Kd.S_below (by (with_reducible repeat (first | apply Kd.S_alloc | apply Kd.S_drewN | apply Kd.S_drew)); exact (Kd.S_mono (Kd.S_far (p := ⟨gb573, 1, none⟩) (Kd.S_far (p := ⟨gb573, 0, none⟩) (Kd.S_types HO564.out BK573.out (by decide)) (fun _ hk => hk.2) (.slice Ao23 t567.length co23)) (fun _ hk => hk.2) (.slice Ao26 t570.length co26)) (fun _ h_ => h_.1))) hb); replace HO569 := Aside0.mk (Kd.S_below (by (with_reducible repeat (first | apply Kd.S_alloc | apply Kd.S_drewN | apply Kd.S_drew)); exact (Kd.S_mono (Kd.S_far (p := ⟨gb573, 1, none⟩) (Kd.S_far (p := ⟨gb573, 0, none⟩) (Kd.S_types HO569.out BK573.out (by decide)) (fun _ hk => hk.2) (.slice Ao23 t567.length co23)) (fun _ hk => hk.2) (.slice Ao26 t570.length co26)) (fun _ h_ => h_.1))) hb); replace HO572 := Aside0.mk (Kd.S_below (by (with_reducible repeat (first | apply Kd.S_alloc | apply Kd.S_drewN | apply Kd.S_drew)); exact (Kd.S_mono (Kd.S_far (p := ⟨gb573, 1, none⟩) (Kd.S_far (p := ⟨gb573, 0, none⟩) (Kd.S_types HO572.out BK573.out (by decide)) (fun _ hk => hk.2) (.slice Ao23 t567.length co23)) (fun _ hk => hk.2) (.slice Ao26 t570.length co26)) (fun _ h_ => h_.1))) hb); replace BK557 := Aside0.mk (blk_below (g := gb557) (o := .cells #[.slice A0_0 l0_0.length c0_0, .slice A0_1 l0_1.length c0_1] 25 (0, 0)) (by (with_reducible repeat (first | refine blk_drewN ?_ _ | refine blk_drew ?_ | refine blk_alloc ?_ _)); refine blk_far ?_ NB557_573.out _; (with_reducible repeat (first | refine blk_drewN ?_ _ | refine blk_drew ?_ | refine blk_alloc ?_ _)); refine blk_far ?_ NB557_573.out _; (with_reducible repeat (first | refine blk_drewN ?_ _ | refine blk_drew ?_ | refine blk_alloc ?_ _)); exact BK557.out) hb); replace BK573 := Aside0.mk (blk_below (g := gb573) (o := .cells #[.slice Ao23 t567.length co23, .slice Ao26 t570.length co26] 31 (0, 0)) (by (with_reducible repeat (first | refine blk_drewN ?_ _ | refine blk_drew ?_ | refine blk_alloc ?_ _)); refine blk_put (cs := #[.slice Ao23 t567.length co23, .slice none 0 0]) ?_ 1 _ rfl; (with_reducible repeat (first | refine blk_drewN ?_ _ | refine blk_drew ?_ | refine blk_alloc ?_ _)); refine blk_put (cs := #[.slice none 0 0, .slice none 0 0]) ?_ 0 _ rfl; (with_reducible repeat (first | refine blk_drewN ?_ _ | refine blk_drew ?_ | refine blk_alloc ?_ _)); exact BK573.out) hb); replace HB := Aside0.mk (below_step bq hb); (try clear hb); (try clear hk)))
  (try simp only [Act.put, List.setIfInBounds_toArray, List.set_cons_zero, List.set_cons_succ])
  go_cut [34] (fun v34 wc => ∃ (kq : Nat) (x34_10 : Bool), v34 = .bool x34_10 ∧ Aside0 (laws_FnExactNameOfCurve.j0 kq x34_10 l0_0 l0_1 t567 t570 = some r) ∧ Aside0 (kq ≤ k) ∧ Aside0 (Kd.S k74 74 wc w.heap.size (fun _ => True) (.slice Ao23 t567.length co23) t567) ∧ Aside0 (Kd.S (Kd.slice 2 (Kd.int .i64)) 35 wc w.heap.size (fun _ => True) (.slice Ao26 t570.length co26) t570) ∧ Aside0 (wc.heap[gb557]? = some (.cells #[(.slice A0_0 l0_0.length c0_0), (.slice A0_1 l0_1.length c0_1)] 25 (0, 0))) ∧ Aside0 (wc.heap[gb573]? = some (.cells #[(.slice Ao23 t567.length co23), (.slice Ao26 t570.length co26)] 31 (0, 0))) ∧ Aside0 (Below w.heap.size w wc))
  case first =>
   have H := HC11.out
   clear HC11
   by_cases c28 : t574.toList = t565.toList
   ·rw [if_pos c28] at H
    have c28b0 : (t574.toList == t565.toList) = true := beq_iff_eq.mpr c28
    have c28b1 : (t574.toList != t565.toList) = false := bne_eq_false_iff_eq.mpr c28
    clear c28
    (first | rw [c28b0] | (simp only [i64_w, i32_w]; rw [c28b0]) | skip)
    have H' := Aside0.mk H
    clear H
    go_wp2
    go_meet
    case rel => exact ⟨_, ((t575 != t566)), (by first | rfl | (simp; done) | (simp [*]; done)), H', ⟨by first | omega | exact Nat.le_refl _⟩, ⟨by (with_reducible repeat (first | apply Kd.S_alloc | apply Kd.S_drewN | apply Kd.S_drew)); exact Kd.S_mono HO569.out (fun _ hk => trivial)⟩, ⟨by (with_reducible repeat (first | apply Kd.S_alloc | apply Kd.S_drewN | apply Kd.S_drew)); exact Kd.S_mono HO572.out (fun _ hk => trivial)⟩, ⟨bk BK557⟩, ⟨bk BK573⟩, ⟨bq⟩⟩
   ·rw [if_neg c28] at H
    have c28b0 : (t574.toList == t565.toList) = false := beq_eq_false_iff_ne.mpr c28
    have c28b1 : (t574.toList != t565.toList) = true := bne_iff_ne.mpr c28
    (first | rw [c28b0] | (simp only [i64_w, i32_w]; rw [c28b0]) | skip)
    have H' := Aside0.mk H
    clear H
    go_wp2
    go_meet
    case rel => exact ⟨_, (true), (by first | rfl | (simp; done) | (simp [*]; done)), H', ⟨by first | omega | exact Nat.le_refl _⟩, ⟨by (with_reducible repeat (first | apply Kd.S_alloc | apply Kd.S_drewN | apply Kd.S_drew)); exact Kd.S_mono HO569.out (fun _ hk => trivial)⟩, ⟨by (with_reducible repeat (first | apply Kd.S_alloc | apply Kd.S_drewN | apply Kd.S_drew)); exact Kd.S_mono HO572.out (fun _ hk => trivial)⟩, ⟨bk BK557⟩, ⟨bk BK573⟩, ⟨bq⟩⟩
  case rest =>
   clear HC11
   try clear c2
   try clear p2
   try clear c3
   try clear c3b0
   try clear c5
   try clear c6
   try clear c7
   try clear c8
   try clear c24
   try clear c28
   try clear c28b0
   try clear c28b1
   try clear hcz13_0
   try clear hcz13_1
   try clear hcz15_0
   try clear hcz15_1
   try clear hcz20_0
   try clear hcz20_1
   try clear hcz25_0
   try clear hcz25_1
   try clear hcz5_0
   try clear hcz5_1
   try clear hfz13_0
   try clear hfz13_1
   try clear hfz15_0
   try clear hfz15_1
   try clear hfz20_0
   try clear hfz20_1
   try clear hfz25_0
   try clear hfz25_1
   try clear hfz5_0
   try clear hfz5_1
   obtain ⟨kq, x34_10, rfl, HA, HJ10, HO_574000, HO_574001, BK557, BK573, HB⟩ := hcut
   cases kq with
   | zero => exact absurd HA.out (by simp [laws_FnExactNameOfCurve.j0])
   | succ kj10 =>
    have H := HA.out
    clear HA
    simp only [laws_FnExactNameOfCurve.j0] at H
    by_cases c29 : x34_10 = true
    ·subst c29
     have H1 : (some false) = some r := by rw [if_pos rfl] at H; exact H
     clear H
     have H := H1
     clear H1
     obtain rfl := Option.some.inj H
     go_wp2
     go_ret
     exact ⟨eq_, bq⟩
    ·replace c29 := Bool.eq_false_iff.mpr c29
     subst c29
     have H1 : ((laws_toCurve.f kj10 l0_0 l0_1).bind fun bt576 => ((laws_eqCurve.f kj10 t567 t570 bt576.1 bt576.2).bind fun t582 => (if t582 = true then (some true) else (some false)))) = some r := by rw [if_neg (show ¬ (false = true) by decide)] at H; exact H
     clear H
     have H := H1
     clear H1
     replace H := Option.bind_eq_some_iff.mp H
     obtain ⟨⟨t576, t579⟩, A300, H⟩ := H
     replace H : ((laws_eqCurve.f kj10 t567 t570 t576 t579).bind fun t582 => (if t582 = true then (some true) else (some false))) = some r := H
     have A30 := Aside0.mk A300
     clear A300
     replace H := Option.bind_eq_some_iff.mp H
     obtain ⟨t582, A310, H⟩ := H
     replace H : (if t582 = true then (some true) else (some false)) = some r := H
     have A31 := Aside0.mk A310
     clear A310
     by_cases c32 : t582 = true
     ·subst c32
      have H1 : (some true) = some r := by rw [if_pos rfl] at H; exact H
      clear H
      have H := H1
      clear H1
      obtain rfl := Option.some.inj H
      try go_wp2
      have n0_ := Aside0.mk (Kd.S_drew HO_574000.out)
      have n1_ := Aside0.mk (Kd.S_drew HO_574001.out)
      have n2_ := Aside0.mk (blk_drew BK557.out)
      have n3_ := Aside0.mk (blk_drew BK573.out)
      have n4_ := Aside0.mk (below_drew1 HB.out)
      clear HO_574000
      clear HO_574001
      clear BK557
      clear BK573
      clear HB
      have HO_574000 := n0_
      have HO_574001 := n1_
      have BK557 := n2_
      have BK573 := n3_
      have HB := n4_
      clear n0_ n1_ n2_ n3_ n4_
      refine start_ (n := 5) (S := fun w' => w'.cell? ⟨gb573, 0, none⟩ = some (.slice Ao23 t567.length co23) ∧ w'.cell? ⟨gb573, 1, none⟩ = some (.slice Ao26 t570.length co26) ∧ w'.cell? ⟨gb557, 0, none⟩ = some (.slice A0_0 l0_0.length c0_0) ∧ w'.cell? ⟨gb557, 1, none⟩ = some (.slice A0_1 l0_1.length c0_1)) (ds := []) (bA 5 0) (by kernel_rfl) rfl (by kernel_rfl) ⟨(blk_cell BK573.out 0).trans rfl, (blk_cell BK573.out 1).trans rfl, (blk_cell BK557.out 0).trans rfl, (blk_cell BK557.out 1).trans rfl⟩ (fun hHeld => ?_)
      generalize wc.drew = w33 at HO_574000 HO_574001 BK557 BK573 HB hHeld ⊢
      refine take_ (i := 0) (N := some 35) (v := ?_) (a' := ?_) (bA 5 1) rfl rfl (by kernel_rfl) (fun _ _ _ h => h) (Or.inl ⟨by rfl, ?_⟩) hHeld ?_ ?_
      rotate_left
      ·rintro w' ⟨s0, s1, s2, s3⟩
       go_simp
       with_reducible rfl
      rotate_left
      ·simp only [Act.put, List.setIfInBounds_toArray, List.set_cons_zero, List.set_cons_succ, i64_w, i32_w]
       rfl
      refine take_ (i := 1) (N := some 36) (v := ?_) (a' := ?_) (bA 5 3) rfl rfl (by kernel_rfl) (fun _ _ _ h => h) (Or.inl ⟨by rfl, ?_⟩) hHeld ?_ ?_
      rotate_left
      ·rintro w' ⟨s0, s1, s2, s3⟩
       go_simp
       with_reducible rfl
      rotate_left
      ·simp only [Act.put, List.setIfInBounds_toArray, List.set_cons_zero, List.set_cons_succ, i64_w, i32_w]
       rfl
      refine one_ (i := 2) (N := some 37) (bA 5 7) rfl rfl (by kernel_rfl) (by decide) (fun K hK => ?_)
      refine goes_ Tryd.func7 (by kernel_rfl) rfl #[.agg #[.slice A0_0 l0_0.length c0_0, .slice A0_1 l0_1.length c0_1]] (by rfl) rfl rfl (by (try simp only [List.map_toArray, List.map_cons, List.map_nil]); first | done | rfl | (simp only [List.length_drop, List.length_take]; rfl)) ?_
      with_reducible refine (laws_toCurve.calls kj10 _ _ l0_0 _ _ l0_1 t576 t579 _ ?side1 ?side2 ?side3 ?side4 A30.out).mono ?_
      (case side1 => exact kc HR0_0)
      (case side2 => exact HC0_0.out)
      (case side3 => exact kc HR0_1)
      (case side4 => exact HC0_1.out)
      rintro e w34 ⟨v577, v580, rfl, ho0, ho1, hb⟩
      refine ⟨_, rfl, ?_⟩
      have n0_ := Aside0.mk (Kd.S_elder' (by (with_reducible repeat (first | apply Kd.S_alloc | apply Kd.S_drewN | apply Kd.S_drew)); exact HO_574000.out) (Kd.S_base ho0) hb)
      have n1_ := Aside0.mk (Kd.S_elder' (by (with_reducible repeat (first | apply Kd.S_alloc | apply Kd.S_drewN | apply Kd.S_drew)); exact HO_574001.out) (Kd.S_base ho1) hb)
      have n2_ := Aside0.mk (Kd.S_lower (Kd.S_new' ho0 (Kd.S_lt (by (with_reducible repeat (first | apply Kd.S_alloc | apply Kd.S_drewN | apply Kd.S_drew)); exact HO_574000.out))) (below_size bq))
      have n3_ := Aside0.mk (Kd.S_lower (Kd.S_new' ho1 (Kd.S_lt (by (with_reducible repeat (first | apply Kd.S_alloc | apply Kd.S_drewN | apply Kd.S_drew)); exact HO_574001.out))) (below_size bq))
      have n4_ := Aside0.mk (blk_below (g := gb557) (o := .cells #[.slice A0_0 l0_0.length c0_0, .slice A0_1 l0_1.length c0_1] 25 (0, 0)) (bk BK557) hb)
      have n5_ := Aside0.mk (blk_below (g := gb573) (o := .cells #[.slice Ao23 t567.length co23, .slice Ao26 t570.length co26] 31 (0, 0)) (bk BK573) hb)
      have n6_ := Aside0.mk (below_step bq hb)
      clear HO_574000
      clear HO_574001
      clear BK557
      clear BK573
      clear HB
      have HO_574000 := n0_
      have HO_574001 := n1_
      have HO578 := n2_
      have HO581 := n3_
      have BK557 := n4_
      have BK573 := n5_
      have HB := n6_
      clear n0_ n1_ n2_ n3_ n4_ n5_ n6_
      
      
      
      
      (try clear ho0)
      (try clear ho1)
      obtain ⟨Ao35, co35, eo35⟩ := Kd.S_slice HO578.out
      (first | subst eo35 | (injection eo35 with f1_ f2_ f3_; have f4_ := f1_.symm; have f5_ := f3_.symm; clear f1_ f2_ f3_; subst f4_; subst f5_))
      obtain ⟨Ao36, co36, eo36⟩ := Kd.S_slice HO581.out
      (first | subst eo36 | (injection eo36 with f1_ f2_ f3_; have f4_ := f1_.symm; have f5_ := f3_.symm; clear f1_ f2_ f3_; subst f4_; subst f5_))
      refine hK.out _ _ ⟨(blk_cell BK573.out 0).trans rfl, (blk_cell BK573.out 1).trans rfl, (blk_cell BK557.out 0).trans rfl, (blk_cell BK557.out 1).trans rfl⟩ (fun hHeld => ?_)
      clear hK K
      refine norm_ (a' := ?_) ?_ ?_
      rotate_left
      ·show Act.put _ (some 37) _ = _
       simp only [Act.put, List.setIfInBounds_toArray, List.set_cons_zero, List.set_cons_succ, i64_w, i32_w]
       rfl
      refine one_ (i := 3) (N := some 38) (bA 5 15) rfl rfl (by kernel_rfl) (by decide) (fun K hK => ?_)
      refine goes_ Tryd.func9 (by kernel_rfl) rfl #[.agg #[.slice Ao23 t567.length co23, .slice Ao26 t570.length co26], .agg #[.slice Ao35 t576.length co35, .slice Ao36 t579.length co36]] (by rfl) rfl rfl (by (try simp only [List.map_toArray, List.map_cons, List.map_nil]); first | done | rfl | (simp only [List.length_drop, List.length_take]; rfl)) ?_
      with_reducible refine (laws_eqCurve.calls kj10 _ _ t567 _ _ t570 _ _ t576 _ _ t579 true _ ?side1 ?side2 ?side3 ?side4 ?side5 ?side6 ?side7 ?side8 A31.out).mono ?_
      (case side1 => repeat (first | exact (Kd.S_reads' HO_574000.out).2.2 | (with_reducible refine Kd.C_alloc ?_ _) | (with_reducible refine Kd.C_drewN ?_ _) | (with_reducible refine Kd.C_drew ?_)))
      (case side2 => exact (Kd.S_reads' HO_574000.out).2.1)
      (case side3 => repeat (first | exact (Kd.S_reads' HO_574001.out).2.2 | (with_reducible refine Kd.C_alloc ?_ _) | (with_reducible refine Kd.C_drewN ?_ _) | (with_reducible refine Kd.C_drew ?_)))
      (case side4 => exact (Kd.S_reads' HO_574001.out).2.1)
      (case side5 => repeat (first | exact (Kd.S_reads' HO578.out).2.2 | (with_reducible refine Kd.C_alloc ?_ _) | (with_reducible refine Kd.C_drewN ?_ _) | (with_reducible refine Kd.C_drew ?_)))
      (case side6 => exact (Kd.S_reads' HO578.out).2.1)
      (case side7 => repeat (first | exact (Kd.S_reads' HO581.out).2.2 | (with_reducible refine Kd.C_alloc ?_ _) | (with_reducible refine Kd.C_drewN ?_ _) | (with_reducible refine Kd.C_drew ?_)))
      (case side8 => exact (Kd.S_reads' HO581.out).2.1)
      rintro e w37 ⟨rfl, hb⟩
      refine ⟨_, rfl, ?_⟩
      have n0_ := Aside0.mk (Kd.S_below (by (with_reducible repeat (first | apply Kd.S_alloc | apply Kd.S_drewN | apply Kd.S_drew)); exact HO_574000.out) hb)
      have n1_ := Aside0.mk (Kd.S_below (by (with_reducible repeat (first | apply Kd.S_alloc | apply Kd.S_drewN | apply Kd.S_drew)); exact HO_574001.out) hb)
      have n2_ := Aside0.mk (Kd.S_below (by (with_reducible repeat (first | apply Kd.S_alloc | apply Kd.S_drewN | apply Kd.S_drew)); exact HO578.out) hb)
      have n3_ := Aside0.mk (Kd.S_below (by (with_reducible repeat (first | apply Kd.S_alloc | apply Kd.S_drewN | apply Kd.S_drew)); exact HO581.out) hb)
      have n4_ := Aside0.mk (blk_below (g := gb557) (o := .cells #[.slice A0_0 l0_0.length c0_0, .slice A0_1 l0_1.length c0_1] 25 (0, 0)) (bk BK557) hb)
      have n5_ := Aside0.mk (blk_below (g := gb573) (o := .cells #[.slice Ao23 t567.length co23, .slice Ao26 t570.length co26] 31 (0, 0)) (bk BK573) hb)
      have n6_ := Aside0.mk (below_step bq hb)
      clear HO_574000
      clear HO_574001
      clear HO578
      clear HO581
      clear BK557
      clear BK573
      clear HB
      have HO_574000 := n0_
      have HO_574001 := n1_
      have HO578 := n2_
      have HO581 := n3_
      have BK557 := n4_
      have BK573 := n5_
      have HB := n6_
      clear n0_ n1_ n2_ n3_ n4_ n5_ n6_
      
      
      
      
      refine hK.out _ _ ⟨(blk_cell BK573.out 0).trans rfl, (blk_cell BK573.out 1).trans rfl, (blk_cell BK557.out 0).trans rfl, (blk_cell BK557.out 1).trans rfl⟩ (fun hHeld => ?_)
      clear hK K
      refine norm_ (a' := ?_) ?_ ?_
      rotate_left
      ·show Act.put _ (some 38) _ = _
       simp only [Act.put, List.setIfInBounds_toArray, List.set_cons_zero, List.set_cons_succ, i64_w, i32_w]
       rfl
      refine pure_ (i := 4) (N := some 39) (v := ?_) (a' := ?_) (bA 5 31) rfl rfl (by kernel_rfl) (fun _ _ _ h => h) (Or.inl ⟨by rfl, ?_⟩) ?_ ?_
      rotate_left
      ·intro w'
       go_simp
       with_reducible rfl
      rotate_left
      ·simp only [Act.put, List.setIfInBounds_toArray, List.set_cons_zero, List.set_cons_succ, i64_w, i32_w]
       rfl
      refine done_ (by kernel_rfl) ?_
      try go_wp2
      go_ret
      exact ⟨eq_, bq⟩
     ·replace c32 := Bool.eq_false_iff.mpr c32
      subst c32
      have H1 : (some false) = some r := by rw [if_neg (show ¬ (false = true) by decide)] at H; exact H
      clear H
      have H := H1
      clear H1
      obtain rfl := Option.some.inj H
      try go_wp2
      have n0_ := Aside0.mk (Kd.S_drew HO_574000.out)
      have n1_ := Aside0.mk (Kd.S_drew HO_574001.out)
      have n2_ := Aside0.mk (blk_drew BK557.out)
      have n3_ := Aside0.mk (blk_drew BK573.out)
      have n4_ := Aside0.mk (below_drew1 HB.out)
      clear HO_574000
      clear HO_574001
      clear BK557
      clear BK573
      clear HB
      have HO_574000 := n0_
      have HO_574001 := n1_
      have BK557 := n2_
      have BK573 := n3_
      have HB := n4_
      clear n0_ n1_ n2_ n3_ n4_
      refine start_ (n := 5) (S := fun w' => w'.cell? ⟨gb573, 0, none⟩ = some (.slice Ao23 t567.length co23) ∧ w'.cell? ⟨gb573, 1, none⟩ = some (.slice Ao26 t570.length co26) ∧ w'.cell? ⟨gb557, 0, none⟩ = some (.slice A0_0 l0_0.length c0_0) ∧ w'.cell? ⟨gb557, 1, none⟩ = some (.slice A0_1 l0_1.length c0_1)) (ds := []) (bA 5 0) (by kernel_rfl) rfl (by kernel_rfl) ⟨(blk_cell BK573.out 0).trans rfl, (blk_cell BK573.out 1).trans rfl, (blk_cell BK557.out 0).trans rfl, (blk_cell BK557.out 1).trans rfl⟩ (fun hHeld => ?_)
      generalize wc.drew = w38 at HO_574000 HO_574001 BK557 BK573 HB hHeld ⊢
      refine take_ (i := 0) (N := some 35) (v := ?_) (a' := ?_) (bA 5 1) rfl rfl (by kernel_rfl) (fun _ _ _ h => h) (Or.inl ⟨by rfl, ?_⟩) hHeld ?_ ?_
      rotate_left
      ·rintro w' ⟨s0, s1, s2, s3⟩
       go_simp
       with_reducible rfl
      rotate_left
      ·simp only [Act.put, List.setIfInBounds_toArray, List.set_cons_zero, List.set_cons_succ, i64_w, i32_w]
       rfl
      refine take_ (i := 1) (N := some 36) (v := ?_) (a' := ?_) (bA 5 3) rfl rfl (by kernel_rfl) (fun _ _ _ h => h) (Or.inl ⟨by rfl, ?_⟩) hHeld ?_ ?_
      rotate_left
      ·rintro w' ⟨s0, s1, s2, s3⟩
       go_simp
       with_reducible rfl
      rotate_left
      ·simp only [Act.put, List.setIfInBounds_toArray, List.set_cons_zero, List.set_cons_succ, i64_w, i32_w]
       rfl
      refine one_ (i := 2) (N := some 37) (bA 5 7) rfl rfl (by kernel_rfl) (by decide) (fun K hK => ?_)
      refine goes_ Tryd.func7 (by kernel_rfl) rfl #[.agg #[.slice A0_0 l0_0.length c0_0, .slice A0_1 l0_1.length c0_1]] (by rfl) rfl rfl (by (try simp only [List.map_toArray, List.map_cons, List.map_nil]); first | done | rfl | (simp only [List.length_drop, List.length_take]; rfl)) ?_
      with_reducible refine (laws_toCurve.calls kj10 _ _ l0_0 _ _ l0_1 t576 t579 _ ?side1 ?side2 ?side3 ?side4 A30.out).mono ?_
      (case side1 => exact kc HR0_0)
      (case side2 => exact HC0_0.out)
      (case side3 => exact kc HR0_1)
      (case side4 => exact HC0_1.out)
      rintro e w39 ⟨v577, v580, rfl, ho0, ho1, hb⟩
      refine ⟨_, rfl, ?_⟩
      have n0_ := Aside0.mk (Kd.S_elder' (by (with_reducible repeat (first | apply Kd.S_alloc | apply Kd.S_drewN | apply Kd.S_drew)); exact HO_574000.out) (Kd.S_base ho0) hb)
      have n1_ := Aside0.mk (Kd.S_elder' (by (with_reducible repeat (first | apply Kd.S_alloc | apply Kd.S_drewN | apply Kd.S_drew)); exact HO_574001.out) (Kd.S_base ho1) hb)
      have n2_ := Aside0.mk (Kd.S_lower (Kd.S_new' ho0 (Kd.S_lt (by (with_reducible repeat (first | apply Kd.S_alloc | apply Kd.S_drewN | apply Kd.S_drew)); exact HO_574000.out))) (below_size bq))
      have n3_ := Aside0.mk (Kd.S_lower (Kd.S_new' ho1 (Kd.S_lt (by (with_reducible repeat (first | apply Kd.S_alloc | apply Kd.S_drewN | apply Kd.S_drew)); exact HO_574001.out))) (below_size bq))
      have n4_ := Aside0.mk (blk_below (g := gb557) (o := .cells #[.slice A0_0 l0_0.length c0_0, .slice A0_1 l0_1.length c0_1] 25 (0, 0)) (bk BK557) hb)
      have n5_ := Aside0.mk (blk_below (g := gb573) (o := .cells #[.slice Ao23 t567.length co23, .slice Ao26 t570.length co26] 31 (0, 0)) (bk BK573) hb)
      have n6_ := Aside0.mk (below_step bq hb)
      clear HO_574000
      clear HO_574001
      clear BK557
      clear BK573
      clear HB
      have HO_574000 := n0_
      have HO_574001 := n1_
      have HO578 := n2_
      have HO581 := n3_
      have BK557 := n4_
      have BK573 := n5_
      have HB := n6_
      clear n0_ n1_ n2_ n3_ n4_ n5_ n6_
      
      
      
      
      (try clear ho0)
      (try clear ho1)
      obtain ⟨Ao40, co40, eo40⟩ := Kd.S_slice HO578.out
      (first | subst eo40 | (injection eo40 with f1_ f2_ f3_; have f4_ := f1_.symm; have f5_ := f3_.symm; clear f1_ f2_ f3_; subst f4_; subst f5_))
      obtain ⟨Ao41, co41, eo41⟩ := Kd.S_slice HO581.out
      (first | subst eo41 | (injection eo41 with f1_ f2_ f3_; have f4_ := f1_.symm; have f5_ := f3_.symm; clear f1_ f2_ f3_; subst f4_; subst f5_))
      refine hK.out _ _ ⟨(blk_cell BK573.out 0).trans rfl, (blk_cell BK573.out 1).trans rfl, (blk_cell BK557.out 0).trans rfl, (blk_cell BK557.out 1).trans rfl⟩ (fun hHeld => ?_)
      clear hK K
      refine norm_ (a' := ?_) ?_ ?_
      rotate_left
      ·show Act.put _ (some 37) _ = _
       simp only [Act.put, List.setIfInBounds_toArray, List.set_cons_zero, List.set_cons_succ, i64_w, i32_w]
       rfl
      refine one_ (i := 3) (N := some 38) (bA 5 15) rfl rfl (by kernel_rfl) (by decide) (fun K hK => ?_)
      refine goes_ Tryd.func9 (by kernel_rfl) rfl #[.agg #[.slice Ao23 t567.length co23, .slice Ao26 t570.length co26], .agg #[.slice Ao40 t576.length co40, .slice Ao41 t579.length co41]] (by rfl) rfl rfl (by (try simp only [List.map_toArray, List.map_cons, List.map_nil]); first | done | rfl | (simp only [List.length_drop, List.length_take]; rfl)) ?_
      with_reducible refine (laws_eqCurve.calls kj10 _ _ t567 _ _ t570 _ _ t576 _ _ t579 false _ ?side1 ?side2 ?side3 ?side4 ?side5 ?side6 ?side7 ?side8 A31.out).mono ?_
      (case side1 => repeat (first | exact (Kd.S_reads' HO_574000.out).2.2 | (with_reducible refine Kd.C_alloc ?_ _) | (with_reducible refine Kd.C_drewN ?_ _) | (with_reducible refine Kd.C_drew ?_)))
      (case side2 => exact (Kd.S_reads' HO_574000.out).2.1)
      (case side3 => repeat (first | exact (Kd.S_reads' HO_574001.out).2.2 | (with_reducible refine Kd.C_alloc ?_ _) | (with_reducible refine Kd.C_drewN ?_ _) | (with_reducible refine Kd.C_drew ?_)))
      (case side4 => exact (Kd.S_reads' HO_574001.out).2.1)
      (case side5 => repeat (first | exact (Kd.S_reads' HO578.out).2.2 | (with_reducible refine Kd.C_alloc ?_ _) | (with_reducible refine Kd.C_drewN ?_ _) | (with_reducible refine Kd.C_drew ?_)))
      (case side6 => exact (Kd.S_reads' HO578.out).2.1)
      (case side7 => repeat (first | exact (Kd.S_reads' HO581.out).2.2 | (with_reducible refine Kd.C_alloc ?_ _) | (with_reducible refine Kd.C_drewN ?_ _) | (with_reducible refine Kd.C_drew ?_)))
      (case side8 => exact (Kd.S_reads' HO581.out).2.1)
      rintro e w42 ⟨rfl, hb⟩
      refine ⟨_, rfl, ?_⟩
      have n0_ := Aside0.mk (Kd.S_below (by (with_reducible repeat (first | apply Kd.S_alloc | apply Kd.S_drewN | apply Kd.S_drew)); exact HO_574000.out) hb)
      have n1_ := Aside0.mk (Kd.S_below (by (with_reducible repeat (first | apply Kd.S_alloc | apply Kd.S_drewN | apply Kd.S_drew)); exact HO_574001.out) hb)
      have n2_ := Aside0.mk (Kd.S_below (by (with_reducible repeat (first | apply Kd.S_alloc | apply Kd.S_drewN | apply Kd.S_drew)); exact HO578.out) hb)
      have n3_ := Aside0.mk (Kd.S_below (by (with_reducible repeat (first | apply Kd.S_alloc | apply Kd.S_drewN | apply Kd.S_drew)); exact HO581.out) hb)
      have n4_ := Aside0.mk (blk_below (g := gb557) (o := .cells #[.slice A0_0 l0_0.length c0_0, .slice A0_1 l0_1.length c0_1] 25 (0, 0)) (bk BK557) hb)
      have n5_ := Aside0.mk (blk_below (g := gb573) (o := .cells #[.slice Ao23 t567.length co23, .slice Ao26 t570.length co26] 31 (0, 0)) (bk BK573) hb)
      have n6_ := Aside0.mk (below_step bq hb)
      clear HO_574000
      clear HO_574001
      clear HO578
      clear HO581
      clear BK557
      clear BK573
      clear HB
      have HO_574000 := n0_
      have HO_574001 := n1_
      have HO578 := n2_
      have HO581 := n3_
      have BK557 := n4_
      have BK573 := n5_
      have HB := n6_
      clear n0_ n1_ n2_ n3_ n4_ n5_ n6_
      
      
      
      
      refine hK.out _ _ ⟨(blk_cell BK573.out 0).trans rfl, (blk_cell BK573.out 1).trans rfl, (blk_cell BK557.out 0).trans rfl, (blk_cell BK557.out 1).trans rfl⟩ (fun hHeld => ?_)
      clear hK K
      refine norm_ (a' := ?_) ?_ ?_
      rotate_left
      ·show Act.put _ (some 38) _ = _
       simp only [Act.put, List.setIfInBounds_toArray, List.set_cons_zero, List.set_cons_succ, i64_w, i32_w]
       rfl
      refine pure_ (i := 4) (N := some 39) (v := ?_) (a' := ?_) (bA 5 31) rfl rfl (by kernel_rfl) (fun _ _ _ h => h) (Or.inl ⟨by rfl, ?_⟩) ?_ ?_
      rotate_left
      ·intro w'
       go_simp
       with_reducible rfl
      rotate_left
      ·simp only [Act.put, List.setIfInBounds_toArray, List.set_cons_zero, List.set_cons_succ, i64_w, i32_w]
       rfl
      refine done_ (by kernel_rfl) ?_
      try go_wp2
      go_ret
      exact ⟨eq_, bq⟩
end Go.Proofs.YtkfdfpcdcabcoaaDoor.QName
