/- Walks: the printed functions, and that each call comes to them (9). -/
import Derived.Test.YtkfdfpcdcabcoaaDoorX
import Derived.Test.YtkfdfpcdcabcoaaDoorDA
import Derived.Test.YtkfdfpcdcabcoaaDoorDG
import Derived.Test.YtkfdfpcdcabcoaaDoorDH
namespace Go.Proofs.YtkfdfpcdcabcoaaDoor.QDesx
open Go.RowKit Go.Proofs.YtkfdfpcdcabcoaaDoorW.PrintWords Go.Proofs.YtkfdfpcdcabcoaaDoorW.PrintLast Go.Proofs.YtkfdfpcdcabcoaaDoorW.PrintMore
attribute [local go_sem] max2_int min2_int max_two min_two max_three min_three max_four min_four
set_option linter.unusedVariables false
set_option linter.unusedSimpArgs false

/-! ### impl_ParseCurve: function 30 -/
mutual
def impl_ParseCurve.l0 : Nat → Bool → List ByteArray → Int → Int → List (S74) → Option ((List (S74)) × (List (List Int)) × Int)
 | 0, _, _, _, _, _ => none
 | k + 1, x6, x26, x27, x28, x397000 => if x28 < x27 then (if 0 ≤ x28 then (if x28 < (x26.length : Int) then ((impl_ParseBranch.f k (rdOf ByteArray.empty x26 x28)).bind fun bt401 => (if bt401.2 = 0 then (if (x397000.length : Int) = 6 then (none) else (if x397000.length < 5864062014805 then (impl_ParseCurve.l0 k x6 x26 x27 (wrap64 (x28 + 1)) (x397000 ++ [(⟨bt401.1⟩ : S74)])) else (none))) else (none))) else (none)) else (none)) else (if x6 = true then (none) else (if (x6 != (decide ((x397000.length : Int) > 1))) = true then (impl_ParseCurve.j1 k (x397000.length : Int) true x397000) else (impl_ParseCurve.j1 k (x397000.length : Int) (((([] : List Int)).length : Int) != (wrap64 (Int.tdiv (wrap64 ((x397000.length : Int) * (wrap64 ((x397000.length : Int) - 1)))) 2))) x397000)))
def impl_ParseCurve.j1 : Nat → Int → Bool → List (S74) → Option ((List (S74)) × (List (List Int)) × Int)
 | 0, _, _, _ => none
 | k + 1, x12, x80, x397000 => if x80 = true then (none) else ((impl_square.f k x12).bind fun t412 => (impl_ParseCurve.l1 k x12 x12 0 x397000 t412))
def impl_ParseCurve.l1 : Nat → Int → Int → Int → List (S74) → List (List Int) → Option ((List (S74)) × (List (List Int)) × Int)
 | 0, _, _, _, _, _ => none
 | k + 1, x12, x85, x86, x397000, x397001 => if x86 < x85 then (impl_ParseCurve.l2 k x12 (wrap64 (x86 + 1)) x85 x86 x397000 x397001) else ((impl_IsCurve.f k x397000 x397001).bind fun t415 => (if t415 = true then (some (x397000, x397001, 0)) else (none)))
def impl_ParseCurve.l2 : Nat → Int → Int → Int → Int → List (S74) → List (List Int) → Option ((List (S74)) × (List (List Int)) × Int)
 | 0, _, _, _, _, _, _ => none
 | k + 1, x12, x17, x85, x86, x397000, x397001 => if x17 < x12 then (none) else (impl_ParseCurve.l1 k x12 x85 (wrap64 (x86 + 1)) x397000 x397001)
end
def impl_ParseCurve.f (k : Nat) (a0 : ByteArray) : Option ((List (S74)) × (List (List Int)) × Int) := (impl_parted.f k a0 124).bind fun bt393 => ((impl_wordsOf.f k bt393.1 32).bind fun t397 => (impl_ParseCurve.l0 k bt393.2.2 t397 (t397.length : Int) 0 ([] : List (S74))))
set_option maxHeartbeats 8000000 in
set_option maxRecDepth 100000 in
theorem impl_ParseCurve.calls (k : Nat) (a0 : ByteArray) (r1 : List (S74)) (r2 : List (List Int)) (r3 : Int) (w : World) (h : impl_ParseCurve.f k a0 = some (r1, r2, r3)) :
  Calls Tryd.prog 30 #[.string a0] w fun e w' => ∃ v0_ v1_ : Value, ∃ N_ : Nat, e = .returned (.tuple #[.agg #[v0_, v1_], .int .i64 r3]) ∧ Kd.S k74 74 w' w.heap.size (fun k_ => k_ < N_) v0_ r1 ∧ Kd.S (Kd.slice 2 (Kd.int .i64)) 35 w' w.heap.size (fun k_ => N_ ≤ k_) v1_ r2 ∧ Below w.heap.size w w' := by
 have hu31 := Tryd.underlying31
 have hu74 := Tryd.underlying74
 have HB := Aside0.mk (Below.refl w.heap.size w)
 have H : ((impl_parted.f k a0 124).bind fun bt393 => ((impl_wordsOf.f k bt393.1 32).bind fun t397 => (impl_ParseCurve.l0 k bt393.2.2 t397 (t397.length : Int) 0 ([] : List (S74))))) = some (r1, r2, r3) := h
 clear h
 replace H := Option.bind_eq_some_iff.mp H
 obtain ⟨⟨t393, t394, t395⟩, A20, H⟩ := H
 replace H : ((impl_wordsOf.f k t393 32).bind fun t397 => (impl_ParseCurve.l0 k t395 t397 (t397.length : Int) 0 ([] : List (S74)))) = some (r1, r2, r3) := H
 have A2 := Aside0.mk A20
 clear A20
 replace H := Option.bind_eq_some_iff.mp H
 obtain ⟨t397, A30, H⟩ := H
 replace H : (impl_ParseCurve.l0 k t395 t397 (t397.length : Int) 0 ([] : List (S74))) = some (r1, r2, r3) := H
 have A3 := Aside0.mk A30
 clear A30
 have H' := Aside0.mk H
 clear H
 go_enter Tryd.func30, Tryd.ntmps30
 go_wp2_with (first | ((with_reducible refine gate_dst (N := 2) rfl ?_); (try (refine gate_guard (by rfl) ?_; dsimp only)); refine box_event ?hg (N := 2) ?hd (cs := #[.slice none 0 0, .slice none 0 0]) (t := 31) ?hr ?_; (case hd => rfl); (case hg => rfl); (case hr => first | (go_simp; done) | (go_simp; rfl)); intro gb392 hg w4 hbox hb; have BK392 := Aside0.mk (hbox); have GW392 := Aside0.mk ((by rw [hg]; exact (below_size bq) : w.heap.size ≤ gb392)); have GE392 := Aside0.mk ((by rw [hg]; exact (below_size bq) : w.heap.size ≤ gb392)); replace HB := Aside0.mk (below_step bq hb); clear hb hbox hg) | ((with_reducible refine gate_callee (f := 61) rfl ?_); refine gL 20 Tryd.func61 #[.string a0, .int .u8 124] ?_; (with_reducible refine (impl_parted.calls k a0 124 t393 t394 t395 _ A2.out).mono ?_); rintro e w' ⟨rfl, ⟨nd, rfl⟩⟩; refine ⟨_, rfl, ?_⟩; (try (rw [drewN_self w4]; generalize hq_ : World.drewN w4 _ = w4; have n0_ : Aside0 (w4.heap[gb392]? = some (.cells #[.slice none 0 0, .slice none 0 0] 31 (0, 0))) := ⟨by rw [← hq_]; exact (bk BK392)⟩; have n1_ : Aside0 (Below w.heap.size w w4) := ⟨by rw [← hq_]; exact bq⟩; clear BK392 HB hq_; have BK392 := n0_; have HB := n1_; clear n0_ n1_))) | ((with_reducible refine gate_dst (N := 7) rfl ?_); (try (refine gate_guard (by rfl) ?_; dsimp only)); refine box_event ?hg (N := 7) ?hd (cs := #[.slice none 0 0, .slice none 0 0]) (t := 31) ?hr ?_; (case hd => rfl); (case hg => rfl); (case hr => first | (go_simp; done) | (go_simp; rfl)); intro gb396 hg w5 hbox hb; have BK396 := Aside0.mk (hbox); have GW396 := Aside0.mk ((by rw [hg]; exact (below_size bq) : w.heap.size ≤ gb396)); have GE396 := Aside0.mk ((by rw [hg]; exact (below_size bq) : w.heap.size ≤ gb396)); replace HB := Aside0.mk (below_step bq hb); have NB392_396 := Aside0.mk ((by rw [hg]; exact Nat.ne_of_lt (blk_lt (g := gb392) (o := .cells #[.slice none 0 0, .slice none 0 0] 31 (0, 0)) (bk BK392)) : gb392 ≠ gb396)); have NB396_392 := Aside0.mk ((by rw [hg]; exact Nat.ne_of_gt (blk_lt (g := gb392) (o := .cells #[.slice none 0 0, .slice none 0 0] 31 (0, 0)) (bk BK392)) : gb396 ≠ gb392)); replace BK392 := Aside0.mk (blk_below (g := gb392) (o := .cells #[.slice none 0 0, .slice none 0 0] 31 (0, 0)) (bk BK392) hb); clear hb hbox hg; have hnb6 := NB396_392.out; have hnc6 := NB392_396.out; have hcz7_0 := bc0 BK396; have hcz7_1 := bc1 BK396; have hfz7_0 := blk_frozen BK396.out 0; have hfz7_1 := blk_frozen BK396.out 1) | ((with_reducible refine gate_callee (f := 62) rfl ?_); refine gL 26 Tryd.func62 #[.string t393, .int .u8 32] ?_; (with_reducible refine (impl_wordsOf.calls k t393 32 t397 _ A3.out).mono ?_); rintro e w8 ⟨v398, rfl, ho0, hb⟩; refine ⟨_, rfl, ?_⟩; have HO399 := Aside0.mk (Kd.R_lower ho0 (below_size bq)); replace BK392 := Aside0.mk (blk_below (g := gb392) (o := .cells #[.slice none 0 0, .slice none 0 0] 31 (0, 0)) (by (with_reducible repeat (first | refine blk_drewN ?_ _ | refine blk_drew ?_ | refine blk_alloc ?_ _)); refine blk_far ?_ NB392_396.out _; (with_reducible repeat (first | refine blk_drewN ?_ _ | refine blk_drew ?_ | refine blk_alloc ?_ _)); refine blk_far ?_ NB392_396.out _; (with_reducible repeat (first | refine blk_drewN ?_ _ | refine blk_drew ?_ | refine blk_alloc ?_ _)); exact BK392.out) hb); replace BK396 := Aside0.mk (blk_below (g := gb396) (o := .cells #[.slice none 0 0, .slice none 0 0] 31 (0, 0)) (by (with_reducible repeat (first | refine blk_drewN ?_ _ | refine blk_drew ?_ | refine blk_alloc ?_ _)); refine blk_put (cs := #[.slice none 0 0, .slice none 0 0]) ?_ 1 _ rfl; (with_reducible repeat (first | refine blk_drewN ?_ _ | refine blk_drew ?_ | refine blk_alloc ?_ _)); refine blk_put (cs := #[.slice none 0 0, .slice none 0 0]) ?_ 0 _ rfl; (with_reducible repeat (first | refine blk_drewN ?_ _ | refine blk_drew ?_ | refine blk_alloc ?_ _)); exact BK396.out) hb); replace HB := Aside0.mk (below_step bq hb); (try clear hb); (try clear ho0); obtain ⟨Ao9, co9, eo9⟩ := Kd.R_slice HO399.out; subst eo9))
 go_loopg [28] k (fun kq v28 w' => ∃ (x28_1 : Int) (x397000_1 : List (S74)) (u397000 : Value), v28 = .int .i64 x28_1 ∧ Aside0 (impl_ParseCurve.l0 kq t395 t397 (t397.length : Int) x28_1 x397000_1 = some (r1, r2, r3)) ∧ Aside0 (kq ≤ k) ∧ Aside0 (Kd.R Kd.string 9 w' w.heap.size (fun _ => True) (.slice Ao9 t397.length co9) t397) ∧ Aside0 (Kd.S k74 74 w' w.heap.size (fun _ => True) u397000 x397000_1) ∧ Aside0 (w'.heap[gb392]? = some (.cells #[(.slice none 0 0), (.slice none 0 0)] 31 (0, 0))) ∧ Aside0 (w'.heap[gb396]? = some (.cells #[u397000, (.slice none 0 0)] 31 (0, 0))) ∧ Aside0 (Below w.heap.size w w'))
 case atStart => exact ⟨(0), (([] : List (S74))), (.slice none 0 0), (by first | rfl | (simp; done) | (simp [*]; done)), H', ⟨Nat.le_refl _⟩, ⟨by (with_reducible repeat (first | apply Kd.R_alloc | apply Kd.R_drewN | apply Kd.R_drew)); exact HO399.out⟩, ⟨by first | exact Kd.S_nil _ _ _ _ _ | exact Kd.N_nil _ _ _ _ _ | exact Kd.V_nil _ _ _ _ _ | exact Kd.Q_nil _ _ _ _ _ | exact Kd.R_nil _ _ _ _ _⟩, ⟨bk BK392⟩, ⟨bk BK396⟩, ⟨bq⟩⟩
 case round =>
  clear H'
  try clear p2
  try clear c3
  try clear c6
  try clear hcz7_0
  try clear hcz7_1
  try clear hfz7_0
  try clear hfz7_1
  obtain ⟨x28_1, x397000_1, u397000, rfl, HA, HK1, HO_26, HO_397000, BK392, BK396, HB⟩ := hrel
  cases gk with
  | zero => exact absurd HA.out (by simp [impl_ParseCurve.l0])
  | succ k1 =>
   have H := HA.out
   clear HA
   simp only [impl_ParseCurve.l0] at H
   by_cases c10 : x28_1 < (t397.length : Int)
   ·rw [if_pos c10] at H
    have c10b0 : decide (x28_1 < (t397.length : Int)) = true := decide_eq_true c10
    clear c10
    revert H
    refine ifr fun c11 H => ?_
    have c11b0 : decide (0 ≤ x28_1) = true := decide_eq_true c11
    clear c11
    revert H
    refine ifr fun c12 H => ?_
    have c12b0 : decide (x28_1 < (t397.length : Int)) = true := decide_eq_true c12
    clear c12
    replace H := Option.bind_eq_some_iff.mp H
    obtain ⟨⟨t401, t404⟩, A130, H⟩ := H
    replace H : (if t404 = 0 then (if (x397000_1.length : Int) = 6 then (none) else (if x397000_1.length < 5864062014805 then (impl_ParseCurve.l0 k1 t395 t397 (t397.length : Int) (wrap64 (x28_1 + 1)) (x397000_1 ++ [(⟨t401⟩ : S74)])) else (none))) else (none)) = some (r1, r2, r3) := H
    have A13 := Aside0.mk A130
    clear A130
    revert H
    refine ifr fun c14 H => ?_
    have c14b0 : (t404 == 0) = true := beq_iff_eq.mpr c14
    have c14b1 : (t404 != 0) = false := bne_eq_false_iff_eq.mpr c14
    clear c14
    by_cases c15 : (x397000_1.length : Int) = 6
    ·rw [if_pos c15] at H
     exact absurd H (by simp)
    ·rw [if_neg c15] at H
     have c15b0 : ((x397000_1.length : Int) == 6) = false := beq_eq_false_iff_ne.mpr c15
     have c15b1 : ((x397000_1.length : Int) != 6) = true := bne_iff_ne.mpr c15
     revert H
     refine ifr fun c16 H => ?_
     have LMc16 := Aside0.mk c16
     clear c16
     obtain ⟨y406, hy406⟩ : ∃ y_ : List (S74), y_ = (x397000_1 ++ [(⟨t401⟩ : S74)]) := ⟨_, rfl⟩
     replace H : (impl_ParseCurve.l0 k1 t395 t397 (t397.length : Int) (wrap64 (x28_1 + 1)) y406) = some (r1, r2, r3) := by first | (rw [hy406]; with_reducible exact H) | (have H2_ := (Option.bind_some _ _).symm.trans H; rw [hy406]; with_reducible exact H2_) | (have H2_ := (Option.bind_some _ _).symm.trans H; with_reducible exact H2_) | with_reducible exact H | (rw [hy406]; exact H) | exact H
     have Ny406 := Aside0.mk hy406
     clear hy406
     have H' := Aside0.mk H
     clear H
     have p400 : 0 ≤ (x28_1 : Int) := ode
     have q400 : x28_1 < (t397.length : Int) := ode
     obtain ⟨ad400, e400, hx400_0⟩ := Kd.at_string (Kd.R_reads' HO_26.out).2.2 x28_1 p400 q400
     cases e400
     replace p400 := eq_true p400
     replace q400 := eq_true q400
     go_wp2_with (first | ((with_reducible refine gate_callee (f := 63) rfl ?_); refine gL 34 Tryd.func63 #[.string (rdOf ByteArray.empty t397 x28_1)] ?_; (with_reducible refine (impl_ParseBranch.calls k1 (rdOf ByteArray.empty t397 x28_1) t401 t404 _ A13.out).mono ?_); rintro e w17 ⟨v402, rfl, ho0, hb⟩; refine ⟨_, rfl, ?_⟩; replace HO_26 := Aside0.mk (Kd.R_below (by (with_reducible repeat (first | apply Kd.R_alloc | apply Kd.R_drewN | apply Kd.R_drew)); exact HO_26.out) hb); replace HO_397000 := Aside0.mk (Kd.S_elder' (by (with_reducible repeat (first | apply Kd.S_alloc | apply Kd.S_drewN | apply Kd.S_drew)); exact HO_397000.out) (Kd.R_base ho0) hb); have HO403 := Aside0.mk (Kd.R_lower ho0 (below_size bq)); replace BK392 := Aside0.mk (blk_below (g := gb392) (o := .cells #[.slice none 0 0, .slice none 0 0] 31 (0, 0)) (bk BK392) hb); replace BK396 := Aside0.mk (blk_below (g := gb396) (o := .cells #[u397000, .slice none 0 0] 31 (0, 0)) (bk BK396) hb); replace HB := Aside0.mk (below_step bq hb); (try clear hb); (try clear ho0)) | ((with_reducible refine gate_dst (N := 10) rfl ?_); (try (refine gate_guard (by rfl) ?_; dsimp only)); refine box_event ?hg (N := 10) ?hd (cs := #[.slice none 0 0]) (t := 74) ?hr ?_; (case hd => rfl); (case hg => rfl); (case hr => first | (go_simp; done) | (go_simp; rfl)); intro gb405 hg w18 hbox hb; replace HO_26 := Aside0.mk (Kd.R_below (by (with_reducible repeat (first | apply Kd.R_alloc | apply Kd.R_drewN | apply Kd.R_drew)); exact HO_26.out) hb); replace HO_397000 := Aside0.mk (Kd.S_below (Kd.S_elderB (by (with_reducible repeat (first | apply Kd.S_alloc | apply Kd.S_drewN | apply Kd.S_drew)); exact HO_397000.out) gb405 (Nat.le_of_eq hg.symm)) hb); replace HO403 := Aside0.mk (Kd.R_below (by (with_reducible repeat (first | apply Kd.R_alloc | apply Kd.R_drewN | apply Kd.R_drew)); exact HO403.out) hb); have BK405 := Aside0.mk (hbox); have GW405 := Aside0.mk ((by rw [hg]; exact (below_size bq) : w.heap.size ≤ gb405)); have GE405 := Aside0.mk ((by rw [hg]; exact (below_size bq) : w.heap.size ≤ gb405)); replace HB := Aside0.mk (below_step bq hb); have NB392_405 := Aside0.mk ((by rw [hg]; exact Nat.ne_of_lt (blk_lt (g := gb392) (o := .cells #[.slice none 0 0, .slice none 0 0] 31 (0, 0)) (bk BK392)) : gb392 ≠ gb405)); have NB405_392 := Aside0.mk ((by rw [hg]; exact Nat.ne_of_gt (blk_lt (g := gb392) (o := .cells #[.slice none 0 0, .slice none 0 0] 31 (0, 0)) (bk BK392)) : gb405 ≠ gb392)); replace BK392 := Aside0.mk (blk_below (g := gb392) (o := .cells #[.slice none 0 0, .slice none 0 0] 31 (0, 0)) (bk BK392) hb); have NB396_405 := Aside0.mk ((by rw [hg]; exact Nat.ne_of_lt (blk_lt (g := gb396) (o := .cells #[u397000, .slice none 0 0] 31 (0, 0)) (bk BK396)) : gb396 ≠ gb405)); have NB405_396 := Aside0.mk ((by rw [hg]; exact Nat.ne_of_gt (blk_lt (g := gb396) (o := .cells #[u397000, .slice none 0 0] 31 (0, 0)) (bk BK396)) : gb405 ≠ gb396)); replace BK396 := Aside0.mk (blk_below (g := gb396) (o := .cells #[u397000, .slice none 0 0] 31 (0, 0)) (bk BK396) hb); clear hb hbox hg; obtain ⟨Ao19, co19, eo19⟩ := Kd.R_slice HO403.out; subst eo19; have hnb20 := NB405_392.out; have hnc20 := NB392_405.out; have hnb21 := NB405_396.out; have hnc21 := NB396_405.out; have hcz22_0 := bc0 BK405; have hfz22_0 := blk_frozen BK405.out 0) | ((with_reducible refine gate_store (t := 74) (p := 10) rfl ?_); refine store_event (t := 74) (p := 10) (v := ?vo_w23) (w1 := (w18.setCell ⟨gb405, 0, none⟩ (.slice Ao19 t401.length co19))) ?hg ?ho ?hn ?hr ?_; (case ho => rfl); (case hg => rfl); (case hn => rfl); (case hr => first | (go_simp; done) | (go_simp; rfl)); intro w23 hw; have n0_ : Aside0 (Kd.R Kd.string 9 w23 w.heap.size (fun _ => True) (.slice (some ad400) t397.length co9) t397) := ⟨(by rw [hw]; exact (by (with_reducible repeat (first | apply Kd.R_alloc | apply Kd.R_drewN | apply Kd.R_drew)); exact Kd.R_mono (Kd.R_far (p := ⟨gb405, 0, none⟩) (Kd.R_types HO_26.out BK405.out (by decide)) (fun _ hk => hk.2) (.slice Ao19 t401.length co19)) (fun _ hk => trivial)))⟩; have n1_ : Aside0 (Kd.S k74 74 w23 w.heap.size (fun k_ => some k_ ≠ (.slice Ao19 t401.length co19 : Value).ownBlock ∧ k_ ≠ gb405) u397000 x397000_1) := ⟨(by rw [hw]; exact (by (with_reducible repeat (first | apply Kd.S_alloc | apply Kd.S_drewN | apply Kd.S_drew)); exact Kd.S_mono (Kd.S_far (p := ⟨gb405, 0, none⟩) (Kd.S_mono HO_397000.out (fun k_ hk => (⟨hk, hk.2⟩ : _ ∧ k_ ≠ gb405))) (fun _ hk => hk.2) (.slice Ao19 t401.length co19)) (fun _ hk => ⟨hk.1.1.2, hk.1.2⟩)))⟩; have n2_ : Aside0 (Kd.R (Kd.int .i64) 2 w23 w.heap.size (fun _ => True) (.slice Ao19 t401.length co19) t401) := ⟨(by rw [hw]; exact (by (with_reducible repeat (first | apply Kd.R_alloc | apply Kd.R_drewN | apply Kd.R_drew)); exact Kd.R_mono (Kd.R_far (p := ⟨gb405, 0, none⟩) (Kd.R_types HO403.out BK405.out (by decide)) (fun _ hk => hk.2) (.slice Ao19 t401.length co19)) (fun _ hk => trivial)))⟩; have n3_ : Aside0 (w23.heap[gb392]? = some (.cells #[.slice none 0 0, .slice none 0 0] 31 (0, 0))) := ⟨(by rw [hw]; exact (by (with_reducible repeat (first | refine blk_drewN ?_ _ | refine blk_drew ?_ | refine blk_alloc ?_ _)); refine blk_far ?_ NB392_405.out _; (with_reducible repeat (first | refine blk_drewN ?_ _ | refine blk_drew ?_ | refine blk_alloc ?_ _)); exact BK392.out))⟩; have n4_ : Aside0 (w23.heap[gb396]? = some (.cells #[u397000, .slice none 0 0] 31 (0, 0))) := ⟨(by rw [hw]; exact (by (with_reducible repeat (first | refine blk_drewN ?_ _ | refine blk_drew ?_ | refine blk_alloc ?_ _)); refine blk_far ?_ NB396_405.out _; (with_reducible repeat (first | refine blk_drewN ?_ _ | refine blk_drew ?_ | refine blk_alloc ?_ _)); exact BK396.out))⟩; have n5_ : Aside0 (w23.heap[gb405]? = some (.cells #[.slice Ao19 t401.length co19] 74 (0, 0))) := ⟨(by rw [hw]; exact (by (with_reducible repeat (first | refine blk_drewN ?_ _ | refine blk_drew ?_ | refine blk_alloc ?_ _)); refine blk_put (cs := #[.slice none 0 0]) ?_ 0 _ rfl; (with_reducible repeat (first | refine blk_drewN ?_ _ | refine blk_drew ?_ | refine blk_alloc ?_ _)); exact BK405.out))⟩; have n6_ : Aside0 (Below w.heap.size w w23) := ⟨(by rw [hw]; exact bq)⟩; clear hw; clear HO_26; clear HO_397000; clear HO403; clear BK392; clear BK396; clear BK405; clear HB; have HO_26 := n0_; have HO_397000 := n1_; have HO403 := n2_; have BK392 := n3_; have BK396 := n4_; have BK405 := n5_; have HB := n6_; clear n0_ n1_ n2_ n3_ n4_ n5_ n6_; have hnb24 := NB396_392.out; have hnc24 := NB392_396.out; have hcz25_0 := bc0 BK396; have hcz25_1 := bc1 BK396; have hfz25_0 := blk_frozen BK396.out 0; have hfz25_1 := blk_frozen BK396.out 1; obtain ⟨Ao26, co26, eo26⟩ := Kd.S_slice HO_397000.out; subst eo26; have hcz27_0 := bc0 BK405; have hfz27_0 := blk_frozen BK405.out 0) | ((with_reducible refine gate_builtin (b := .append) (xs := #[.tmp 47, .tmp 49]) rfl ?_); (try (refine gate_guard (by rfl) ?_; dsimp only)); at_builtin; refine Kd.S_append k74 (w0 := w) w.heap.size rfl (.tmp 47) (.tmp 49) 29 74 (.agg #[(.slice none 0 0)]) 24 rfl Tryd.underlying29 info74 rfl (by decide) (by omega) (.slice Ao26 x397000_1.length co26) x397000_1 (⟨t401⟩ : S74) [.slice Ao19 t401.length co19] (fun k_ => k_ ≠ gb405) (fun k_ => some k_ = (.slice Ao19 t401.length co19 : Value).ownBlock) rfl rfl ?aP (fun k_ hk_ => ((Kd.R_mono (ok' := fun k_ => ((fun k_ => k_ ≠ gb405)) k_ ∧ some k_ ≠ (.slice Ao26 x397000_1.length co26 : Value).ownBlock) (Kd.R_types (Kd.R_apart' (HO403.out) (Kd.S_typed HO_397000.out) (by decide)) BK405.out (by decide)) (fun k_ hk => ⟨hk.2, hk.1.2⟩))).1 k_ hk_.symm) ?aF ?aO ?aB ?aS ?aL ?_; (case aP => exact k74_mkM _ _ _ (⟨t401⟩ : S74) (Kd.R_mono (Kd.R_tight rfl (Kd.R_mono (ok' := fun k_ => ((fun k_ => k_ ≠ gb405)) k_ ∧ some k_ ≠ (.slice Ao26 x397000_1.length co26 : Value).ownBlock) (Kd.R_types (Kd.R_apart' (HO403.out) (Kd.S_typed HO_397000.out) (by decide)) BK405.out (by decide)) (fun k_ hk => ⟨hk.2, hk.1.2⟩))) (fun _ h_ => h_))); (case aB => exact bq); (case aF => exact (fun k_ hk => Kd.freshB (g := gb405) (o := .cells #[.slice Ao19 t401.length co19] 74 (0, 0)) (bk BK405) k_ hk)); (case aO => exact (by (with_reducible repeat (first | apply Kd.S_alloc | apply Kd.S_drewN | apply Kd.S_drew)); exact Kd.S_mono HO_397000.out (fun k_ hk => ⟨hk.2, fun e_ => hk.1 e_⟩))); (case aS => exact (below_size bq)); (case aL => have := LMc16.out; omega); intro v407 w28 ho hb hg hat; rw [← Ny406.out] at ho; have n0_ := Aside0.mk (Kd.R_over' (by (with_reducible repeat (first | apply Kd.R_alloc | apply Kd.R_drewN | apply Kd.R_drew)); exact HO_26.out) (Kd.S_typed (by (with_reducible repeat (first | apply Kd.S_alloc | apply Kd.S_drewN | apply Kd.S_drew)); exact HO_397000.out)) (by decide) hg); have n1_ := Aside0.mk (blk_grown (g := gb392) (o := .cells #[.slice none 0 0, .slice none 0 0] 31 (0, 0)) (bk BK392) hg (Kd.S_ne HO_397000.out BK392.out (by decide))); have n2_ := Aside0.mk (blk_grown (g := gb396) (o := .cells #[.slice Ao26 x397000_1.length co26, .slice none 0 0] 31 (0, 0)) (bk BK396) hg (Kd.S_ne HO_397000.out BK396.out (by decide))); have n3_ := Aside0.mk (blk_grown (g := gb405) (o := .cells #[.slice Ao19 t401.length co19] 74 (0, 0)) (bk BK405) hg (Kd.S_away HO_397000.out (fun _ hk => hk.2))); have n4_ := Aside0.mk (hb); have n5_ := Aside0.mk (ho); clear HO_26; clear BK392; clear BK396; clear BK405; clear HB; clear HO_397000; clear HO403; have HO_26 := n0_; have BK392 := n1_; have BK396 := n2_; have BK405 := n3_; have HB := n4_; have HO408 := n5_; clear n0_ n1_ n2_ n3_ n4_ n5_; clear ho hb hg hat; obtain ⟨Ao29, co29, eo29⟩ := Kd.S_slice HO408.out; subst eo29; have hcz30_0 := bc0 BK396; have hcz30_1 := bc1 BK396; have hfz30_0 := blk_frozen BK396.out 0; have hfz30_1 := blk_frozen BK396.out 1))
     go_roundg k1
     case measure => have := HK1.out; omega
     case rel => exact ⟨(wrap64 (x28_1 + 1)), (y406), (.slice Ao29 y406.length co29), (by first | rfl | (simp; done) | (simp [*]; done)), H', ⟨by have := HK1.out; omega⟩, ⟨by (with_reducible repeat (first | apply Kd.R_alloc | apply Kd.R_drewN | apply Kd.R_drew)); exact Kd.R_mono (Kd.R_far (p := ⟨gb396, 0, none⟩) (Kd.R_types HO_26.out BK396.out (by decide)) (fun _ hk => hk.2) (.slice Ao29 y406.length co29)) (fun _ hk => trivial)⟩, ⟨by (with_reducible repeat (first | apply Kd.S_alloc | apply Kd.S_drewN | apply Kd.S_drew)); exact Kd.S_mono (Kd.S_far (p := ⟨gb396, 0, none⟩) (Kd.S_types HO408.out BK396.out (by decide)) (fun _ hk => hk.2) (.slice Ao29 y406.length co29)) (fun _ hk => trivial)⟩, ⟨by (with_reducible repeat (first | refine blk_drewN ?_ _ | refine blk_drew ?_ | refine blk_alloc ?_ _)); refine blk_far ?_ NB392_396.out _; (with_reducible repeat (first | refine blk_drewN ?_ _ | refine blk_drew ?_ | refine blk_alloc ?_ _)); exact BK392.out⟩, ⟨by (with_reducible repeat (first | refine blk_drewN ?_ _ | refine blk_drew ?_ | refine blk_alloc ?_ _)); refine blk_put (cs := #[.slice Ao26 x397000_1.length co26, .slice none 0 0]) ?_ 0 _ rfl; (with_reducible repeat (first | refine blk_drewN ?_ _ | refine blk_drew ?_ | refine blk_alloc ?_ _)); exact BK396.out⟩, ⟨bq⟩⟩
   ·rw [if_neg c10] at H
    have c10b0 : decide (x28_1 < (t397.length : Int)) = false := decide_eq_false c10
    clear c10
    obtain ⟨y409, hy409⟩ : ∃ y_ : List Int, y_ = (([] : List Int)) := ⟨_, rfl⟩
    replace H : (if t395 = true then (none) else (if (t395 != (decide ((x397000_1.length : Int) > 1))) = true then (impl_ParseCurve.j1 k1 (x397000_1.length : Int) true x397000_1) else (impl_ParseCurve.j1 k1 (x397000_1.length : Int) ((y409.length : Int) != (wrap64 (Int.tdiv (wrap64 ((x397000_1.length : Int) * (wrap64 ((x397000_1.length : Int) - 1)))) 2))) x397000_1))) = some (r1, r2, r3) := by first | (rw [hy409]; with_reducible exact H) | (have H2_ := (Option.bind_some _ _).symm.trans H; rw [hy409]; with_reducible exact H2_) | (have H2_ := (Option.bind_some _ _).symm.trans H; with_reducible exact H2_) | with_reducible exact H | (rw [hy409]; exact H) | exact H
    have Ny409 := Aside0.mk hy409
    clear hy409
    by_cases c31 : t395 = true
    ·subst c31
     have H1 : (none) = some (r1, r2, r3) := by rw [if_pos rfl] at H; exact H
     clear H
     have H := H1
     clear H1
     exact absurd H (by simp)
    ·replace c31 := Bool.eq_false_iff.mpr c31
     subst c31
     have H1 : (if (false != (decide ((x397000_1.length : Int) > 1))) = true then (impl_ParseCurve.j1 k1 (x397000_1.length : Int) true x397000_1) else (impl_ParseCurve.j1 k1 (x397000_1.length : Int) ((y409.length : Int) != (wrap64 (Int.tdiv (wrap64 ((x397000_1.length : Int) * (wrap64 ((x397000_1.length : Int) - 1)))) 2))) x397000_1)) = some (r1, r2, r3) := by rw [if_neg (show ¬ (false = true) by decide)] at H; exact H
     clear H
     have H := H1
     clear H1
     have HC32 := Aside0.mk H
     clear H
     have hnb33 := NB396_392.out
     have hnc33 := NB392_396.out
     have hcz34_0 := bc0 BK396
     have hcz34_1 := bc1 BK396
     have hfz34_0 := blk_frozen BK396.out 0
     have hfz34_1 := blk_frozen BK396.out 1
     obtain ⟨Ao35, co35, eo35⟩ := Kd.S_slice HO_397000.out
     subst eo35
     go_upto_region 18 with (first | ((with_reducible refine gate_dst (N := 56) rfl ?_); (try (refine gate_guard (by rfl) ?_; dsimp only)); refine Kd.R_lit (Kd.int .i64) _ 2 ?hg (N := 56) ?hd (xs := ([] : List Int)) (inner := []) (ok := fun _ => True) (okp := fun _ => True) ?hr ?hp (fun _ hk => hk) trivial (Below.refl _ _) (Nat.le_refl _) (by simp) ?_; (case hd => rfl); (case hg => rfl); (case hr => first | (go_simp; done) | (go_simp; rfl)); (case hp => exact (Reps.none _ _)); intro v410 w36 ho37 hb hg_ hnew_; clear hg_ hnew_; (first | rw [← Ny409.out] at ho37 | (simp only [Int.reduceToNat] at ho37; rw [← Ny409.out] at ho37)); replace HO_26 := Aside0.mk (Kd.R_below (by (with_reducible repeat (first | apply Kd.R_alloc | apply Kd.R_drewN | apply Kd.R_drew)); exact HO_26.out) hb); replace HO_397000 := Aside0.mk (Kd.S_elder' (by (with_reducible repeat (first | apply Kd.S_alloc | apply Kd.S_drewN | apply Kd.S_drew)); exact HO_397000.out) (Kd.R_base ho37) hb); have HO411 := Aside0.mk (Kd.R_lower ho37 (below_size bq)); replace BK392 := Aside0.mk (blk_below (g := gb392) (o := .cells #[.slice none 0 0, .slice none 0 0] 31 (0, 0)) (bk BK392) hb); replace BK396 := Aside0.mk (blk_below (g := gb396) (o := .cells #[.slice Ao35 x397000_1.length co35, .slice none 0 0] 31 (0, 0)) (bk BK396) hb); replace HB := Aside0.mk (below_step bq hb); clear hb ho37))
     (try simp only [Act.put, List.setIfInBounds_toArray, List.set_cons_zero, List.set_cons_succ])
     go_cut [80] (fun v80 wc => ∃ (kq : Nat) (x80_31 : Bool), v80 = .bool x80_31 ∧ Aside0 (impl_ParseCurve.j1 kq (x397000_1.length : Int) x80_31 x397000_1 = some (r1, r2, r3)) ∧ Aside0 (kq ≤ k1) ∧ Aside0 (Kd.S k74 74 wc w.heap.size (fun _ => True) (.slice Ao35 x397000_1.length co35) x397000_1) ∧ Aside0 (wc.heap[gb392]? = some (.cells #[(.slice none 0 0), (.slice none 0 0)] 31 (0, 0))) ∧ Aside0 (wc.heap[gb396]? = some (.cells #[(.slice Ao35 x397000_1.length co35), (.slice none 0 0)] 31 (0, 0))) ∧ Aside0 (Below w.heap.size w wc))
     case first =>
      have H := HC32.out
      clear HC32
      by_cases c38 : (false != (decide ((x397000_1.length : Int) > 1))) = true
      ·rw [if_pos c38] at H
       have c38b0 : (false != (decide ((x397000_1.length : Int) > 1))) = true := c38
       (try (have c38b1 : decide (false = (decide ((x397000_1.length : Int) > 1))) = false := by simpa using c38))
       (try (have c38b2 : (false == (decide ((x397000_1.length : Int) > 1))) = false := by simpa using c38))
       (try (have c38b3 : ¬ (false = (decide ((x397000_1.length : Int) > 1))) := by simpa using c38))
       clear c38
       (first | rw [c38b0] | (simp only [i64_w, i32_w]; rw [c38b0]) | skip)
       have H' := Aside0.mk H
       clear H
       go_wp2
       go_meet
       case rel => exact ⟨_, (true), (by first | rfl | (simp; done) | (simp [*]; done)), H', ⟨by have := HK1.out; first | omega | exact Nat.le_refl _⟩, ⟨by (with_reducible repeat (first | apply Kd.S_alloc | apply Kd.S_drewN | apply Kd.S_drew)); exact Kd.S_mono HO_397000.out (fun _ hk => trivial)⟩, ⟨bk BK392⟩, ⟨bk BK396⟩, ⟨bq⟩⟩
      ·rw [if_neg c38] at H
       have c38b0 : (false != (decide ((x397000_1.length : Int) > 1))) = false := by simpa using c38
       (try (have c38b1 : decide (false = (decide ((x397000_1.length : Int) > 1))) = true := by simpa using c38))
       (try (have c38b2 : (false == (decide ((x397000_1.length : Int) > 1))) = true := by simpa using c38))
       clear c38
       (first | rw [c38b0] | (simp only [i64_w, i32_w]; rw [c38b0]) | skip)
       have H' := Aside0.mk H
       clear H
       obtain ⟨Ao39, co39, eo39⟩ := Kd.R_slice HO411.out
       subst eo39
       go_wp2
       go_meet
       case rel => exact ⟨_, (((y409.length : Int) != (wrap64 (Int.tdiv (wrap64 ((x397000_1.length : Int) * (wrap64 ((x397000_1.length : Int) - 1)))) 2)))), (by first | rfl | (simp; done) | (simp [*]; done)), H', ⟨by have := HK1.out; first | omega | exact Nat.le_refl _⟩, ⟨by (with_reducible repeat (first | apply Kd.S_alloc | apply Kd.S_drewN | apply Kd.S_drew)); exact Kd.S_mono HO_397000.out (fun _ hk => trivial)⟩, ⟨bk BK392⟩, ⟨bk BK396⟩, ⟨bq⟩⟩
     case rest =>
      clear HC32
      try clear c1
      try clear c2
      try clear p2
      try clear c3
      try clear p4
      try clear q4
      try clear hx4
      try clear c6
      try clear p6
      try clear c10
      try clear c10b0
      try clear c11
      try clear c11b0
      try clear c12
      try clear c12b0
      try clear c14
      try clear c14b0
      try clear c14b1
      try clear c15
      try clear c15b0
      try clear c15b1
      try clear c16
      try clear c20
      try clear c21
      try clear c24
      try clear c30
      try clear c31
      try clear c33
      try clear c38
      try clear c38b0
      try clear c38b1
      try clear c38b2
      try clear hcz22_0
      try clear hcz25_0
      try clear hcz25_1
      try clear hcz27_0
      try clear hcz30_0
      try clear hcz30_1
      try clear hcz34_0
      try clear hcz34_1
      try clear hcz7_0
      try clear hcz7_1
      try clear hfz22_0
      try clear hfz25_0
      try clear hfz25_1
      try clear hfz27_0
      try clear hfz30_0
      try clear hfz30_1
      try clear hfz34_0
      try clear hfz34_1
      try clear hfz7_0
      try clear hfz7_1
      try clear hx400_0
      try clear p2
      try clear p400
      try clear q400
      obtain ⟨kq, x80_31, rfl, HA, HJ31, HO_397000, BK392, BK396, HB⟩ := hcut
      cases kq with
      | zero => exact absurd HA.out (by simp [impl_ParseCurve.j1])
      | succ kj31 =>
       have H := HA.out
       clear HA
       simp only [impl_ParseCurve.j1] at H
       by_cases c40 : x80_31 = true
       ·subst c40
        have H1 : (none) = some (r1, r2, r3) := by rw [if_pos rfl] at H; exact H
        clear H
        have H := H1
        clear H1
        exact absurd H (by simp)
       ·replace c40 := Bool.eq_false_iff.mpr c40
        subst c40
        have H1 : ((impl_square.f kj31 (x397000_1.length : Int)).bind fun t412 => (impl_ParseCurve.l1 kj31 (x397000_1.length : Int) (x397000_1.length : Int) 0 x397000_1 t412)) = some (r1, r2, r3) := by rw [if_neg (show ¬ (false = true) by decide)] at H; exact H
        clear H
        have H := H1
        clear H1
        replace H := Option.bind_eq_some_iff.mp H
        obtain ⟨t412, A410, H⟩ := H
        replace H : (impl_ParseCurve.l1 kj31 (x397000_1.length : Int) (x397000_1.length : Int) 0 x397000_1 t412) = some (r1, r2, r3) := H
        have A41 := Aside0.mk A410
        clear A410
        have H' := Aside0.mk H
        clear H
        go_wp2_with (first | ((with_reducible refine gate_callee (f := 65) rfl ?_); refine gL 83 Tryd.func65 #[.int .i64 (x397000_1.length : Int)] ?_; (with_reducible refine (impl_square.calls kj31 (x397000_1.length : Int) t412 _ A41.out).mono ?_); rintro e w42 ⟨v413, rfl, ho0, hb⟩; refine ⟨_, rfl, ?_⟩; obtain ⟨N_, h1_, h2_⟩ : ∃ N_ : Nat, Kd.S k74 74 w42 w.heap.size (fun k_ => k_ < N_) _ _ ∧ Kd.S (Kd.slice 2 (Kd.int .i64)) 35 w42 w.heap.size (fun k_ => N_ ≤ k_) _ _ := ⟨_, Kd.S_mono (Kd.S_old (by (with_reducible repeat (first | apply Kd.S_alloc | apply Kd.S_drewN | apply Kd.S_drew)); exact HO_397000.out) hb) (fun _ h_ => h_.2), Kd.S_lower (Kd.S_mono (Kd.S_bound ho0) (fun _ h_ => h_.2.1)) (below_size bq)⟩; replace HO_397000 := Aside0.mk h1_; have HO414 := Aside0.mk h2_; clear h1_ h2_; replace BK392 := Aside0.mk (blk_below (g := gb392) (o := .cells #[.slice none 0 0, .slice none 0 0] 31 (0, 0)) (bk BK392) hb); replace BK396 := Aside0.mk (blk_below (g := gb396) (o := .cells #[.slice Ao35 x397000_1.length co35, .slice none 0 0] 31 (0, 0)) (bk BK396) hb); replace HB := Aside0.mk (below_step bq hb); (try clear hb); (try clear ho0); obtain ⟨Ao43, co43, eo43⟩ := Kd.S_slice HO414.out; subst eo43; have hnb44 := NB396_392.out; have hnc44 := NB392_396.out; have hcz45_0 := bc0 BK396; have hcz45_1 := bc1 BK396; have hfz45_0 := blk_frozen BK396.out 0; have hfz45_1 := blk_frozen BK396.out 1))
        go_loopg [86] kj31 (fun kq v86 w' => ∃ (x86_3 : Int) (x397001_3 : List (List Int)) (u397001 : Value), v86 = .int .i64 x86_3 ∧ Aside0 (impl_ParseCurve.l1 kq (x397000_1.length : Int) (x397000_1.length : Int) x86_3 x397000_1 x397001_3 = some (r1, r2, r3)) ∧ Aside0 (kq ≤ kj31) ∧ Aside0 (Kd.S k74 74 w' w.heap.size (fun k_ => k_ < N_) (.slice Ao35 x397000_1.length co35) x397000_1) ∧ Aside0 (Kd.S (Kd.slice 2 (Kd.int .i64)) 35 w' w.heap.size (fun k_ => N_ ≤ k_) u397001 x397001_3) ∧ Aside0 (w'.heap[gb392]? = some (.cells #[(.slice none 0 0), (.slice none 0 0)] 31 (0, 0))) ∧ Aside0 (w'.heap[gb396]? = some (.cells #[(.slice Ao35 x397000_1.length co35), u397001] 31 (0, 0))) ∧ Aside0 (Below w.heap.size w w'))
        case atStart => exact ⟨(0), (t412), (.slice Ao43 t412.length co43), (by first | rfl | (simp; done) | (simp [*]; done)), H', ⟨Nat.le_refl _⟩, ⟨by (with_reducible repeat (first | apply Kd.S_alloc | apply Kd.S_drewN | apply Kd.S_drew)); exact Kd.S_mono (Kd.S_far (p := ⟨gb396, 1, none⟩) (Kd.S_types HO_397000.out BK396.out (by decide)) (fun _ hk => hk.2) (.slice Ao43 t412.length co43)) (fun _ hk => hk.1)⟩, ⟨by (with_reducible repeat (first | apply Kd.S_alloc | apply Kd.S_drewN | apply Kd.S_drew)); exact Kd.S_mono (Kd.S_far (p := ⟨gb396, 1, none⟩) (Kd.S_types HO414.out BK396.out (by decide)) (fun _ hk => hk.2) (.slice Ao43 t412.length co43)) (fun _ hk => hk.1)⟩, ⟨by (with_reducible repeat (first | refine blk_drewN ?_ _ | refine blk_drew ?_ | refine blk_alloc ?_ _)); refine blk_far ?_ NB392_396.out _; (with_reducible repeat (first | refine blk_drewN ?_ _ | refine blk_drew ?_ | refine blk_alloc ?_ _)); exact BK392.out⟩, ⟨by (with_reducible repeat (first | refine blk_drewN ?_ _ | refine blk_drew ?_ | refine blk_alloc ?_ _)); refine blk_put (cs := #[.slice Ao35 x397000_1.length co35, .slice none 0 0]) ?_ 1 _ rfl; (with_reducible repeat (first | refine blk_drewN ?_ _ | refine blk_drew ?_ | refine blk_alloc ?_ _)); exact BK396.out⟩, ⟨bq⟩⟩
        case round =>
         clear H'
         try clear c1
         try clear c2
         try clear p2
         try clear c3
         try clear c4
         try clear p4
         try clear q4
         try clear hx4
         try clear c6
         try clear p6
         try clear c10
         try clear c10b0
         try clear c11
         try clear c11b0
         try clear c12
         try clear c12b0
         try clear c14
         try clear c14b0
         try clear c14b1
         try clear c15
         try clear c15b0
         try clear c15b1
         try clear c16
         try clear c20
         try clear c21
         try clear c24
         try clear c30
         try clear c31
         try clear c33
         try clear c38
         try clear c38b0
         try clear c38b1
         try clear c38b2
         try clear c40
         try clear p40
         try clear q40
         try clear hx40
         try clear c44
         try clear hcz22_0
         try clear hcz25_0
         try clear hcz25_1
         try clear hcz27_0
         try clear hcz30_0
         try clear hcz30_1
         try clear hcz34_0
         try clear hcz34_1
         try clear hcz45_0
         try clear hcz45_1
         try clear hcz7_0
         try clear hcz7_1
         try clear hfz22_0
         try clear hfz25_0
         try clear hfz25_1
         try clear hfz27_0
         try clear hfz30_0
         try clear hfz30_1
         try clear hfz34_0
         try clear hfz34_1
         try clear hfz45_0
         try clear hfz45_1
         try clear hfz7_0
         try clear hfz7_1
         try clear hx400_0
         try clear p2
         try clear p4
         try clear p400
         try clear p6
         try clear q4
         try clear q400
         obtain ⟨x86_3, x397001_3, u397001, rfl, HA, HK3, HO_397000, HO_397001, BK392, BK396, HB⟩ := hrel
         cases gk with
         | zero => exact absurd HA.out (by simp [impl_ParseCurve.l1])
         | succ k3 =>
          have H := HA.out
          clear HA
          simp only [impl_ParseCurve.l1] at H
          by_cases c46 : x86_3 < (x397000_1.length : Int)
          ·rw [if_pos c46] at H
           have c46b0 : decide (x86_3 < (x397000_1.length : Int)) = true := decide_eq_true c46
           clear c46
           have H' := Aside0.mk H
           clear H
           go_wp2
           go_loopg [17] k3 (fun kq v17 w' => ∃ (x17_4 : Int) (x397001_4 : List (List Int)) (u397001 : Value), v17 = .int .i64 x17_4 ∧ Aside0 (impl_ParseCurve.l2 kq (x397000_1.length : Int) x17_4 (x397000_1.length : Int) x86_3 x397000_1 x397001_4 = some (r1, r2, r3)) ∧ Aside0 (kq ≤ k3) ∧ Aside0 (Kd.S k74 74 w' w.heap.size (fun k_ => k_ < N_) (.slice Ao35 x397000_1.length co35) x397000_1) ∧ Aside0 (Kd.S (Kd.slice 2 (Kd.int .i64)) 35 w' w.heap.size (fun k_ => N_ ≤ k_) u397001 x397001_4) ∧ Aside0 (w'.heap[gb392]? = some (.cells #[(.slice none 0 0), (.slice none 0 0)] 31 (0, 0))) ∧ Aside0 (w'.heap[gb396]? = some (.cells #[(.slice Ao35 x397000_1.length co35), u397001] 31 (0, 0))) ∧ Aside0 (Below w.heap.size w w'))
           case atStart => exact ⟨(wrap64 (x86_3 + 1)), (x397001_3), (u397001), (by first | rfl | (simp; done) | (simp [*]; done)), H', ⟨Nat.le_refl _⟩, ⟨by (with_reducible repeat (first | apply Kd.S_alloc | apply Kd.S_drewN | apply Kd.S_drew)); exact HO_397000.out⟩, ⟨by (with_reducible repeat (first | apply Kd.S_alloc | apply Kd.S_drewN | apply Kd.S_drew)); exact HO_397001.out⟩, ⟨bk BK392⟩, ⟨bk BK396⟩, ⟨bq⟩⟩
           case round =>
            clear H'
            try clear c1
            try clear c2
            try clear p2
            try clear c3
            try clear c4
            try clear p4
            try clear q4
            try clear hx4
            try clear c6
            try clear p6
            try clear c10
            try clear c10b0
            try clear c11
            try clear c11b0
            try clear c12
            try clear c12b0
            try clear c14
            try clear c14b0
            try clear c14b1
            try clear c15
            try clear c15b0
            try clear c15b1
            try clear c16
            try clear c20
            try clear c21
            try clear c24
            try clear c30
            try clear c31
            try clear c33
            try clear c38
            try clear c38b0
            try clear c38b1
            try clear c38b2
            try clear c40
            try clear p40
            try clear q40
            try clear hx40
            try clear c44
            try clear c46
            try clear c46b0
            try clear hcz22_0
            try clear hcz25_0
            try clear hcz25_1
            try clear hcz27_0
            try clear hcz30_0
            try clear hcz30_1
            try clear hcz34_0
            try clear hcz34_1
            try clear hcz45_0
            try clear hcz45_1
            try clear hcz7_0
            try clear hcz7_1
            try clear hfz22_0
            try clear hfz25_0
            try clear hfz25_1
            try clear hfz27_0
            try clear hfz30_0
            try clear hfz30_1
            try clear hfz34_0
            try clear hfz34_1
            try clear hfz45_0
            try clear hfz45_1
            try clear hfz7_0
            try clear hfz7_1
            try clear hx400_0
            try clear p2
            try clear p4
            try clear p40
            try clear p400
            try clear p6
            try clear q4
            try clear q40
            try clear q400
            obtain ⟨x17_4, x397001_4, u397001, rfl, HA, HK4, HO_397000, HO_397001, BK392, BK396, HB⟩ := hrel
            cases gk with
            | zero => exact absurd HA.out (by simp [impl_ParseCurve.l2])
            | succ k4 =>
             have H := HA.out
             clear HA
             simp only [impl_ParseCurve.l2] at H
             by_cases c47 : x17_4 < (x397000_1.length : Int)
             ·rw [if_pos c47] at H
              exact absurd H (by simp)
             ·rw [if_neg c47] at H
              have c47b0 : decide (x17_4 < (x397000_1.length : Int)) = false := decide_eq_false c47
              clear c47
              have H' := Aside0.mk H
              clear H
              go_wp2
              go_roundg k4
              case measure => have := HK1.out; have := HJ31.out; have := HK3.out; have := HK4.out; omega
              case rel => exact ⟨(wrap64 (x86_3 + 1)), (x397001_4), (u397001), (by first | rfl | (simp; done) | (simp [*]; done)), H', ⟨by have := HK1.out; have := HJ31.out; have := HK3.out; have := HK4.out; omega⟩, ⟨by (with_reducible repeat (first | apply Kd.S_alloc | apply Kd.S_drewN | apply Kd.S_drew)); exact HO_397000.out⟩, ⟨by (with_reducible repeat (first | apply Kd.S_alloc | apply Kd.S_drewN | apply Kd.S_drew)); exact HO_397001.out⟩, ⟨bk BK392⟩, ⟨bk BK396⟩, ⟨bq⟩⟩
          ·rw [if_neg c46] at H
           have c46b0 : decide (x86_3 < (x397000_1.length : Int)) = false := decide_eq_false c46
           clear c46
           replace H := Option.bind_eq_some_iff.mp H
           obtain ⟨t415, A480, H⟩ := H
           replace H : (if t415 = true then (some (x397000_1, x397001_3, 0)) else (none)) = some (r1, r2, r3) := H
           have A48 := Aside0.mk A480
           clear A480
           by_cases c49 : t415 = true
           ·subst c49
            have H1 : (some (x397000_1, x397001_3, 0)) = some (r1, r2, r3) := by rw [if_pos rfl] at H; exact H
            clear H
            have H := H1
            clear H1
            simp only [Option.some.injEq, Prod.mk.injEq] at H
            obtain ⟨rfl, rfl, rfl⟩ := H
            have hnb50 := NB396_392.out
            have hnc50 := NB392_396.out
            have hcz51_0 := bc0 BK396
            have hcz51_1 := bc1 BK396
            have hfz51_0 := blk_frozen BK396.out 0
            have hfz51_1 := blk_frozen BK396.out 1
            obtain ⟨Ao52, co52, eo52⟩ := Kd.S_slice HO_397001.out
            subst eo52
            go_wp2_with (first | ((with_reducible refine gate_callee (f := 21) rfl ?_); refine gL 120 Tryd.func21 #[.agg #[.slice Ao35 x397000_1.length co35, .slice Ao52 x397001_3.length co52]] ?_; (with_reducible refine (impl_IsCurve.calls k3 _ _ x397000_1 _ _ x397001_3 true _ ?side1 ?side2 ?side3 ?side4 A48.out).mono ?_); (case side1 => repeat (first | exact (Kd.S_reads' HO_397000.out).2.2 | (with_reducible refine Kd.C_alloc ?_ _) | (with_reducible refine Kd.C_drewN ?_ _) | (with_reducible refine Kd.C_drew ?_))); (case side2 => exact (Kd.S_reads' HO_397000.out).2.1); (case side3 => repeat (first | exact (Kd.S_reads' HO_397001.out).2.2 | (with_reducible refine Kd.C_alloc ?_ _) | (with_reducible refine Kd.C_drewN ?_ _) | (with_reducible refine Kd.C_drew ?_))); (case side4 => exact (Kd.S_reads' HO_397001.out).2.1); rintro e w53 ⟨rfl, hb⟩; refine ⟨_, rfl, ?_⟩; replace HO_397000 := Aside0.mk (Kd.S_below (by (with_reducible repeat (first | apply Kd.S_alloc | apply Kd.S_drewN | apply Kd.S_drew)); exact HO_397000.out) hb); replace HO_397001 := Aside0.mk (Kd.S_below (by (with_reducible repeat (first | apply Kd.S_alloc | apply Kd.S_drewN | apply Kd.S_drew)); exact HO_397001.out) hb); replace BK392 := Aside0.mk (blk_below (g := gb392) (o := .cells #[.slice none 0 0, .slice none 0 0] 31 (0, 0)) (bk BK392) hb); replace BK396 := Aside0.mk (blk_below (g := gb396) (o := .cells #[.slice Ao35 x397000_1.length co35, .slice Ao52 x397001_3.length co52] 31 (0, 0)) (bk BK396) hb); replace HB := Aside0.mk (below_step bq hb); (try clear hb); have hcz54_0 := bc0 BK396; have hcz54_1 := bc1 BK396; have hfz54_0 := blk_frozen BK396.out 0; have hfz54_1 := blk_frozen BK396.out 1; have hcz55_0 := bc0 BK392; have hcz55_1 := bc1 BK392; have hfz55_0 := blk_frozen BK392.out 0; have hfz55_1 := blk_frozen BK392.out 1))
            refine bodyPost_ret (results_ct rfl _ _ gb392 31 #[.slice Ao35 x397000_1.length co35, .slice Ao52 x397001_3.length co52] (0, 0) _ rfl (by (with_reducible repeat (first | refine blk_drewN ?_ _ | refine blk_drew ?_ | refine blk_alloc ?_ _)); refine blk_put (cs := #[.slice Ao35 x397000_1.length co35, .slice none 0 0]) ?_ 1 _ rfl; (with_reducible repeat (first | refine blk_drewN ?_ _ | refine blk_drew ?_ | refine blk_alloc ?_ _)); refine blk_put (cs := #[.slice none 0 0, .slice none 0 0]) ?_ 0 _ rfl; (with_reducible repeat (first | refine blk_drewN ?_ _ | refine blk_drew ?_ | refine blk_alloc ?_ _)); exact BK392.out) Tryd.underlying31 rfl (by kernel_rfl)) rfl ?_
            exact ⟨_, _, N_, eq_, by (with_reducible repeat (first | apply Kd.S_alloc | apply Kd.S_drewN | apply Kd.S_drew)); exact Kd.S_mono (Kd.S_far (p := ⟨gb392, 1, none⟩) (Kd.S_far (p := ⟨gb392, 0, none⟩) (Kd.S_types HO_397000.out BK392.out (by decide)) (fun _ hk => hk.2) (.slice Ao35 x397000_1.length co35)) (fun _ hk => hk.2) (.slice Ao52 x397001_3.length co52)) (fun _ hk => hk.1), by (with_reducible repeat (first | apply Kd.S_alloc | apply Kd.S_drewN | apply Kd.S_drew)); exact Kd.S_mono (Kd.S_far (p := ⟨gb392, 1, none⟩) (Kd.S_far (p := ⟨gb392, 0, none⟩) (Kd.S_types HO_397001.out BK392.out (by decide)) (fun _ hk => hk.2) (.slice Ao35 x397000_1.length co35)) (fun _ hk => hk.2) (.slice Ao52 x397001_3.length co52)) (fun _ hk => hk.1), bq⟩
           ·replace c49 := Bool.eq_false_iff.mpr c49
            subst c49
            have H1 : (none) = some (r1, r2, r3) := by rw [if_neg (show ¬ (false = true) by decide)] at H; exact H
            clear H
            have H := H1
            clear H1
            exact absurd H (by simp)

/-! ### impl_signedOf: function 94 -/
def impl_signedOf.j0 : Nat → ByteArray → Bool → Option (Int × Bool)
 | 0, _, _ => none
 | k + 1, x0, x13 => if x13 = true then (none) else ((impl_numberOf.f k x0).bind fun bt416 => (some (bt416.1, bt416.2)))
def impl_signedOf.f (k : Nat) (a0 : ByteArray) : Option (Int × Bool) := if (a0.size : Int) > 0 then (if 0 < (a0.size : Int) then (impl_signedOf.j0 k a0 ((bt a0 0) == 45)) else (none)) else (impl_signedOf.j0 k a0 false)
set_option maxHeartbeats 8000000 in
set_option maxRecDepth 100000 in
theorem impl_signedOf.calls (k : Nat) (a0 : ByteArray) (r1 : Int) (r2 : Bool) (w : World) (h : impl_signedOf.f k a0 = some (r1, r2)) :
  Calls Tryd.prog 94 #[.string a0] w fun e w' => e = .returned (.tuple #[.int .i64 r1, .bool r2]) ∧ Drawn0 w w' := by
 have H : (if (a0.size : Int) > 0 then (if 0 < (a0.size : Int) then (impl_signedOf.j0 k a0 ((bt a0 0) == 45)) else (none)) else (impl_signedOf.j0 k a0 false)) = some (r1, r2) := h
 clear h
 have HC2 := Aside0.mk H
 clear H
 go_enter Tryd.func94, Tryd.ntmps94
 go_upto_region 1 with (fail)
 go_cut [13] (fun v13 wc => ∃ (kq : Nat) (x13_1 : Bool), v13 = .bool x13_1 ∧ Aside0 (impl_signedOf.j0 kq a0 x13_1 = some (r1, r2)) ∧ Aside0 (kq ≤ k) ∧ Drawn0 w wc)
 case first =>
  have H := HC2.out
  clear HC2
  by_cases c3 : (a0.size : Int) > 0
  ·rw [if_pos c3] at H
   have c3b0 : decide (0 < (a0.size : Int)) = true := decide_eq_true c3
   have c3b1 : decide (0 < a0.size) = true := decide_eq_true (by omega)
   clear c3
   (first | rw [c3b0] | (simp only [i64_w, i32_w]; rw [c3b0]) | skip)
   revert H
   refine ifr fun c4 H => ?_
   have c4b0 : decide (0 < (a0.size : Int)) = true := decide_eq_true c4
   have c4b1 : decide (0 < a0.size) = true := decide_eq_true (by omega)
   clear c4
   have H' := Aside0.mk H
   clear H
   have p5 : 0 ≤ (0 : Int) := (by omega)
   have q5 : 0 < a0.size := (by have : (0 : Int) < (a0.size : Int) := ode; omega)
   have hx5 : ∀ h : 0 < a0.size, ((a0[0]'h).toNat : Int) = bt a0 0 := bt_at a0 0
   clear p5
   have qi5 : (0 < (a0.size : Int)) = True := eq_true (ode)
   replace q5 := eq_true q5
   go_wp2
   go_meet
   case rel => exact ⟨_, (((bt a0 0) == 45)), (by first | rfl | (simp; done) | (simp [*]; done)), H', ⟨by first | omega | exact Nat.le_refl _⟩, by repeat (first | exact Drawn0.refl _ | apply Drawn0.step)⟩
  ·rw [if_neg c3] at H
   have c3b0 : decide (0 < (a0.size : Int)) = false := decide_eq_false c3
   have c3b1 : decide (0 < a0.size) = false := decide_eq_false (by omega)
   clear c3
   (first | rw [c3b0] | (simp only [i64_w, i32_w]; rw [c3b0]) | skip)
   have H' := Aside0.mk H
   clear H
   go_wp2
   go_meet
   case rel => exact ⟨_, (false), (by first | rfl | (simp; done) | (simp [*]; done)), H', ⟨by first | omega | exact Nat.le_refl _⟩, by repeat (first | exact Drawn0.refl _ | apply Drawn0.step)⟩
 case rest =>
  clear HC2
  try clear p2
  try clear c3
  try clear c3b0
  try clear c3b1
  try clear c4
  try clear c4b0
  try clear c4b1
  try clear p5
  try clear q5
  try clear hx5
  try clear qi5
  try clear p5
  try clear q5
  obtain ⟨kq, x13_1, rfl, HA, HJ1, ⟨mc1, rfl⟩⟩ := hcut
  cases kq with
  | zero => exact absurd HA.out (by simp [impl_signedOf.j0])
  | succ kj1 =>
   have H := HA.out
   clear HA
   simp only [impl_signedOf.j0] at H
   by_cases c6 : x13_1 = true
   ·subst c6
    have H1 : (none) = some (r1, r2) := by rw [if_pos rfl] at H; exact H
    clear H
    have H := H1
    clear H1
    exact absurd H (by simp)
   ·replace c6 := Bool.eq_false_iff.mpr c6
    subst c6
    have H1 : ((impl_numberOf.f kj1 a0).bind fun bt416 => (some (bt416.1, bt416.2))) = some (r1, r2) := by rw [if_neg (show ¬ (false = true) by decide)] at H; exact H
    clear H
    have H := H1
    clear H1
    replace H := Option.bind_eq_some_iff.mp H
    obtain ⟨⟨t416, t417⟩, A70, H⟩ := H
    replace H : (some (t416, t417)) = some (r1, r2) := H
    have A7 := Aside0.mk A70
    clear A70
    simp only [Option.some.injEq, Prod.mk.injEq] at H
    obtain ⟨rfl, rfl⟩ := H
    go_wp2_with (first | ((with_reducible refine gate_callee (f := 93) rfl ?_); refine gL 28 Tryd.func93 #[.string a0] ?_; (with_reducible refine (impl_numberOf.calls kj1 a0 t416 t417 _ A7.out).mono ?_); rintro e w' ⟨rfl, ⟨nd, rfl⟩⟩; refine ⟨_, rfl, ?_⟩))
    go_ret2
    exact ⟨by first | rfl | (simp; done) | (simp [*]; done), by repeat (first | exact Drawn0.refl _ | apply Drawn0.step)⟩
end Go.Proofs.YtkfdfpcdcabcoaaDoor.QDesx
