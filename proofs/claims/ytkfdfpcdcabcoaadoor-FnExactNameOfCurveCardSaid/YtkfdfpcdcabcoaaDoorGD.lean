/- Walks: the printed functions, and that each call comes to them (4). -/
import Derived.Test.YtkfdfpcdcabcoaaDoorV
import Derived.Test.YtkfdfpcdcabcoaaDoorGA
import Derived.Test.YtkfdfpcdcabcoaaDoorGC
namespace Go.Proofs.YtkfdfpcdcabcoaaDoor.QName
open Go.RowKit Go.Proofs.YtkfdfpcdcabcoaaDoorW.PrintWords Go.Proofs.YtkfdfpcdcabcoaaDoorW.PrintLast Go.Proofs.YtkfdfpcdcabcoaaDoorW.PrintMore
attribute [local go_sem] max2_int min2_int max_two min_two max_three min_three max_four min_four
set_option linter.unusedVariables false
set_option linter.unusedSimpArgs false

/-! ### spec_l09Pair: function 45 -/
def spec_l09Pair.f (k : Nat) (l0_0 : List Int) (l1_0 : List Int) (a2 : Int) : Option (Bool) := (spec_l06Code.f k l0_0 (wrap64 (a2 + 1))).bind fun t193 => ((spec_l06Code.f k l1_0 (wrap64 (a2 + 1))).bind fun t196 => (if 0 ≤ (wrap64 (a2 - 1)) then (if (wrap64 (a2 - 1)) ≤ (t193.length : Int) then (if (wrap64 (a2 - 1)) ≤ (t196.length : Int) then ((spec_l01Same.f k (t193.take ((wrap64 (a2 - 1)) : Int).toNat) (t196.take ((wrap64 (a2 - 1)) : Int).toNat)).bind fun t207 => (if t207 = true then (if (wrap64 (a2 - 1)) < (t193.length : Int) then (if (wrap64 (a2 - 1)) < (t196.length : Int) then (if (rd t193 (wrap64 (a2 - 1))) = (rd t196 (wrap64 (a2 - 1))) then (some ((rd t193 (wrap64 (a2 - 1))) == 0)) else (some true)) else (none)) else (none)) else (some false))) else (none)) else (none)) else (none)))
def spec_l09Pair.T1 : Bool × List (List Nat × List Nat) := (true, [([], []), ([], []), ([1], [1]), ([0, 2], [0, 2]), ([], []), ([], []), ([5], [5]), ([4, 6, 3], [4, 6]), ([3, 7, 0, 1, 2, 3], [3]), ([7, 8, 0, 1, 2, 3, 4, 5, 6, 7, 8], [7])])
def spec_l09Pair.B1 : List Nat := [0, 0, 2, 7, 0, 0, 32, 127, 255, 511]
theorem spec_l09Pair.tab1 : rtab .any (opsOf Tryd.f45 1) = spec_l09Pair.T1 := by kernel_rfl
theorem spec_l09Pair.bits1 : waitsOk spec_l09Pair.T1.2 spec_l09Pair.B1 = true := by kernel_rfl
def spec_l09Pair.T2 : Bool × List (List Nat × List Nat) := (true, [([], []), ([], []), ([1], [1]), ([0, 2], [0, 2]), ([], []), ([], []), ([5], [5]), ([4, 6], [4, 6]), ([3, 7], [3, 7]), ([8], [8])])
def spec_l09Pair.B2 : List Nat := [0, 0, 2, 7, 0, 0, 32, 112, 255, 511]
theorem spec_l09Pair.tab2 : rtab .any (opsOf Tryd.f45 2) = spec_l09Pair.T2 := by kernel_rfl
theorem spec_l09Pair.bits2 : waitsOk spec_l09Pair.T2.2 spec_l09Pair.B2 = true := by kernel_rfl
def spec_l09Pair.T4 : Bool × List (List Nat × List Nat) := (true, [([], []), ([], []), ([1], [1]), ([0, 2], [0, 2]), ([3], [3]), ([], []), ([], []), ([6], [6]), ([5, 7], [5, 7]), ([8], [8]), ([4, 9], [4, 9]), ([10], [10]), ([11], [11]), ([11], [11]), ([13, 11], [11, 13]), ([12, 14, 11], [11, 12, 14]), ([15, 11], [11, 15]), ([16, 11], [11, 16]), ([11, 17], [11, 17]), ([18, 11, 0, 1, 2, 3, 4, 5, 6, 7, 8, 9, 10, 11, 12, 13, 14, 15, 16, 17, 18], [18])])
def spec_l09Pair.B4 : List Nat := [0, 0, 2, 7, 15, 0, 0, 64, 224, 480, 1023, 2047, 4095, 4095, 12287, 32767, 65535, 131071, 262143, 524287]
theorem spec_l09Pair.tab4 : rtab .any (opsOf Tryd.f45 4) = spec_l09Pair.T4 := by kernel_rfl
theorem spec_l09Pair.bits4 : waitsOk spec_l09Pair.T4.2 spec_l09Pair.B4 = true := by kernel_rfl
set_option maxHeartbeats 8000000 in
set_option maxRecDepth 100000 in
theorem spec_l09Pair.calls (k : Nat) (A0_0 : Option Addr) (c0_0 : Nat) (l0_0 : List Int) (A1_0 : Option Addr) (c1_0 : Nat) (l1_0 : List Int) (a2 : Int) (r : Bool) (w : World) (hr0_0 : Kd.C (Kd.int .i64) w A0_0 l0_0.length l0_0) (hc0_0 : l0_0.length ≤ c0_0) (hr1_0 : Kd.C (Kd.int .i64) w A1_0 l1_0.length l1_0) (hc1_0 : l1_0.length ≤ c1_0) (h : spec_l09Pair.f k l0_0 l1_0 a2 = some r) :
  Calls Tryd.prog 45 #[.agg #[.slice A0_0 l0_0.length c0_0], .agg #[.slice A1_0 l1_0.length c1_0], .int .i64 a2] w fun e w' => e = .returned (.bool r) ∧ Below w.heap.size w w' := by
 have hu74 := Tryd.underlying74
 have HR0_0 := Aside0.mk hr0_0
 have HC0_0 := Aside0.mk hc0_0
 clear hr0_0 hc0_0
 have HR1_0 := Aside0.mk hr1_0
 have HC1_0 := Aside0.mk hc1_0
 clear hr1_0 hc1_0
 have HB := Aside0.mk (Below.refl w.heap.size w)
 have H : ((spec_l06Code.f k l0_0 (wrap64 (a2 + 1))).bind fun t193 => ((spec_l06Code.f k l1_0 (wrap64 (a2 + 1))).bind fun t196 => (if 0 ≤ (wrap64 (a2 - 1)) then (if (wrap64 (a2 - 1)) ≤ (t193.length : Int) then (if (wrap64 (a2 - 1)) ≤ (t196.length : Int) then ((spec_l01Same.f k (t193.take ((wrap64 (a2 - 1)) : Int).toNat) (t196.take ((wrap64 (a2 - 1)) : Int).toNat)).bind fun t207 => (if t207 = true then (if (wrap64 (a2 - 1)) < (t193.length : Int) then (if (wrap64 (a2 - 1)) < (t196.length : Int) then (if (rd t193 (wrap64 (a2 - 1))) = (rd t196 (wrap64 (a2 - 1))) then (some ((rd t193 (wrap64 (a2 - 1))) == 0)) else (some true)) else (none)) else (none)) else (some false))) else (none)) else (none)) else (none)))) = some r := h
 clear h
 replace H := Option.bind_eq_some_iff.mp H
 obtain ⟨t193, A40, H⟩ := H
 replace H : ((spec_l06Code.f k l1_0 (wrap64 (a2 + 1))).bind fun t196 => (if 0 ≤ (wrap64 (a2 - 1)) then (if (wrap64 (a2 - 1)) ≤ (t193.length : Int) then (if (wrap64 (a2 - 1)) ≤ (t196.length : Int) then ((spec_l01Same.f k (t193.take ((wrap64 (a2 - 1)) : Int).toNat) (t196.take ((wrap64 (a2 - 1)) : Int).toNat)).bind fun t207 => (if t207 = true then (if (wrap64 (a2 - 1)) < (t193.length : Int) then (if (wrap64 (a2 - 1)) < (t196.length : Int) then (if (rd t193 (wrap64 (a2 - 1))) = (rd t196 (wrap64 (a2 - 1))) then (some ((rd t193 (wrap64 (a2 - 1))) == 0)) else (some true)) else (none)) else (none)) else (some false))) else (none)) else (none)) else (none))) = some r := H
 have A4 := Aside0.mk A40
 clear A40
 replace H := Option.bind_eq_some_iff.mp H
 obtain ⟨t196, A50, H⟩ := H
 replace H : (if 0 ≤ (wrap64 (a2 - 1)) then (if (wrap64 (a2 - 1)) ≤ (t193.length : Int) then (if (wrap64 (a2 - 1)) ≤ (t196.length : Int) then ((spec_l01Same.f k (t193.take ((wrap64 (a2 - 1)) : Int).toNat) (t196.take ((wrap64 (a2 - 1)) : Int).toNat)).bind fun t207 => (if t207 = true then (if (wrap64 (a2 - 1)) < (t193.length : Int) then (if (wrap64 (a2 - 1)) < (t196.length : Int) then (if (rd t193 (wrap64 (a2 - 1))) = (rd t196 (wrap64 (a2 - 1))) then (some ((rd t193 (wrap64 (a2 - 1))) == 0)) else (some true)) else (none)) else (none)) else (some false))) else (none)) else (none)) else (none)) = some r := H
 have A5 := Aside0.mk A50
 clear A50
 obtain ⟨ji6, hji6⟩ : ∃ j_ : Int, (wrap64 (a2 - 1)) = j_ := ⟨_, rfl⟩
 replace H : (if 0 ≤ (ji6) then (if (ji6) ≤ (t193.length : Int) then (if (ji6) ≤ (t196.length : Int) then ((spec_l01Same.f k (t193.take ((ji6) : Int).toNat) (t196.take ((ji6) : Int).toNat)).bind fun t207 => (if t207 = true then (if (ji6) < (t193.length : Int) then (if (ji6) < (t196.length : Int) then (if (rd t193 (ji6)) = (rd t196 (ji6)) then (some ((rd t193 (ji6)) == 0)) else (some true)) else (none)) else (none)) else (some false))) else (none)) else (none)) else (none)) = some r := by first | (rw [hji6] at H; exact H) | (simp only [hji6] at H ⊢; exact H)
 (try rw [hji6] at A4)
 (try rw [hji6] at A5)
 have hji6w : (IntKind.i64.wrap (a2 - 1)) = ji6 := (i64_w _).trans hji6
 by_cases c7 : 0 ≤ (ji6)
 ·rw [if_pos c7] at H
  have c7b0 := eq_true c7
  have c7b1 : decide (0 ≤ (ji6)) = true := decide_eq_true c7
  clear c7
  revert H
  refine ifr fun c8 H => ?_
  have c8b0 := eq_true c8
  have c8b1 : decide ((ji6) ≤ (t193.length : Int)) = true := decide_eq_true c8
  clear c8
  obtain ⟨y199, hy199⟩ : ∃ y_ : List Int, y_ = (t193.take ((ji6) : Int).toNat) := ⟨_, rfl⟩
  replace H : (if (ji6) ≤ (t196.length : Int) then ((spec_l01Same.f k y199 (t196.take ((ji6) : Int).toNat)).bind fun t207 => (if t207 = true then (if (ji6) < (t193.length : Int) then (if (ji6) < (t196.length : Int) then (if (rd t193 (ji6)) = (rd t196 (ji6)) then (some ((rd t193 (ji6)) == 0)) else (some true)) else (none)) else (none)) else (some false))) else (none)) = some r := by first | (rw [hy199]; with_reducible exact H) | (have H2_ := (Option.bind_some _ _).symm.trans H; rw [hy199]; with_reducible exact H2_) | (have H2_ := (Option.bind_some _ _).symm.trans H; with_reducible exact H2_) | with_reducible exact H | (rw [hy199]; exact H) | exact H
  have Ny199 := Aside0.mk hy199
  clear hy199
  have c9b0 := eq_true (ode : 0 ≤ (ji6))
  revert H
  refine ifr fun c10 H => ?_
  have c10b0 := eq_true c10
  have c10b1 : decide ((ji6) ≤ (t196.length : Int)) = true := decide_eq_true c10
  clear c10
  obtain ⟨y203, hy203⟩ : ∃ y_ : List Int, y_ = (t196.take ((ji6) : Int).toNat) := ⟨_, rfl⟩
  replace H : ((spec_l01Same.f k y199 y203).bind fun t207 => (if t207 = true then (if (ji6) < (t193.length : Int) then (if (ji6) < (t196.length : Int) then (if (rd t193 (ji6)) = (rd t196 (ji6)) then (some ((rd t193 (ji6)) == 0)) else (some true)) else (none)) else (none)) else (some false))) = some r := by first | (rw [hy203]; with_reducible exact H) | (have H2_ := (Option.bind_some _ _).symm.trans H; rw [hy203]; with_reducible exact H2_) | (have H2_ := (Option.bind_some _ _).symm.trans H; with_reducible exact H2_) | with_reducible exact H | (rw [hy203]; exact H) | exact H
  have Ny203 := Aside0.mk hy203
  clear hy203
  replace H := Option.bind_eq_some_iff.mp H
  obtain ⟨t207, A110, H⟩ := H
  replace H : (if t207 = true then (if (ji6) < (t193.length : Int) then (if (ji6) < (t196.length : Int) then (if (rd t193 (ji6)) = (rd t196 (ji6)) then (some ((rd t193 (ji6)) == 0)) else (some true)) else (none)) else (none)) else (some false)) = some r := H
  have A11 := Aside0.mk A110
  clear A110
  by_cases c12 : t207 = true
  ·subst c12
   have H1 : (if (ji6) < (t193.length : Int) then (if (ji6) < (t196.length : Int) then (if (rd t193 (ji6)) = (rd t196 (ji6)) then (some ((rd t193 (ji6)) == 0)) else (some true)) else (none)) else (none)) = some r := by rw [if_pos rfl] at H; exact H
   clear H
   have H := H1
   clear H1
   revert H
   refine ifr fun c13 H => ?_
   have c13b0 : decide ((ji6) < (t193.length : Int)) = true := decide_eq_true c13
   clear c13
   revert H
   refine ifr fun c14 H => ?_
   have c14b0 : decide ((ji6) < (t196.length : Int)) = true := decide_eq_true c14
   clear c14
   by_cases c15 : (rd t193 (ji6)) = (rd t196 (ji6))
   ·rw [if_pos c15] at H
    have c15b0 : ((rd t193 (ji6)) == (rd t196 (ji6))) = true := beq_iff_eq.mpr c15
    have c15b1 : ((rd t193 (ji6)) != (rd t196 (ji6))) = false := bne_eq_false_iff_eq.mpr c15
    clear c15
    obtain rfl := Option.some.inj H
    go_enter Tryd.func45, Tryd.ntmps45
    try go_wp2_with (first | ((with_reducible refine gate_dst (N := 3) rfl ?_); refine box_event ?hg (N := 3) ?hd (cs := #[.slice A0_0 l0_0.length c0_0]) (t := 74) ?hr ?_; (case hd => rfl); (case hg => rfl); (case hr => first | (go_simp; done) | (go_simp; rfl)); intro gb191 hg w16 hbox hb; have BK191 := Aside0.mk (hbox); have GW191 := Aside0.mk ((by rw [hg]; exact (below_size bq) : w.heap.size ≤ gb191)); have GE191 := Aside0.mk ((by rw [hg]; exact (below_size bq) : w.heap.size ≤ gb191)); replace HB := Aside0.mk (below_step bq hb); clear hb hbox hg) | ((with_reducible refine gate_dst (N := 4) rfl ?_); refine box_event ?hg (N := 4) ?hd (cs := #[.slice A1_0 l1_0.length c1_0]) (t := 74) ?hr ?_; (case hd => rfl); (case hg => rfl); (case hr => first | (go_simp; done) | (go_simp; rfl)); intro gb192 hg w17 hbox hb; have BK192 := Aside0.mk (hbox); have GW192 := Aside0.mk ((by rw [hg]; exact (below_size bq) : w.heap.size ≤ gb192)); have GE192 := Aside0.mk ((by rw [hg]; exact (below_size bq) : w.heap.size ≤ gb192)); replace HB := Aside0.mk (below_step bq hb); have NB191_192 := Aside0.mk ((by rw [hg]; exact Nat.ne_of_lt (blk_lt (g := gb191) (o := .cells #[.slice A0_0 l0_0.length c0_0] 74 (0, 0)) (bk BK191)) : gb191 ≠ gb192)); have NB192_191 := Aside0.mk ((by rw [hg]; exact Nat.ne_of_gt (blk_lt (g := gb191) (o := .cells #[.slice A0_0 l0_0.length c0_0] 74 (0, 0)) (bk BK191)) : gb192 ≠ gb191)); replace BK191 := Aside0.mk (blk_below (g := gb191) (o := .cells #[.slice A0_0 l0_0.length c0_0] 74 (0, 0)) (bk BK191) hb); clear hb hbox hg))
    have n0_ := Aside0.mk (blk_drew BK191.out)
    have n1_ := Aside0.mk (blk_drew BK192.out)
    have n2_ := Aside0.mk (below_drew1 HB.out)
    clear BK191
    clear BK192
    clear HB
    have BK191 := n0_
    have BK192 := n1_
    have HB := n2_
    clear n0_ n1_ n2_
    refine start_ (n := 10) (S := fun w' => w'.cell? ⟨gb191, 0, none⟩ = some (.slice A0_0 l0_0.length c0_0) ∧ w'.cell? ⟨gb192, 0, none⟩ = some (.slice A1_0 l1_0.length c1_0)) (ds := []) (bA 10 0) (by kernel_rfl) rfl (by kernel_rfl) ⟨(blk_cell BK191.out 0).trans rfl, (blk_cell BK192.out 0).trans rfl⟩ (fun hHeld => ?_); refine with_tabW spec_l09Pair.tab1 spec_l09Pair.bits1 (fun HT_ HW_ => ?_)
    generalize w17.drew = w18 at BK191 BK192 HB hHeld ⊢
    refine pu HT_ 1 10 2 ?_
    refine pu HT_ 2 11 6 ?_
    refine pu HT_ 5 14 38 ?_
    refine pu HT_ 6 15 102 ?_
    refine tk2 HT_ HW_ hHeld 0 9 103 ?_
    refine tk2 HT_ HW_ hHeld 4 13 119 ?_
    refine one_ (i := 3) (N := some 12) (bA 10 127) rfl rfl (one_of HT_.out (by kernel_rfl)) (by decide) (fun K hK => ?_)
    refine goes_ Tryd.func78 (by kernel_rfl) rfl #[.agg #[.slice A0_0 l0_0.length c0_0], .int .i64 (wrap64 (a2 + 1))] (by rfl) rfl rfl (by (try simp only [List.map_toArray, List.map_cons, List.map_nil]); first | done | rfl | (simp only [List.length_drop, List.length_take]; rfl)) ?_
    with_reducible refine (spec_l06Code.calls k _ _ l0_0 (wrap64 (a2 + 1)) t193 _ ?side1 ?side2 A4.out).mono ?_
    (case side1 => exact kc HR0_0)
    (case side2 => exact HC0_0.out)
    rintro e w19 ⟨v194, rfl, ho0, hb⟩
    refine ⟨_, rfl, ?_⟩
    have n0_ := Aside0.mk (Kd.R_lower ho0 (below_size bq))
    have n1_ := Aside0.mk (blk_below (g := gb191) (o := .cells #[.slice A0_0 l0_0.length c0_0] 74 (0, 0)) (bk BK191) hb)
    have n2_ := Aside0.mk (blk_below (g := gb192) (o := .cells #[.slice A1_0 l1_0.length c1_0] 74 (0, 0)) (bk BK192) hb)
    have n3_ := Aside0.mk (below_step bq hb)
    clear BK191
    clear BK192
    clear HB
    have HO195 := n0_
    have BK191 := n1_
    have BK192 := n2_
    have HB := n3_
    clear n0_ n1_ n2_ n3_
    
    
    
    
    (try clear ho0)
    refine hK.out _ _ ⟨(blk_cell BK191.out 0).trans rfl, (blk_cell BK192.out 0).trans rfl⟩ (fun hHeld => ?_)
    clear hK K
    refine norm_ (a' := ?_) ?_ ?_
    rotate_left
    ·show Act.put _ (some 12) _ = _
     simp only [Act.put, List.setIfInBounds_toArray, List.set_cons_zero, List.set_cons_succ, i64_w, i32_w]
     rfl
    refine one_ (i := 7) (N := some 16) (bA 10 255) rfl rfl (one_of HT_.out (by kernel_rfl)) (by decide) (fun K hK => ?_)
    refine goes_ Tryd.func78 (by kernel_rfl) rfl #[.agg #[.slice A1_0 l1_0.length c1_0], .int .i64 (wrap64 (a2 + 1))] (by rfl) rfl rfl (by (try simp only [List.map_toArray, List.map_cons, List.map_nil]); first | done | rfl | (simp only [List.length_drop, List.length_take]; rfl)) ?_
    with_reducible refine (spec_l06Code.calls k _ _ l1_0 (wrap64 (a2 + 1)) t196 _ ?side1 ?side2 A5.out).mono ?_
    (case side1 => exact kc HR1_0)
    (case side2 => exact HC1_0.out)
    rintro e w20 ⟨v197, rfl, ho0, hb⟩
    refine ⟨_, rfl, ?_⟩
    have n0_ := Aside0.mk (Kd.R_elder' (by (with_reducible repeat (first | apply Kd.R_alloc | apply Kd.R_drewN | apply Kd.R_drew)); exact HO195.out) (Kd.R_base ho0) hb)
    have n1_ := Aside0.mk (Kd.R_lower (Kd.R_new' ho0 (Kd.R_lt (by (with_reducible repeat (first | apply Kd.R_alloc | apply Kd.R_drewN | apply Kd.R_drew)); exact HO195.out))) (below_size bq))
    have n2_ := Aside0.mk (blk_below (g := gb191) (o := .cells #[.slice A0_0 l0_0.length c0_0] 74 (0, 0)) (bk BK191) hb)
    have n3_ := Aside0.mk (blk_below (g := gb192) (o := .cells #[.slice A1_0 l1_0.length c1_0] 74 (0, 0)) (bk BK192) hb)
    have n4_ := Aside0.mk (below_step bq hb)
    clear HO195
    clear BK191
    clear BK192
    clear HB
    have HO195 := n0_
    have HO198 := n1_
    have BK191 := n2_
    have BK192 := n3_
    have HB := n4_
    clear n0_ n1_ n2_ n3_ n4_
    
    
    
    
    (try clear ho0)
    refine hK.out _ _ ⟨(blk_cell BK191.out 0).trans rfl, (blk_cell BK192.out 0).trans rfl⟩ (fun hHeld => ?_)
    clear hK K
    refine norm_ (a' := ?_) ?_ ?_
    rotate_left
    ·show Act.put _ (some 16) _ = _
     simp only [Act.put, List.setIfInBounds_toArray, List.set_cons_zero, List.set_cons_succ, i64_w, i32_w]
     rfl
    refine pu HT_ 8 7 511 ?_
    refine pu HT_ 9 8 1023 ?_
    refine done_ (done_of HT_.out (by kernel_rfl)) ?_
    try go_wp2
    have n0_ := Aside0.mk (Kd.R_drew HO195.out)
    have n1_ := Aside0.mk (Kd.R_drew HO198.out)
    have n2_ := Aside0.mk (blk_drew BK191.out)
    have n3_ := Aside0.mk (blk_drew BK192.out)
    have n4_ := Aside0.mk (below_drew1 HB.out)
    clear HO195
    clear HO198
    clear BK191
    clear BK192
    clear HB
    have HO195 := n0_
    have HO198 := n1_
    have BK191 := n2_
    have BK192 := n3_
    have HB := n4_
    clear n0_ n1_ n2_ n3_ n4_
    obtain ⟨Ao23, co23, eo23⟩ := Kd.R_slice HO195.out
    (first | subst eo23 | (injection eo23 with f1_ f2_ f3_; have f4_ := f1_.symm; have f5_ := f3_.symm; clear f1_ f2_ f3_; subst f4_; subst f5_))
    have q22 : ((ji6) : Int) ≤ ((t193.length : Int) : Int) := ode
    obtain ⟨i022, hi022, _, hsz22, _⟩ := info_parts info2
    have hroom22 : t193.length ≤ co23 := (Kd.R_reads' HO195.out).2.1
    have hC22 : Kd.C (Kd.int .i64) _ Ao23 t193.length t193 := (Kd.R_reads' HO195.out).2.2
    have hcut22 := cut_to (P := Tryd.prog) 35 2 .i64 Tryd.underlying35 hi022 Ao23 t193.length co23 (ji6) (ode) q22 hroom22
    have hr22 := Kd.C_take (m := ((ji6) : Int).toNat) hC22 (by omega)
    have hy22 : y199.length = ((ji6) : Int).toNat := (by rw [Ny199.out, List.length_take]; omega)
    rw [← Ny199.out] at hr22
    rw [← hy22] at hcut22
    have HR202 := Aside0.mk hr22
    have HC202 := Aside0.mk (show y199.length ≤ co23 from by omega)
    clear hr22 hC22 hroom22 hi022 hsz22
    have KY22 := Aside0.mk hy22
    clear hy22
    have KL22 := Aside0.mk (show ((ji6) : Int).toNat ≤ t193.length from by omega)
    replace q22 := eq_true q22
    obtain ⟨Ao25, co25, eo25⟩ := Kd.R_slice HO198.out
    (first | subst eo25 | (injection eo25 with f1_ f2_ f3_; have f4_ := f1_.symm; have f5_ := f3_.symm; clear f1_ f2_ f3_; subst f4_; subst f5_))
    have q24 : ((ji6) : Int) ≤ ((t196.length : Int) : Int) := ode
    obtain ⟨i024, hi024, _, hsz24, _⟩ := info_parts info2
    have hroom24 : t196.length ≤ co25 := (Kd.R_reads' HO198.out).2.1
    have hC24 : Kd.C (Kd.int .i64) _ Ao25 t196.length t196 := (Kd.R_reads' HO198.out).2.2
    have hcut24 := cut_to (P := Tryd.prog) 35 2 .i64 Tryd.underlying35 hi024 Ao25 t196.length co25 (ji6) (ode) q24 hroom24
    have hr24 := Kd.C_take (m := ((ji6) : Int).toNat) hC24 (by omega)
    have hy24 : y203.length = ((ji6) : Int).toNat := (by rw [Ny203.out, List.length_take]; omega)
    rw [← Ny203.out] at hr24
    rw [← hy24] at hcut24
    have HR206 := Aside0.mk hr24
    have HC206 := Aside0.mk (show y203.length ≤ co25 from by omega)
    clear hr24 hC24 hroom24 hi024 hsz24
    have KY24 := Aside0.mk hy24
    clear hy24
    have KL24 := Aside0.mk (show ((ji6) : Int).toNat ≤ t196.length from by omega)
    replace q24 := eq_true q24
    refine start_ (n := 10) (S := fun w' => True) (ds := []) (bA 10 0) (by kernel_rfl) rfl (by kernel_rfl) trivial (fun hHeld => ?_); refine with_tabW spec_l09Pair.tab2 spec_l09Pair.bits2 (fun HT_ HW_ => ?_)
    generalize w20.drew = w21 at HO195 HO198 BK191 BK192 HB HR202 HR206 hHeld ⊢
    refine pu HT_ 0 17 1 ?_
    refine pu HT_ 1 18 3 ?_
    refine pu HT_ 2 19 7 ?_
    refine pu HT_ 3 20 15 ?_
    refine pu HT_ 4 21 31 ?_
    refine pu HT_ 5 22 63 ?_
    refine pu HT_ 6 23 127 ?_
    refine pu HT_ 7 24 255 ?_
    refine one_ (i := 8) (N := some 25) (bA 10 511) rfl rfl (one_of HT_.out (by kernel_rfl)) (by decide) (fun K hK => ?_)
    refine goes_ Tryd.func79 (by kernel_rfl) rfl #[.slice Ao23 y199.length co23, .slice Ao25 y203.length co25] (by rfl) rfl rfl (by (try simp only [List.map_toArray, List.map_cons, List.map_nil]); first | done | rfl | (simp only [List.length_drop, List.length_take]; rfl)) ?_
    with_reducible refine (spec_l01Same.calls k _ _ y199 _ _ y203 true _ ?side1 ?side2 ?side3 ?side4 A11.out).mono ?_
    (case side1 => repeat (first | exact (by repeat (first | (with_reducible exact HR202.out) | (with_reducible refine Kd.C_alloc ?_ _) | (with_reducible refine Kd.C_drewN ?_ _) | (with_reducible refine Kd.C_drew ?_) | exact HR202.out)) | (with_reducible refine Kd.C_alloc ?_ _) | (with_reducible refine Kd.C_drewN ?_ _) | (with_reducible refine Kd.C_drew ?_)))
    (case side2 => exact HC202.out)
    (case side3 => repeat (first | exact (by repeat (first | (with_reducible exact HR206.out) | (with_reducible refine Kd.C_alloc ?_ _) | (with_reducible refine Kd.C_drewN ?_ _) | (with_reducible refine Kd.C_drew ?_) | exact HR206.out)) | (with_reducible refine Kd.C_alloc ?_ _) | (with_reducible refine Kd.C_drewN ?_ _) | (with_reducible refine Kd.C_drew ?_)))
    (case side4 => exact HC206.out)
    rintro e w' ⟨rfl, ⟨nd, rfl⟩⟩
    refine ⟨_, rfl, ?_⟩
    refine hK.out _ _ trivial (fun hHeld => ?_)
    clear hK K
    refine norm_ (a' := ?_) ?_ ?_
    rotate_left
    ·show Act.put _ (some 25) _ = _
     simp only [Act.put, List.setIfInBounds_toArray, List.set_cons_zero, List.set_cons_succ, i64_w, i32_w]
     rfl
    refine pu HT_ 9 26 1023 ?_
    refine done_ (done_of HT_.out (by kernel_rfl)) ?_
    try go_wp2
    (try (rw [drewN_self w21]; generalize hq_ : World.drewN w21 _ = w21; have n0_ : Aside0 (Kd.R (Kd.int .i64) 2 w21 w.heap.size (fun k_ => some k_ ≠ (.slice Ao25 t196.length co25 : Value).ownBlock) (.slice Ao23 t193.length co23) t193) := ⟨by rw [← hq_]; exact (by (with_reducible repeat (first | apply Kd.R_alloc | apply Kd.R_drewN | apply Kd.R_drew)); exact Kd.R_mono HO195.out (fun _ hk => hk.2))⟩; have n1_ : Aside0 (Kd.R (Kd.int .i64) 2 w21 w.heap.size (fun k_ => some k_ ≠ (.slice Ao23 t193.length co23 : Value).ownBlock) (.slice Ao25 t196.length co25) t196) := ⟨by rw [← hq_]; exact (by (with_reducible repeat (first | apply Kd.R_alloc | apply Kd.R_drewN | apply Kd.R_drew)); exact Kd.R_mono HO198.out (fun _ hk => hk.2))⟩; have n2_ : Aside0 (w21.heap[gb191]? = some (.cells #[.slice A0_0 l0_0.length c0_0] 74 (0, 0))) := ⟨by rw [← hq_]; exact (bk BK191)⟩; have n3_ : Aside0 (w21.heap[gb192]? = some (.cells #[.slice A1_0 l1_0.length c1_0] 74 (0, 0))) := ⟨by rw [← hq_]; exact (bk BK192)⟩; have n4_ : Aside0 (Below w.heap.size w w21) := ⟨by rw [← hq_]; exact bq⟩; have n5_ : Aside0 (Kd.C (Kd.int .i64) w21 Ao23 y199.length y199) := ⟨by rw [← hq_]; exact (by repeat (first | (with_reducible exact HR202.out) | (with_reducible refine Kd.C_alloc ?_ _) | (with_reducible refine Kd.C_drewN ?_ _) | (with_reducible refine Kd.C_drew ?_) | exact HR202.out))⟩; have n6_ : Aside0 (Kd.C (Kd.int .i64) w21 Ao25 y203.length y203) := ⟨by rw [← hq_]; exact (by repeat (first | (with_reducible exact HR206.out) | (with_reducible refine Kd.C_alloc ?_ _) | (with_reducible refine Kd.C_drewN ?_ _) | (with_reducible refine Kd.C_drew ?_) | exact HR206.out))⟩; clear HO195 HO198 BK191 BK192 HB HR202 HR206 hq_; have HO195 := n0_; have HO198 := n1_; have BK191 := n2_; have BK192 := n3_; have HB := n4_; have HR202 := n5_; have HR206 := n6_; clear n0_ n1_ n2_ n3_ n4_ n5_ n6_))
    have n0_ := Aside0.mk (Kd.R_drew HO195.out)
    have n1_ := Aside0.mk (Kd.R_drew HO198.out)
    have n2_ := Aside0.mk (blk_drew BK191.out)
    have n3_ := Aside0.mk (blk_drew BK192.out)
    have n4_ := Aside0.mk (Kd.C_drew HR202.out)
    have n5_ := Aside0.mk (Kd.C_drew HR206.out)
    have n6_ := Aside0.mk (below_drew1 HB.out)
    clear HO195
    clear HO198
    clear BK191
    clear BK192
    clear HR202
    clear HR206
    clear HB
    have HO195 := n0_
    have HO198 := n1_
    have BK191 := n2_
    have BK192 := n3_
    have HR202 := n4_
    have HR206 := n5_
    have HB := n6_
    clear n0_ n1_ n2_ n3_ n4_ n5_ n6_
    have p208 : 0 ≤ ((ji6) : Int) := ode
    have q208 : (ji6) < (t193.length : Int) := ode
    obtain ⟨ad208, e208, hx208_0⟩ := Kd.at_int (Kd.R_reads' HO195.out).2.2 (ji6) p208 q208
    cases e208
    replace p208 := eq_true p208
    replace q208 := eq_true q208
    have p209 : 0 ≤ ((ji6) : Int) := ode
    have q209 : (ji6) < (t196.length : Int) := ode
    obtain ⟨ad209, e209, hx209_0⟩ := Kd.at_int (Kd.R_reads' HO198.out).2.2 (ji6) p209 q209
    cases e209
    replace p209 := eq_true p209
    replace q209 := eq_true q209
    have p210 : 0 ≤ ((ji6) : Int) := ode
    have q210 : (ji6) < (t193.length : Int) := ode
    obtain ⟨ad210, e210, hx210_0⟩ := Kd.at_int (Kd.R_reads' HO195.out).2.2 (ji6) p210 q210
    obtain rfl : ad208 = ad210 := (by injection e210)
    replace p210 := eq_true p210
    replace q210 := eq_true q210
    refine start_ (n := 20) (S := fun w' => w'.cell? (ad208.add ((ji6)).toNat) = some (.int .i64 (rd t193 (ji6))) ∧ w'.cell? (ad209.add ((ji6)).toNat) = some (.int .i64 (rd t196 (ji6))) ∧ w'.cell? (ad208.add ((ji6)).toNat) = some (.int .i64 (rd t193 (ji6)))) (ds := []) (bA 20 0) (by kernel_rfl) rfl (by kernel_rfl) ⟨hx208_0, hx209_0, hx210_0⟩ (fun hHeld => ?_); refine with_tabW spec_l09Pair.tab4 spec_l09Pair.bits4 (fun HT_ HW_ => ?_)
    generalize w21.drew = w26 at HO195 HO198 BK191 BK192 HR202 HR206 HB hx208_0 hx209_0 hx210_0 hHeld ⊢
    refine pu HT_ 0 27 1 ?_
    refine pu HT_ 1 28 3 ?_
    refine pu HT_ 2 29 7 ?_
    refine pu HT_ 3 30 15 ?_
    refine pu HT_ 5 32 47 ?_
    refine pu HT_ 6 33 111 ?_
    refine pu HT_ 7 34 239 ?_
    refine pu HT_ 8 35 495 ?_
    refine tk3 HT_ HW_ hHeld 4 31 511 ?_
    refine tk3 HT_ HW_ hHeld 9 36 1023 ?_
    refine pu HT_ 10 37 2047 ?_
    refine pu HT_ 11 38 4095 ?_
    refine pu HT_ 12 39 8191 ?_
    refine pu HT_ 13 40 16383 ?_
    refine pu HT_ 14 41 32767 ?_
    refine pu HT_ 15 42 65535 ?_
    refine tk3 HT_ HW_ hHeld 16 43 131071 ?_
    refine pu HT_ 17 44 262143 ?_
    refine pu HT_ 18 45 524287 ?_
    refine pu HT_ 19 6 1048575 ?_
    refine done_ (done_of HT_.out (by kernel_rfl)) ?_
    try go_wp2
    go_ret
    exact ⟨by first | rfl | (simp [errW_none, errW_some] <;> rfl) | (simp only [← hji6]; first | rfl | (simp [errW_none, errW_some] <;> rfl)) | (simp [*, errW_none, errW_some] <;> rfl), bq⟩
   ·rw [if_neg c15] at H
    have c15b0 : ((rd t193 (ji6)) == (rd t196 (ji6))) = false := beq_eq_false_iff_ne.mpr c15
    have c15b1 : ((rd t193 (ji6)) != (rd t196 (ji6))) = true := bne_iff_ne.mpr c15
    obtain rfl := Option.some.inj H
    go_enter Tryd.func45, Tryd.ntmps45
    try go_wp2_with (first | ((with_reducible refine gate_dst (N := 3) rfl ?_); refine box_event ?hg (N := 3) ?hd (cs := #[.slice A0_0 l0_0.length c0_0]) (t := 74) ?hr ?_; (case hd => rfl); (case hg => rfl); (case hr => first | (go_simp; done) | (go_simp; rfl)); intro gb191 hg w27 hbox hb; have BK191 := Aside0.mk (hbox); have GW191 := Aside0.mk ((by rw [hg]; exact (below_size bq) : w.heap.size ≤ gb191)); have GE191 := Aside0.mk ((by rw [hg]; exact (below_size bq) : w.heap.size ≤ gb191)); replace HB := Aside0.mk (below_step bq hb); clear hb hbox hg) | ((with_reducible refine gate_dst (N := 4) rfl ?_); refine box_event ?hg (N := 4) ?hd (cs := #[.slice A1_0 l1_0.length c1_0]) (t := 74) ?hr ?_; (case hd => rfl); (case hg => rfl); (case hr => first | (go_simp; done) | (go_simp; rfl)); intro gb192 hg w28 hbox hb; have BK192 := Aside0.mk (hbox); have GW192 := Aside0.mk ((by rw [hg]; exact (below_size bq) : w.heap.size ≤ gb192)); have GE192 := Aside0.mk ((by rw [hg]; exact (below_size bq) : w.heap.size ≤ gb192)); replace HB := Aside0.mk (below_step bq hb); have NB191_192 := Aside0.mk ((by rw [hg]; exact Nat.ne_of_lt (blk_lt (g := gb191) (o := .cells #[.slice A0_0 l0_0.length c0_0] 74 (0, 0)) (bk BK191)) : gb191 ≠ gb192)); have NB192_191 := Aside0.mk ((by rw [hg]; exact Nat.ne_of_gt (blk_lt (g := gb191) (o := .cells #[.slice A0_0 l0_0.length c0_0] 74 (0, 0)) (bk BK191)) : gb192 ≠ gb191)); replace BK191 := Aside0.mk (blk_below (g := gb191) (o := .cells #[.slice A0_0 l0_0.length c0_0] 74 (0, 0)) (bk BK191) hb); clear hb hbox hg))
    have n0_ := Aside0.mk (blk_drew BK191.out)
    have n1_ := Aside0.mk (blk_drew BK192.out)
    have n2_ := Aside0.mk (below_drew1 HB.out)
    clear BK191
    clear BK192
    clear HB
    have BK191 := n0_
    have BK192 := n1_
    have HB := n2_
    clear n0_ n1_ n2_
    refine start_ (n := 10) (S := fun w' => w'.cell? ⟨gb191, 0, none⟩ = some (.slice A0_0 l0_0.length c0_0) ∧ w'.cell? ⟨gb192, 0, none⟩ = some (.slice A1_0 l1_0.length c1_0)) (ds := []) (bA 10 0) (by kernel_rfl) rfl (by kernel_rfl) ⟨(blk_cell BK191.out 0).trans rfl, (blk_cell BK192.out 0).trans rfl⟩ (fun hHeld => ?_); refine with_tabW spec_l09Pair.tab1 spec_l09Pair.bits1 (fun HT_ HW_ => ?_)
    generalize w28.drew = w29 at BK191 BK192 HB hHeld ⊢
    refine pu HT_ 1 10 2 ?_
    refine pu HT_ 2 11 6 ?_
    refine pu HT_ 5 14 38 ?_
    refine pu HT_ 6 15 102 ?_
    refine tk2 HT_ HW_ hHeld 0 9 103 ?_
    refine tk2 HT_ HW_ hHeld 4 13 119 ?_
    refine one_ (i := 3) (N := some 12) (bA 10 127) rfl rfl (one_of HT_.out (by kernel_rfl)) (by decide) (fun K hK => ?_)
    refine goes_ Tryd.func78 (by kernel_rfl) rfl #[.agg #[.slice A0_0 l0_0.length c0_0], .int .i64 (wrap64 (a2 + 1))] (by rfl) rfl rfl (by (try simp only [List.map_toArray, List.map_cons, List.map_nil]); first | done | rfl | (simp only [List.length_drop, List.length_take]; rfl)) ?_
    with_reducible refine (spec_l06Code.calls k _ _ l0_0 (wrap64 (a2 + 1)) t193 _ ?side1 ?side2 A4.out).mono ?_
    (case side1 => exact kc HR0_0)
    (case side2 => exact HC0_0.out)
    rintro e w30 ⟨v194, rfl, ho0, hb⟩
    refine ⟨_, rfl, ?_⟩
    have n0_ := Aside0.mk (Kd.R_lower ho0 (below_size bq))
    have n1_ := Aside0.mk (blk_below (g := gb191) (o := .cells #[.slice A0_0 l0_0.length c0_0] 74 (0, 0)) (bk BK191) hb)
    have n2_ := Aside0.mk (blk_below (g := gb192) (o := .cells #[.slice A1_0 l1_0.length c1_0] 74 (0, 0)) (bk BK192) hb)
    have n3_ := Aside0.mk (below_step bq hb)
    clear BK191
    clear BK192
    clear HB
    have HO195 := n0_
    have BK191 := n1_
    have BK192 := n2_
    have HB := n3_
    clear n0_ n1_ n2_ n3_
    
    
    
    
    (try clear ho0)
    refine hK.out _ _ ⟨(blk_cell BK191.out 0).trans rfl, (blk_cell BK192.out 0).trans rfl⟩ (fun hHeld => ?_)
    clear hK K
    refine norm_ (a' := ?_) ?_ ?_
    rotate_left
    ·show Act.put _ (some 12) _ = _
     simp only [Act.put, List.setIfInBounds_toArray, List.set_cons_zero, List.set_cons_succ, i64_w, i32_w]
     rfl
    refine one_ (i := 7) (N := some 16) (bA 10 255) rfl rfl (one_of HT_.out (by kernel_rfl)) (by decide) (fun K hK => ?_)
    refine goes_ Tryd.func78 (by kernel_rfl) rfl #[.agg #[.slice A1_0 l1_0.length c1_0], .int .i64 (wrap64 (a2 + 1))] (by rfl) rfl rfl (by (try simp only [List.map_toArray, List.map_cons, List.map_nil]); first | done | rfl | (simp only [List.length_drop, List.length_take]; rfl)) ?_
    with_reducible refine (spec_l06Code.calls k _ _ l1_0 (wrap64 (a2 + 1)) t196 _ ?side1 ?side2 A5.out).mono ?_
    (case side1 => exact kc HR1_0)
    (case side2 => exact HC1_0.out)
    rintro e w31 ⟨v197, rfl, ho0, hb⟩
    refine ⟨_, rfl, ?_⟩
    have n0_ := Aside0.mk (Kd.R_elder' (by (with_reducible repeat (first | apply Kd.R_alloc | apply Kd.R_drewN | apply Kd.R_drew)); exact HO195.out) (Kd.R_base ho0) hb)
    have n1_ := Aside0.mk (Kd.R_lower (Kd.R_new' ho0 (Kd.R_lt (by (with_reducible repeat (first | apply Kd.R_alloc | apply Kd.R_drewN | apply Kd.R_drew)); exact HO195.out))) (below_size bq))
    have n2_ := Aside0.mk (blk_below (g := gb191) (o := .cells #[.slice A0_0 l0_0.length c0_0] 74 (0, 0)) (bk BK191) hb)
    have n3_ := Aside0.mk (blk_below (g := gb192) (o := .cells #[.slice A1_0 l1_0.length c1_0] 74 (0, 0)) (bk BK192) hb)
    have n4_ := Aside0.mk (below_step bq hb)
    clear HO195
    clear BK191
    clear BK192
    clear HB
    have HO195 := n0_
    have HO198 := n1_
    have BK191 := n2_
    have BK192 := n3_
    have HB := n4_
    clear n0_ n1_ n2_ n3_ n4_
    
    
    
    
    (try clear ho0)
    refine hK.out _ _ ⟨(blk_cell BK191.out 0).trans rfl, (blk_cell BK192.out 0).trans rfl⟩ (fun hHeld => ?_)
    clear hK K
    refine norm_ (a' := ?_) ?_ ?_
    rotate_left
    ·show Act.put _ (some 16) _ = _
     simp only [Act.put, List.setIfInBounds_toArray, List.set_cons_zero, List.set_cons_succ, i64_w, i32_w]
     rfl
    refine pu HT_ 8 7 511 ?_
    refine pu HT_ 9 8 1023 ?_
    refine done_ (done_of HT_.out (by kernel_rfl)) ?_
    try go_wp2
    have n0_ := Aside0.mk (Kd.R_drew HO195.out)
    have n1_ := Aside0.mk (Kd.R_drew HO198.out)
    have n2_ := Aside0.mk (blk_drew BK191.out)
    have n3_ := Aside0.mk (blk_drew BK192.out)
    have n4_ := Aside0.mk (below_drew1 HB.out)
    clear HO195
    clear HO198
    clear BK191
    clear BK192
    clear HB
    have HO195 := n0_
    have HO198 := n1_
    have BK191 := n2_
    have BK192 := n3_
    have HB := n4_
    clear n0_ n1_ n2_ n3_ n4_
    obtain ⟨Ao34, co34, eo34⟩ := Kd.R_slice HO195.out
    (first | subst eo34 | (injection eo34 with f1_ f2_ f3_; have f4_ := f1_.symm; have f5_ := f3_.symm; clear f1_ f2_ f3_; subst f4_; subst f5_))
    have q33 : ((ji6) : Int) ≤ ((t193.length : Int) : Int) := ode
    obtain ⟨i033, hi033, _, hsz33, _⟩ := info_parts info2
    have hroom33 : t193.length ≤ co34 := (Kd.R_reads' HO195.out).2.1
    have hC33 : Kd.C (Kd.int .i64) _ Ao34 t193.length t193 := (Kd.R_reads' HO195.out).2.2
    have hcut33 := cut_to (P := Tryd.prog) 35 2 .i64 Tryd.underlying35 hi033 Ao34 t193.length co34 (ji6) (ode) q33 hroom33
    have hr33 := Kd.C_take (m := ((ji6) : Int).toNat) hC33 (by omega)
    have hy33 : y199.length = ((ji6) : Int).toNat := (by rw [Ny199.out, List.length_take]; omega)
    rw [← Ny199.out] at hr33
    rw [← hy33] at hcut33
    have HR202 := Aside0.mk hr33
    have HC202 := Aside0.mk (show y199.length ≤ co34 from by omega)
    clear hr33 hC33 hroom33 hi033 hsz33
    have KY33 := Aside0.mk hy33
    clear hy33
    have KL33 := Aside0.mk (show ((ji6) : Int).toNat ≤ t193.length from by omega)
    replace q33 := eq_true q33
    obtain ⟨Ao36, co36, eo36⟩ := Kd.R_slice HO198.out
    (first | subst eo36 | (injection eo36 with f1_ f2_ f3_; have f4_ := f1_.symm; have f5_ := f3_.symm; clear f1_ f2_ f3_; subst f4_; subst f5_))
    have q35 : ((ji6) : Int) ≤ ((t196.length : Int) : Int) := ode
    obtain ⟨i035, hi035, _, hsz35, _⟩ := info_parts info2
    have hroom35 : t196.length ≤ co36 := (Kd.R_reads' HO198.out).2.1
    have hC35 : Kd.C (Kd.int .i64) _ Ao36 t196.length t196 := (Kd.R_reads' HO198.out).2.2
    have hcut35 := cut_to (P := Tryd.prog) 35 2 .i64 Tryd.underlying35 hi035 Ao36 t196.length co36 (ji6) (ode) q35 hroom35
    have hr35 := Kd.C_take (m := ((ji6) : Int).toNat) hC35 (by omega)
    have hy35 : y203.length = ((ji6) : Int).toNat := (by rw [Ny203.out, List.length_take]; omega)
    rw [← Ny203.out] at hr35
    rw [← hy35] at hcut35
    have HR206 := Aside0.mk hr35
    have HC206 := Aside0.mk (show y203.length ≤ co36 from by omega)
    clear hr35 hC35 hroom35 hi035 hsz35
    have KY35 := Aside0.mk hy35
    clear hy35
    have KL35 := Aside0.mk (show ((ji6) : Int).toNat ≤ t196.length from by omega)
    replace q35 := eq_true q35
    refine start_ (n := 10) (S := fun w' => True) (ds := []) (bA 10 0) (by kernel_rfl) rfl (by kernel_rfl) trivial (fun hHeld => ?_); refine with_tabW spec_l09Pair.tab2 spec_l09Pair.bits2 (fun HT_ HW_ => ?_)
    generalize w31.drew = w32 at HO195 HO198 BK191 BK192 HB HR202 HR206 hHeld ⊢
    refine pu HT_ 0 17 1 ?_
    refine pu HT_ 1 18 3 ?_
    refine pu HT_ 2 19 7 ?_
    refine pu HT_ 3 20 15 ?_
    refine pu HT_ 4 21 31 ?_
    refine pu HT_ 5 22 63 ?_
    refine pu HT_ 6 23 127 ?_
    refine pu HT_ 7 24 255 ?_
    refine one_ (i := 8) (N := some 25) (bA 10 511) rfl rfl (one_of HT_.out (by kernel_rfl)) (by decide) (fun K hK => ?_)
    refine goes_ Tryd.func79 (by kernel_rfl) rfl #[.slice Ao34 y199.length co34, .slice Ao36 y203.length co36] (by rfl) rfl rfl (by (try simp only [List.map_toArray, List.map_cons, List.map_nil]); first | done | rfl | (simp only [List.length_drop, List.length_take]; rfl)) ?_
    with_reducible refine (spec_l01Same.calls k _ _ y199 _ _ y203 true _ ?side1 ?side2 ?side3 ?side4 A11.out).mono ?_
    (case side1 => repeat (first | exact (by repeat (first | (with_reducible exact HR202.out) | (with_reducible refine Kd.C_alloc ?_ _) | (with_reducible refine Kd.C_drewN ?_ _) | (with_reducible refine Kd.C_drew ?_) | exact HR202.out)) | (with_reducible refine Kd.C_alloc ?_ _) | (with_reducible refine Kd.C_drewN ?_ _) | (with_reducible refine Kd.C_drew ?_)))
    (case side2 => exact HC202.out)
    (case side3 => repeat (first | exact (by repeat (first | (with_reducible exact HR206.out) | (with_reducible refine Kd.C_alloc ?_ _) | (with_reducible refine Kd.C_drewN ?_ _) | (with_reducible refine Kd.C_drew ?_) | exact HR206.out)) | (with_reducible refine Kd.C_alloc ?_ _) | (with_reducible refine Kd.C_drewN ?_ _) | (with_reducible refine Kd.C_drew ?_)))
    (case side4 => exact HC206.out)
    rintro e w' ⟨rfl, ⟨nd, rfl⟩⟩
    refine ⟨_, rfl, ?_⟩
    refine hK.out _ _ trivial (fun hHeld => ?_)
    clear hK K
    refine norm_ (a' := ?_) ?_ ?_
    rotate_left
    ·show Act.put _ (some 25) _ = _
     simp only [Act.put, List.setIfInBounds_toArray, List.set_cons_zero, List.set_cons_succ, i64_w, i32_w]
     rfl
    refine pu HT_ 9 26 1023 ?_
    refine done_ (done_of HT_.out (by kernel_rfl)) ?_
    try go_wp2
    (try (rw [drewN_self w32]; generalize hq_ : World.drewN w32 _ = w32; have n0_ : Aside0 (Kd.R (Kd.int .i64) 2 w32 w.heap.size (fun k_ => some k_ ≠ (.slice Ao36 t196.length co36 : Value).ownBlock) (.slice Ao34 t193.length co34) t193) := ⟨by rw [← hq_]; exact (by (with_reducible repeat (first | apply Kd.R_alloc | apply Kd.R_drewN | apply Kd.R_drew)); exact Kd.R_mono HO195.out (fun _ hk => hk.2))⟩; have n1_ : Aside0 (Kd.R (Kd.int .i64) 2 w32 w.heap.size (fun k_ => some k_ ≠ (.slice Ao34 t193.length co34 : Value).ownBlock) (.slice Ao36 t196.length co36) t196) := ⟨by rw [← hq_]; exact (by (with_reducible repeat (first | apply Kd.R_alloc | apply Kd.R_drewN | apply Kd.R_drew)); exact Kd.R_mono HO198.out (fun _ hk => hk.2))⟩; have n2_ : Aside0 (w32.heap[gb191]? = some (.cells #[.slice A0_0 l0_0.length c0_0] 74 (0, 0))) := ⟨by rw [← hq_]; exact (bk BK191)⟩; have n3_ : Aside0 (w32.heap[gb192]? = some (.cells #[.slice A1_0 l1_0.length c1_0] 74 (0, 0))) := ⟨by rw [← hq_]; exact (bk BK192)⟩; have n4_ : Aside0 (Below w.heap.size w w32) := ⟨by rw [← hq_]; exact bq⟩; have n5_ : Aside0 (Kd.C (Kd.int .i64) w32 Ao34 y199.length y199) := ⟨by rw [← hq_]; exact (by repeat (first | (with_reducible exact HR202.out) | (with_reducible refine Kd.C_alloc ?_ _) | (with_reducible refine Kd.C_drewN ?_ _) | (with_reducible refine Kd.C_drew ?_) | exact HR202.out))⟩; have n6_ : Aside0 (Kd.C (Kd.int .i64) w32 Ao36 y203.length y203) := ⟨by rw [← hq_]; exact (by repeat (first | (with_reducible exact HR206.out) | (with_reducible refine Kd.C_alloc ?_ _) | (with_reducible refine Kd.C_drewN ?_ _) | (with_reducible refine Kd.C_drew ?_) | exact HR206.out))⟩; clear HO195 HO198 BK191 BK192 HB HR202 HR206 hq_; have HO195 := n0_; have HO198 := n1_; have BK191 := n2_; have BK192 := n3_; have HB := n4_; have HR202 := n5_; have HR206 := n6_; clear n0_ n1_ n2_ n3_ n4_ n5_ n6_))
    have n0_ := Aside0.mk (Kd.R_drew HO195.out)
    have n1_ := Aside0.mk (Kd.R_drew HO198.out)
    have n2_ := Aside0.mk (blk_drew BK191.out)
    have n3_ := Aside0.mk (blk_drew BK192.out)
    have n4_ := Aside0.mk (Kd.C_drew HR202.out)
    have n5_ := Aside0.mk (Kd.C_drew HR206.out)
    have n6_ := Aside0.mk (below_drew1 HB.out)
    clear HO195
    clear HO198
    clear BK191
    clear BK192
    clear HR202
    clear HR206
    clear HB
    have HO195 := n0_
    have HO198 := n1_
    have BK191 := n2_
    have BK192 := n3_
    have HR202 := n4_
    have HR206 := n5_
    have HB := n6_
    clear n0_ n1_ n2_ n3_ n4_ n5_ n6_
    have p208 : 0 ≤ ((ji6) : Int) := ode
    have q208 : (ji6) < (t193.length : Int) := ode
    obtain ⟨ad208, e208, hx208_0⟩ := Kd.at_int (Kd.R_reads' HO195.out).2.2 (ji6) p208 q208
    cases e208
    replace p208 := eq_true p208
    replace q208 := eq_true q208
    have p209 : 0 ≤ ((ji6) : Int) := ode
    have q209 : (ji6) < (t196.length : Int) := ode
    obtain ⟨ad209, e209, hx209_0⟩ := Kd.at_int (Kd.R_reads' HO198.out).2.2 (ji6) p209 q209
    cases e209
    replace p209 := eq_true p209
    replace q209 := eq_true q209
    refine start_ (n := 20) (S := fun w' => w'.cell? (ad208.add ((ji6)).toNat) = some (.int .i64 (rd t193 (ji6))) ∧ w'.cell? (ad209.add ((ji6)).toNat) = some (.int .i64 (rd t196 (ji6)))) (ds := []) (bA 20 0) (by kernel_rfl) rfl (by kernel_rfl) ⟨hx208_0, hx209_0⟩ (fun hHeld => ?_); refine with_tabW spec_l09Pair.tab4 spec_l09Pair.bits4 (fun HT_ HW_ => ?_)
    generalize w32.drew = w37 at HO195 HO198 BK191 BK192 HR202 HR206 HB hx208_0 hx209_0 hHeld ⊢
    refine pu HT_ 0 27 1 ?_
    refine pu HT_ 1 28 3 ?_
    refine pu HT_ 2 29 7 ?_
    refine pu HT_ 3 30 15 ?_
    refine pu HT_ 5 32 47 ?_
    refine pu HT_ 6 33 111 ?_
    refine pu HT_ 7 34 239 ?_
    refine pu HT_ 8 35 495 ?_
    refine tk2 HT_ HW_ hHeld 4 31 511 ?_
    refine tk2 HT_ HW_ hHeld 9 36 1023 ?_
    refine pu HT_ 10 37 2047 ?_
    refine pu HT_ 11 38 4095 ?_
    refine un HT_ 12 39 8191 ?_
    refine un HT_ 13 40 16383 ?_
    refine un HT_ 14 41 32767 ?_
    refine un HT_ 15 42 65535 ?_
    refine un HT_ 16 43 131071 ?_
    refine un HT_ 17 44 262143 ?_
    refine pu HT_ 18 45 524287 ?_
    refine pu HT_ 19 6 1048575 ?_
    refine done_ (done_of HT_.out (by kernel_rfl)) ?_
    try go_wp2
    go_ret
    exact ⟨by first | rfl | (simp [errW_none, errW_some] <;> rfl) | (simp only [← hji6]; first | rfl | (simp [errW_none, errW_some] <;> rfl)) | (simp [*, errW_none, errW_some] <;> rfl), bq⟩
  ·replace c12 := Bool.eq_false_iff.mpr c12
   subst c12
   have H1 : (some false) = some r := by rw [if_neg (show ¬ (false = true) by decide)] at H; exact H
   clear H
   have H := H1
   clear H1
   obtain rfl := Option.some.inj H
   go_enter Tryd.func45, Tryd.ntmps45
   try go_wp2_with (first | ((with_reducible refine gate_dst (N := 3) rfl ?_); refine box_event ?hg (N := 3) ?hd (cs := #[.slice A0_0 l0_0.length c0_0]) (t := 74) ?hr ?_; (case hd => rfl); (case hg => rfl); (case hr => first | (go_simp; done) | (go_simp; rfl)); intro gb191 hg w38 hbox hb; have BK191 := Aside0.mk (hbox); have GW191 := Aside0.mk ((by rw [hg]; exact (below_size bq) : w.heap.size ≤ gb191)); have GE191 := Aside0.mk ((by rw [hg]; exact (below_size bq) : w.heap.size ≤ gb191)); replace HB := Aside0.mk (below_step bq hb); clear hb hbox hg) | ((with_reducible refine gate_dst (N := 4) rfl ?_); refine box_event ?hg (N := 4) ?hd (cs := #[.slice A1_0 l1_0.length c1_0]) (t := 74) ?hr ?_; (case hd => rfl); (case hg => rfl); (case hr => first | (go_simp; done) | (go_simp; rfl)); intro gb192 hg w39 hbox hb; have BK192 := Aside0.mk (hbox); have GW192 := Aside0.mk ((by rw [hg]; exact (below_size bq) : w.heap.size ≤ gb192)); have GE192 := Aside0.mk ((by rw [hg]; exact (below_size bq) : w.heap.size ≤ gb192)); replace HB := Aside0.mk (below_step bq hb); have NB191_192 := Aside0.mk ((by rw [hg]; exact Nat.ne_of_lt (blk_lt (g := gb191) (o := .cells #[.slice A0_0 l0_0.length c0_0] 74 (0, 0)) (bk BK191)) : gb191 ≠ gb192)); have NB192_191 := Aside0.mk ((by rw [hg]; exact Nat.ne_of_gt (blk_lt (g := gb191) (o := .cells #[.slice A0_0 l0_0.length c0_0] 74 (0, 0)) (bk BK191)) : gb192 ≠ gb191)); replace BK191 := Aside0.mk (blk_below (g := gb191) (o := .cells #[.slice A0_0 l0_0.length c0_0] 74 (0, 0)) (bk BK191) hb); clear hb hbox hg))
   have n0_ := Aside0.mk (blk_drew BK191.out)
   have n1_ := Aside0.mk (blk_drew BK192.out)
   have n2_ := Aside0.mk (below_drew1 HB.out)
   clear BK191
   clear BK192
   clear HB
   have BK191 := n0_
   have BK192 := n1_
   have HB := n2_
   clear n0_ n1_ n2_
   refine start_ (n := 10) (S := fun w' => w'.cell? ⟨gb191, 0, none⟩ = some (.slice A0_0 l0_0.length c0_0) ∧ w'.cell? ⟨gb192, 0, none⟩ = some (.slice A1_0 l1_0.length c1_0)) (ds := []) (bA 10 0) (by kernel_rfl) rfl (by kernel_rfl) ⟨(blk_cell BK191.out 0).trans rfl, (blk_cell BK192.out 0).trans rfl⟩ (fun hHeld => ?_); refine with_tabW spec_l09Pair.tab1 spec_l09Pair.bits1 (fun HT_ HW_ => ?_)
   generalize w39.drew = w40 at BK191 BK192 HB hHeld ⊢
   refine pu HT_ 1 10 2 ?_
   refine pu HT_ 2 11 6 ?_
   refine pu HT_ 5 14 38 ?_
   refine pu HT_ 6 15 102 ?_
   refine tk2 HT_ HW_ hHeld 0 9 103 ?_
   refine tk2 HT_ HW_ hHeld 4 13 119 ?_
   refine one_ (i := 3) (N := some 12) (bA 10 127) rfl rfl (one_of HT_.out (by kernel_rfl)) (by decide) (fun K hK => ?_)
   refine goes_ Tryd.func78 (by kernel_rfl) rfl #[.agg #[.slice A0_0 l0_0.length c0_0], .int .i64 (wrap64 (a2 + 1))] (by rfl) rfl rfl (by (try simp only [List.map_toArray, List.map_cons, List.map_nil]); first | done | rfl | (simp only [List.length_drop, List.length_take]; rfl)) ?_
   with_reducible refine (spec_l06Code.calls k _ _ l0_0 (wrap64 (a2 + 1)) t193 _ ?side1 ?side2 A4.out).mono ?_
   (case side1 => exact kc HR0_0)
   (case side2 => exact HC0_0.out)
   rintro e w41 ⟨v194, rfl, ho0, hb⟩
   refine ⟨_, rfl, ?_⟩
   have n0_ := Aside0.mk (Kd.R_lower ho0 (below_size bq))
   have n1_ := Aside0.mk (blk_below (g := gb191) (o := .cells #[.slice A0_0 l0_0.length c0_0] 74 (0, 0)) (bk BK191) hb)
   have n2_ := Aside0.mk (blk_below (g := gb192) (o := .cells #[.slice A1_0 l1_0.length c1_0] 74 (0, 0)) (bk BK192) hb)
   have n3_ := Aside0.mk (below_step bq hb)
   clear BK191
   clear BK192
   clear HB
   have HO195 := n0_
   have BK191 := n1_
   have BK192 := n2_
   have HB := n3_
   clear n0_ n1_ n2_ n3_
   
   
   
   
   (try clear ho0)
   refine hK.out _ _ ⟨(blk_cell BK191.out 0).trans rfl, (blk_cell BK192.out 0).trans rfl⟩ (fun hHeld => ?_)
   clear hK K
   refine norm_ (a' := ?_) ?_ ?_
   rotate_left
   ·show Act.put _ (some 12) _ = _
    simp only [Act.put, List.setIfInBounds_toArray, List.set_cons_zero, List.set_cons_succ, i64_w, i32_w]
    rfl
   refine one_ (i := 7) (N := some 16) (bA 10 255) rfl rfl (one_of HT_.out (by kernel_rfl)) (by decide) (fun K hK => ?_)
   refine goes_ Tryd.func78 (by kernel_rfl) rfl #[.agg #[.slice A1_0 l1_0.length c1_0], .int .i64 (wrap64 (a2 + 1))] (by rfl) rfl rfl (by (try simp only [List.map_toArray, List.map_cons, List.map_nil]); first | done | rfl | (simp only [List.length_drop, List.length_take]; rfl)) ?_
   with_reducible refine (spec_l06Code.calls k _ _ l1_0 (wrap64 (a2 + 1)) t196 _ ?side1 ?side2 A5.out).mono ?_
   (case side1 => exact kc HR1_0)
   (case side2 => exact HC1_0.out)
   rintro e w42 ⟨v197, rfl, ho0, hb⟩
   refine ⟨_, rfl, ?_⟩
   have n0_ := Aside0.mk (Kd.R_elder' (by (with_reducible repeat (first | apply Kd.R_alloc | apply Kd.R_drewN | apply Kd.R_drew)); exact HO195.out) (Kd.R_base ho0) hb)
   have n1_ := Aside0.mk (Kd.R_lower (Kd.R_new' ho0 (Kd.R_lt (by (with_reducible repeat (first | apply Kd.R_alloc | apply Kd.R_drewN | apply Kd.R_drew)); exact HO195.out))) (below_size bq))
   have n2_ := Aside0.mk (blk_below (g := gb191) (o := .cells #[.slice A0_0 l0_0.length c0_0] 74 (0, 0)) (bk BK191) hb)
   have n3_ := Aside0.mk (blk_below (g := gb192) (o := .cells #[.slice A1_0 l1_0.length c1_0] 74 (0, 0)) (bk BK192) hb)
   have n4_ := Aside0.mk (below_step bq hb)
   clear HO195
   clear BK191
   clear BK192
   clear HB
   have HO195 := n0_
   have HO198 := n1_
   have BK191 := n2_
   have BK192 := n3_
   have HB := n4_
   clear n0_ n1_ n2_ n3_ n4_
   
   
   
   
   (try clear ho0)
   refine hK.out _ _ ⟨(blk_cell BK191.out 0).trans rfl, (blk_cell BK192.out 0).trans rfl⟩ (fun hHeld => ?_)
   clear hK K
   refine norm_ (a' := ?_) ?_ ?_
   rotate_left
   ·show Act.put _ (some 16) _ = _
    simp only [Act.put, List.setIfInBounds_toArray, List.set_cons_zero, List.set_cons_succ, i64_w, i32_w]
    rfl
   refine pu HT_ 8 7 511 ?_
   refine pu HT_ 9 8 1023 ?_
   refine done_ (done_of HT_.out (by kernel_rfl)) ?_
   try go_wp2
   have n0_ := Aside0.mk (Kd.R_drew HO195.out)
   have n1_ := Aside0.mk (Kd.R_drew HO198.out)
   have n2_ := Aside0.mk (blk_drew BK191.out)
   have n3_ := Aside0.mk (blk_drew BK192.out)
   have n4_ := Aside0.mk (below_drew1 HB.out)
   clear HO195
   clear HO198
   clear BK191
   clear BK192
   clear HB
   have HO195 := n0_
   have HO198 := n1_
   have BK191 := n2_
   have BK192 := n3_
   have HB := n4_
   clear n0_ n1_ n2_ n3_ n4_
   obtain ⟨Ao45, co45, eo45⟩ := Kd.R_slice HO195.out
   (first | subst eo45 | (injection eo45 with f1_ f2_ f3_; have f4_ := f1_.symm; have f5_ := f3_.symm; clear f1_ f2_ f3_; subst f4_; subst f5_))
   have q44 : ((ji6) : Int) ≤ ((t193.length : Int) : Int) := ode
   obtain ⟨i044, hi044, _, hsz44, _⟩ := info_parts info2
   have hroom44 : t193.length ≤ co45 := (Kd.R_reads' HO195.out).2.1
   have hC44 : Kd.C (Kd.int .i64) _ Ao45 t193.length t193 := (Kd.R_reads' HO195.out).2.2
   have hcut44 := cut_to (P := Tryd.prog) 35 2 .i64 Tryd.underlying35 hi044 Ao45 t193.length co45 (ji6) (ode) q44 hroom44
   have hr44 := Kd.C_take (m := ((ji6) : Int).toNat) hC44 (by omega)
   have hy44 : y199.length = ((ji6) : Int).toNat := (by rw [Ny199.out, List.length_take]; omega)
   rw [← Ny199.out] at hr44
   rw [← hy44] at hcut44
   have HR202 := Aside0.mk hr44
   have HC202 := Aside0.mk (show y199.length ≤ co45 from by omega)
   clear hr44 hC44 hroom44 hi044 hsz44
   have KY44 := Aside0.mk hy44
   clear hy44
   have KL44 := Aside0.mk (show ((ji6) : Int).toNat ≤ t193.length from by omega)
   replace q44 := eq_true q44
   obtain ⟨Ao47, co47, eo47⟩ := Kd.R_slice HO198.out
   (first | subst eo47 | (injection eo47 with f1_ f2_ f3_; have f4_ := f1_.symm; have f5_ := f3_.symm; clear f1_ f2_ f3_; subst f4_; subst f5_))
   have q46 : ((ji6) : Int) ≤ ((t196.length : Int) : Int) := ode
   obtain ⟨i046, hi046, _, hsz46, _⟩ := info_parts info2
   have hroom46 : t196.length ≤ co47 := (Kd.R_reads' HO198.out).2.1
   have hC46 : Kd.C (Kd.int .i64) _ Ao47 t196.length t196 := (Kd.R_reads' HO198.out).2.2
   have hcut46 := cut_to (P := Tryd.prog) 35 2 .i64 Tryd.underlying35 hi046 Ao47 t196.length co47 (ji6) (ode) q46 hroom46
   have hr46 := Kd.C_take (m := ((ji6) : Int).toNat) hC46 (by omega)
   have hy46 : y203.length = ((ji6) : Int).toNat := (by rw [Ny203.out, List.length_take]; omega)
   rw [← Ny203.out] at hr46
   rw [← hy46] at hcut46
   have HR206 := Aside0.mk hr46
   have HC206 := Aside0.mk (show y203.length ≤ co47 from by omega)
   clear hr46 hC46 hroom46 hi046 hsz46
   have KY46 := Aside0.mk hy46
   clear hy46
   have KL46 := Aside0.mk (show ((ji6) : Int).toNat ≤ t196.length from by omega)
   replace q46 := eq_true q46
   refine start_ (n := 10) (S := fun w' => True) (ds := []) (bA 10 0) (by kernel_rfl) rfl (by kernel_rfl) trivial (fun hHeld => ?_); refine with_tabW spec_l09Pair.tab2 spec_l09Pair.bits2 (fun HT_ HW_ => ?_)
   generalize w42.drew = w43 at HO195 HO198 BK191 BK192 HB HR202 HR206 hHeld ⊢
   refine pu HT_ 0 17 1 ?_
   refine pu HT_ 1 18 3 ?_
   refine pu HT_ 2 19 7 ?_
   refine pu HT_ 3 20 15 ?_
   refine pu HT_ 4 21 31 ?_
   refine pu HT_ 5 22 63 ?_
   refine pu HT_ 6 23 127 ?_
   refine pu HT_ 7 24 255 ?_
   refine one_ (i := 8) (N := some 25) (bA 10 511) rfl rfl (one_of HT_.out (by kernel_rfl)) (by decide) (fun K hK => ?_)
   refine goes_ Tryd.func79 (by kernel_rfl) rfl #[.slice Ao45 y199.length co45, .slice Ao47 y203.length co47] (by rfl) rfl rfl (by (try simp only [List.map_toArray, List.map_cons, List.map_nil]); first | done | rfl | (simp only [List.length_drop, List.length_take]; rfl)) ?_
   with_reducible refine (spec_l01Same.calls k _ _ y199 _ _ y203 false _ ?side1 ?side2 ?side3 ?side4 A11.out).mono ?_
   (case side1 => repeat (first | exact (by repeat (first | (with_reducible exact HR202.out) | (with_reducible refine Kd.C_alloc ?_ _) | (with_reducible refine Kd.C_drewN ?_ _) | (with_reducible refine Kd.C_drew ?_) | exact HR202.out)) | (with_reducible refine Kd.C_alloc ?_ _) | (with_reducible refine Kd.C_drewN ?_ _) | (with_reducible refine Kd.C_drew ?_)))
   (case side2 => exact HC202.out)
   (case side3 => repeat (first | exact (by repeat (first | (with_reducible exact HR206.out) | (with_reducible refine Kd.C_alloc ?_ _) | (with_reducible refine Kd.C_drewN ?_ _) | (with_reducible refine Kd.C_drew ?_) | exact HR206.out)) | (with_reducible refine Kd.C_alloc ?_ _) | (with_reducible refine Kd.C_drewN ?_ _) | (with_reducible refine Kd.C_drew ?_)))
   (case side4 => exact HC206.out)
   rintro e w' ⟨rfl, ⟨nd, rfl⟩⟩
   refine ⟨_, rfl, ?_⟩
   refine hK.out _ _ trivial (fun hHeld => ?_)
   clear hK K
   refine norm_ (a' := ?_) ?_ ?_
   rotate_left
   ·show Act.put _ (some 25) _ = _
    simp only [Act.put, List.setIfInBounds_toArray, List.set_cons_zero, List.set_cons_succ, i64_w, i32_w]
    rfl
   refine pu HT_ 9 26 1023 ?_
   refine done_ (done_of HT_.out (by kernel_rfl)) ?_
   try go_wp2
   go_ret
   exact ⟨by first | rfl | (simp [errW_none, errW_some] <;> rfl) | (simp only [← hji6]; first | rfl | (simp [errW_none, errW_some] <;> rfl)) | (simp [*, errW_none, errW_some] <;> rfl), bq⟩
 ·rw [if_neg c7] at H
  exact absurd H (by simp)
end Go.Proofs.YtkfdfpcdcabcoaaDoor.QName
