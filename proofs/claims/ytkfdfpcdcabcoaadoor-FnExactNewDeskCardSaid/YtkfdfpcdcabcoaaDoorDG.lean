/- Walks: the printed functions, and that each call comes to them (7). -/
import Derived.Test.YtkfdfpcdcabcoaaDoorX
import Derived.Test.YtkfdfpcdcabcoaaDoorDA
import Derived.Test.YtkfdfpcdcabcoaaDoorDD
import Derived.Test.YtkfdfpcdcabcoaaDoorDE
import Derived.Test.YtkfdfpcdcabcoaaDoorDF
namespace Go.Proofs.YtkfdfpcdcabcoaaDoor.QDesx
open Go.RowKit Go.Proofs.YtkfdfpcdcabcoaaDoorW.PrintWords Go.Proofs.YtkfdfpcdcabcoaaDoorW.PrintLast Go.Proofs.YtkfdfpcdcabcoaaDoorW.PrintMore
attribute [local go_sem] max2_int min2_int max_two min_two max_three min_three max_four min_four
set_option linter.unusedVariables false
set_option linter.unusedSimpArgs false

/-! ### impl_IsCurve: function 21 -/
mutual
def impl_IsCurve.j0 : Nat → Int → Bool → List (S74) → List (List Int) → Option (Bool)
 | 0, _, _, _, _ => none
 | k + 1, x3, x25, x326000, x326001 => if x25 = true then (none) else (impl_IsCurve.l0 k x3 (([] : List (List Int))) x326000 (x326000.length : Int) 0)
def impl_IsCurve.l0 : Nat → Int → List (List Int) → List (S74) → Int → Int → Option (Bool)
 | 0, _, _, _, _, _ => none
 | k + 1, x3, x4, x28, x29, x30 => if x30 < x29 then (if 0 ≤ x30 then (if x30 < (x28.length : Int) then ((impl_IsBranch.f k ((rd_T74 x28 x30).f0)).bind fun t332 => (if t332 = true then ((impl_proximatesOf.f k ((rd_T74 x28 x30).f0) 201).bind fun t333 => ((impl_codeOf.f k t333).bind fun t336 => (if x4.length < 5864062014805 then (impl_IsCurve.l0 k x3 (x4 ++ [t336]) x28 x29 (wrap64 (x30 + 1))) else (none)))) else (none))) else (none)) else (none)) else (impl_IsCurve.l1 k x3 x3 0)
def impl_IsCurve.l1 : Nat → Int → Int → Int → Option (Bool)
 | 0, _, _, _ => none
 | k + 1, x3, x44, x45 => if x45 < x44 then (impl_IsCurve.l2 k x3 x45 x44 x45 x3 0) else (some true)
def impl_IsCurve.l2 : Nat → Int → Int → Int → Int → Int → Int → Option (Bool)
 | 0, _, _, _, _, _, _ => none
 | k + 1, x3, x7, x44, x45, x48, x49 => if x49 < x48 then (if x7 = x49 then (impl_IsCurve.l2 k x3 x7 x44 x45 x48 (wrap64 (x49 + 1))) else (none)) else (impl_IsCurve.l1 k x3 x44 (wrap64 (x45 + 1)))
end
def impl_IsCurve.f (k : Nat) (l0_0 : List (S74)) (l0_1 : List (List Int)) : Option (Bool) := if (l0_0.length : Int) < 1 then (impl_IsCurve.j0 k (l0_0.length : Int) true l0_0 l0_1) else (if (l0_0.length : Int) > 6 then (impl_IsCurve.j0 k (l0_0.length : Int) true l0_0 l0_1) else ((impl_isTable.f k l0_1 (l0_0.length : Int)).bind fun t326 => (impl_IsCurve.j0 k (l0_0.length : Int) (!t326) l0_0 l0_1)))
set_option maxHeartbeats 8000000 in
set_option maxRecDepth 100000 in
theorem impl_IsCurve.calls (k : Nat) (A0_0 : Option Addr) (c0_0 : Nat) (l0_0 : List (S74)) (A0_1 : Option Addr) (c0_1 : Nat) (l0_1 : List (List Int)) (r : Bool) (w : World) (hr0_0 : Kd.C k74 w A0_0 l0_0.length l0_0) (hc0_0 : l0_0.length ≤ c0_0) (hr0_1 : Kd.C (Kd.slice 2 (Kd.int .i64)) w A0_1 l0_1.length l0_1) (hc0_1 : l0_1.length ≤ c0_1) (h : impl_IsCurve.f k l0_0 l0_1 = some r) :
  Calls Tryd.prog 21 #[.agg #[.slice A0_0 l0_0.length c0_0, .slice A0_1 l0_1.length c0_1]] w fun e w' => e = .returned (.bool r) ∧ Below w.heap.size w w' := by
 have hu31 := Tryd.underlying31
 have hu74 := Tryd.underlying74
 have HR0_0 := Aside0.mk hr0_0
 have HC0_0 := Aside0.mk hc0_0
 clear hr0_0 hc0_0
 have HR0_1 := Aside0.mk hr0_1
 have HC0_1 := Aside0.mk hc0_1
 clear hr0_1 hc0_1
 have HB := Aside0.mk (Below.refl w.heap.size w)
 have H : (if (l0_0.length : Int) < 1 then (impl_IsCurve.j0 k (l0_0.length : Int) true l0_0 l0_1) else (if (l0_0.length : Int) > 6 then (impl_IsCurve.j0 k (l0_0.length : Int) true l0_0 l0_1) else ((impl_isTable.f k l0_1 (l0_0.length : Int)).bind fun t326 => (impl_IsCurve.j0 k (l0_0.length : Int) (!t326) l0_0 l0_1)))) = some r := h
 clear h
 have HC2 := Aside0.mk H
 clear H
 go_enter Tryd.func21, Tryd.ntmps21
 go_upto_region 2 with (first | ((with_reducible refine gate_dst (N := 1) rfl ?_); (try (refine gate_guard (by rfl) ?_; dsimp only)); refine box_event ?hg (N := 1) ?hd (cs := #[.slice A0_0 l0_0.length c0_0, .slice A0_1 l0_1.length c0_1]) (t := 31) ?hr ?_; (case hd => rfl); (case hg => rfl); (case hr => first | (go_simp; done) | (go_simp; rfl)); intro gb325 hg w3 hbox hb; have BK325 := Aside0.mk (hbox); have GW325 := Aside0.mk ((by rw [hg]; exact (below_size bq) : w.heap.size ≤ gb325)); have GE325 := Aside0.mk ((by rw [hg]; exact (below_size bq) : w.heap.size ≤ gb325)); replace HB := Aside0.mk (below_step bq hb); clear hb hbox hg; have hcz4_0 := bc0 BK325; have hcz4_1 := bc1 BK325; have hfz4_0 := blk_frozen BK325.out 0; have hfz4_1 := blk_frozen BK325.out 1))
 (try simp only [Act.put, List.setIfInBounds_toArray, List.set_cons_zero, List.set_cons_succ])
 go_cut [25] (fun v25 wc => ∃ (kq : Nat) (x25_1 : Bool), v25 = .bool x25_1 ∧ Aside0 (impl_IsCurve.j0 kq (l0_0.length : Int) x25_1 l0_0 l0_1 = some r) ∧ Aside0 (kq ≤ k) ∧ Aside0 (wc.heap[gb325]? = some (.cells #[(.slice A0_0 l0_0.length c0_0), (.slice A0_1 l0_1.length c0_1)] 31 (0, 0))) ∧ Aside0 (Below w.heap.size w wc))
 case first =>
  have H := HC2.out
  clear HC2
  by_cases c5 : (l0_0.length : Int) < 1
  ·rw [if_pos c5] at H
   have c5b0 : decide ((l0_0.length : Int) < 1) = true := decide_eq_true c5
   have c5b1 : decide (l0_0.length < 1) = true := decide_eq_true (by omega)
   clear c5
   (first | rw [c5b0] | (simp only [i64_w, i32_w]; rw [c5b0]) | skip)
   have H' := Aside0.mk H
   clear H
   go_wp2
   go_meet
   case rel => exact ⟨_, (true), (by first | rfl | (simp; done) | (simp [*]; done)), H', ⟨by first | omega | exact Nat.le_refl _⟩, ⟨bk BK325⟩, ⟨bq⟩⟩
  ·rw [if_neg c5] at H
   have c5b0 : decide ((l0_0.length : Int) < 1) = false := decide_eq_false c5
   have c5b1 : decide (l0_0.length < 1) = false := decide_eq_false (by omega)
   clear c5
   (first | rw [c5b0] | (simp only [i64_w, i32_w]; rw [c5b0]) | skip)
   by_cases c6 : (l0_0.length : Int) > 6
   ·rw [if_pos c6] at H
    have c6b0 : decide (6 < (l0_0.length : Int)) = true := decide_eq_true c6
    have c6b1 : decide (6 < l0_0.length) = true := decide_eq_true (by omega)
    clear c6
    have H' := Aside0.mk H
    clear H
    go_wp2
    go_meet
    case rel => exact ⟨_, (true), (by first | rfl | (simp; done) | (simp [*]; done)), H', ⟨by first | omega | exact Nat.le_refl _⟩, ⟨bk BK325⟩, ⟨bq⟩⟩
   ·rw [if_neg c6] at H
    have c6b0 : decide (6 < (l0_0.length : Int)) = false := decide_eq_false c6
    have c6b1 : decide (6 < l0_0.length) = false := decide_eq_false (by omega)
    clear c6
    replace H := Option.bind_eq_some_iff.mp H
    obtain ⟨t326, A70, H⟩ := H
    replace H : (impl_IsCurve.j0 k (l0_0.length : Int) (!t326) l0_0 l0_1) = some r := H
    have A7 := Aside0.mk A70
    clear A70
    have H' := Aside0.mk H
    clear H
    have hcz8_0 := bc0 BK325
    have hcz8_1 := bc1 BK325
    have hfz8_0 := blk_frozen BK325.out 0
    have hfz8_1 := blk_frozen BK325.out 1
    go_wp2_with (first | (go_at_call 51; (with_reducible refine (impl_isTable.calls k _ _ l0_1 (l0_0.length : Int) t326 _ ?side1 ?side2 A7.out).mono ?_); (case side1 => exact kc HR0_1); (case side2 => exact HC0_1.out); rintro e w' ⟨rfl, ⟨nd, rfl⟩⟩))
    go_meet
    case rel => exact ⟨_, (!t326), (by first | rfl | (simp; done) | (simp [*]; done)), H', ⟨by first | omega | exact Nat.le_refl _⟩, ⟨bk BK325⟩, ⟨bq⟩⟩
 case rest =>
  clear HC2
  try clear c2
  try clear p2
  try clear c5
  try clear c5b0
  try clear c5b1
  try clear c6
  try clear c6b0
  try clear c6b1
  try clear hcz4_0
  try clear hcz4_1
  try clear hcz8_0
  try clear hcz8_1
  try clear hfz4_0
  try clear hfz4_1
  try clear hfz8_0
  try clear hfz8_1
  obtain ⟨kq, x25_1, rfl, HA, HJ1, BK325, HB⟩ := hcut
  cases kq with
  | zero => exact absurd HA.out (by simp [impl_IsCurve.j0])
  | succ kj1 =>
   have H := HA.out
   clear HA
   simp only [impl_IsCurve.j0] at H
   by_cases c9 : x25_1 = true
   ·subst c9
    have H1 : (none) = some r := by rw [if_pos rfl] at H; exact H
    clear H
    have H := H1
    clear H1
    exact absurd H (by simp)
   ·replace c9 := Bool.eq_false_iff.mpr c9
    subst c9
    have H1 : (impl_IsCurve.l0 kj1 (l0_0.length : Int) (([] : List (List Int))) l0_0 (l0_0.length : Int) 0) = some r := by rw [if_neg (show ¬ (false = true) by decide)] at H; exact H
    clear H
    have H := H1
    clear H1
    obtain ⟨y327, hy327⟩ : ∃ y_ : List (List Int), y_ = (([] : List (List Int))) := ⟨_, rfl⟩
    replace H : (impl_IsCurve.l0 kj1 (l0_0.length : Int) y327 l0_0 (l0_0.length : Int) 0) = some r := by first | (rw [hy327]; with_reducible exact H) | (have H2_ := (Option.bind_some _ _).symm.trans H; rw [hy327]; with_reducible exact H2_) | (have H2_ := (Option.bind_some _ _).symm.trans H; with_reducible exact H2_) | with_reducible exact H | (rw [hy327]; exact H) | exact H
    have Ny327 := Aside0.mk hy327
    clear hy327
    have H' := Aside0.mk H
    clear H
    go_wp2_with (first | ((with_reducible refine gate_dst (N := 26) rfl ?_); (try (refine gate_guard (by rfl) ?_; dsimp only)); refine Kd.S_lit (Kd.slice 2 (Kd.int .i64)) _ 35 ?hg (N := 26) ?hd (xs := ([] : List (List Int))) (inner := []) (ok := fun _ => True) (okp := fun _ => True) ?hr ?hp (fun _ hk => hk) trivial (Below.refl _ _) (Nat.le_refl _) (by simp) ?_; (case hd => rfl); (case hg => rfl); (case hr => first | (go_simp; done) | (go_simp; rfl)); (case hp => exact (Reps.none _ _)); intro v328 w10 ho11 hb hg_ hnew_; clear hg_ hnew_; (first | rw [← Ny327.out] at ho11 | (simp only [Int.reduceToNat] at ho11; rw [← Ny327.out] at ho11)); have HO329 := Aside0.mk (Kd.S_lower ho11 (below_size bq)); replace BK325 := Aside0.mk (blk_below (g := gb325) (o := .cells #[.slice A0_0 l0_0.length c0_0, .slice A0_1 l0_1.length c0_1] 31 (0, 0)) (bk BK325) hb); replace HB := Aside0.mk (below_step bq hb); clear hb ho11; have hcz12_0 := bc0 BK325; have hcz12_1 := bc1 BK325; have hfz12_0 := blk_frozen BK325.out 0; have hfz12_1 := blk_frozen BK325.out 1))
    go_loopg [4, 30] kj1 (fun kq v4 v30 w' => ∃ (x4_2 : List (List Int)) (x30_2 : Int), v30 = .int .i64 x30_2 ∧ Aside0 (impl_IsCurve.l0 kq (l0_0.length : Int) x4_2 l0_0 (l0_0.length : Int) x30_2 = some r) ∧ Aside0 (kq ≤ kj1) ∧ Aside0 (Kd.S (Kd.slice 2 (Kd.int .i64)) 35 w' w.heap.size (fun _ => True) v4 x4_2) ∧ Aside0 (w'.heap[gb325]? = some (.cells #[(.slice A0_0 l0_0.length c0_0), (.slice A0_1 l0_1.length c0_1)] 31 (0, 0))) ∧ Aside0 (Below w.heap.size w w'))
    case atStart => exact ⟨(y327), (0), (by first | rfl | (simp; done) | (simp [*]; done)), H', ⟨Nat.le_refl _⟩, ⟨by (with_reducible repeat (first | apply Kd.S_alloc | apply Kd.S_drewN | apply Kd.S_drew)); exact HO329.out⟩, ⟨bk BK325⟩, ⟨bq⟩⟩
    case round =>
     clear H'
     try clear c2
     try clear p2
     try clear c5
     try clear c5b0
     try clear c5b1
     try clear c6
     try clear c6b0
     try clear c6b1
     try clear c9
     try clear hcz12_0
     try clear hcz12_1
     try clear hcz4_0
     try clear hcz4_1
     try clear hcz8_0
     try clear hcz8_1
     try clear hfz12_0
     try clear hfz12_1
     try clear hfz4_0
     try clear hfz4_1
     try clear hfz8_0
     try clear hfz8_1
     try clear p2
     obtain ⟨x4_2, x30_2, rfl, HA, HK2, HO_4, BK325, HB⟩ := hrel
     cases gk with
     | zero => exact absurd HA.out (by simp [impl_IsCurve.l0])
     | succ k2 =>
      have H := HA.out
      clear HA
      simp only [impl_IsCurve.l0] at H
      by_cases c13 : x30_2 < (l0_0.length : Int)
      ·rw [if_pos c13] at H
       have c13b0 : decide (x30_2 < (l0_0.length : Int)) = true := decide_eq_true c13
       clear c13
       revert H
       refine ifr fun c14 H => ?_
       have c14b0 : decide (0 ≤ x30_2) = true := decide_eq_true c14
       clear c14
       revert H
       refine ifr fun c15 H => ?_
       have c15b0 : decide (x30_2 < (l0_0.length : Int)) = true := decide_eq_true c15
       clear c15
       replace H := Option.bind_eq_some_iff.mp H
       obtain ⟨t332, A160, H⟩ := H
       replace H : (if t332 = true then ((impl_proximatesOf.f k2 ((rd_T74 l0_0 x30_2).f0) 201).bind fun t333 => ((impl_codeOf.f k2 t333).bind fun t336 => (if x4_2.length < 5864062014805 then (impl_IsCurve.l0 k2 (l0_0.length : Int) (x4_2 ++ [t336]) l0_0 (l0_0.length : Int) (wrap64 (x30_2 + 1))) else (none)))) else (none)) = some r := H
       have A16 := Aside0.mk A160
       clear A160
       by_cases c17 : t332 = true
       ·subst c17
        have H1 : ((impl_proximatesOf.f k2 ((rd_T74 l0_0 x30_2).f0) 201).bind fun t333 => ((impl_codeOf.f k2 t333).bind fun t336 => (if x4_2.length < 5864062014805 then (impl_IsCurve.l0 k2 (l0_0.length : Int) (x4_2 ++ [t336]) l0_0 (l0_0.length : Int) (wrap64 (x30_2 + 1))) else (none)))) = some r := by rw [if_pos rfl] at H; exact H
        clear H
        have H := H1
        clear H1
        replace H := Option.bind_eq_some_iff.mp H
        obtain ⟨t333, A180, H⟩ := H
        replace H : ((impl_codeOf.f k2 t333).bind fun t336 => (if x4_2.length < 5864062014805 then (impl_IsCurve.l0 k2 (l0_0.length : Int) (x4_2 ++ [t336]) l0_0 (l0_0.length : Int) (wrap64 (x30_2 + 1))) else (none))) = some r := H
        have A18 := Aside0.mk A180
        clear A180
        replace H := Option.bind_eq_some_iff.mp H
        obtain ⟨t336, A190, H⟩ := H
        replace H : (if x4_2.length < 5864062014805 then (impl_IsCurve.l0 k2 (l0_0.length : Int) (x4_2 ++ [t336]) l0_0 (l0_0.length : Int) (wrap64 (x30_2 + 1))) else (none)) = some r := H
        have A19 := Aside0.mk A190
        clear A190
        revert H
        refine ifr fun c20 H => ?_
        have LMc20 := Aside0.mk c20
        clear c20
        obtain ⟨y339, hy339⟩ : ∃ y_ : List (List Int), y_ = (x4_2 ++ [t336]) := ⟨_, rfl⟩
        replace H : (impl_IsCurve.l0 k2 (l0_0.length : Int) y339 l0_0 (l0_0.length : Int) (wrap64 (x30_2 + 1))) = some r := by first | (rw [hy339]; with_reducible exact H) | (have H2_ := (Option.bind_some _ _).symm.trans H; rw [hy339]; with_reducible exact H2_) | (have H2_ := (Option.bind_some _ _).symm.trans H; with_reducible exact H2_) | with_reducible exact H | (rw [hy339]; exact H) | exact H
        have Ny339 := Aside0.mk hy339
        clear hy339
        have H' := Aside0.mk H
        clear H
        have p330 : 0 ≤ (x30_2 : Int) := ode
        have q330 : x30_2 < (l0_0.length : Int) := ode
        obtain ⟨ad330, A330_0, c330_0, e330, hx330_0, hl330_0, hi330_0⟩ := at_T74 HR0_0.out x30_2 p330 q330
        cases e330
        try replace hx330_0 := (HB.out.cell (World.block_lt_of_cell? w _ hx330_0)).trans hx330_0
        have HR330_0 := Aside0.mk hi330_0
        have HC330_0 := Aside0.mk hl330_0
        clear hi330_0 hl330_0
        replace p330 := eq_true p330
        replace q330 := eq_true q330
        go_wp2_with (first | ((with_reducible refine gate_dst (N := 6) rfl ?_); (try (refine gate_guard (by rfl) ?_; dsimp only)); refine box_event ?hg (N := 6) ?hd (cs := #[.slice none 0 0]) (t := 74) ?hr ?_; (case hd => rfl); (case hg => rfl); (case hr => first | (go_simp; done) | (go_simp; rfl)); intro gb331 hg w21 hbox hb; replace HO_4 := Aside0.mk (Kd.S_below (by (with_reducible repeat (first | apply Kd.S_alloc | apply Kd.S_drewN | apply Kd.S_drew)); exact HO_4.out) hb); have BK331 := Aside0.mk (hbox); have GW331 := Aside0.mk ((by rw [hg]; exact (below_size bq) : w.heap.size ≤ gb331)); have GE331 := Aside0.mk ((by rw [hg]; exact (below_size bq) : w.heap.size ≤ gb331)); replace HB := Aside0.mk (below_step bq hb); have NB325_331 := Aside0.mk ((by rw [hg]; exact Nat.ne_of_lt (blk_lt (g := gb325) (o := .cells #[.slice (some ad330) l0_0.length c0_0, .slice A0_1 l0_1.length c0_1] 31 (0, 0)) (bk BK325)) : gb325 ≠ gb331)); have NB331_325 := Aside0.mk ((by rw [hg]; exact Nat.ne_of_gt (blk_lt (g := gb325) (o := .cells #[.slice (some ad330) l0_0.length c0_0, .slice A0_1 l0_1.length c0_1] 31 (0, 0)) (bk BK325)) : gb331 ≠ gb325)); replace BK325 := Aside0.mk (blk_below (g := gb325) (o := .cells #[.slice (some ad330) l0_0.length c0_0, .slice A0_1 l0_1.length c0_1] 31 (0, 0)) (bk BK325) hb); clear hb hbox hg; have hnb22 := NB331_325.out; have hnc22 := NB325_331.out; have hcz23_0 := bc0 BK331; have hfz23_0 := blk_frozen BK331.out 0) | ((with_reducible refine gate_callee (f := 52) rfl ?_); refine gL 35 Tryd.func52 #[.agg #[.slice A330_0 ((rd_T74 l0_0 x30_2).f0).length c330_0]] ?_; (with_reducible refine (impl_IsBranch.calls k2 _ _ ((rd_T74 l0_0 x30_2).f0) true _ ?side1 ?side2 A16.out).mono ?_); (case side1 => exact Kd.C_below HR330_0.out bq); (case side2 => exact HC330_0.out); rintro e w24 ⟨rfl, hb⟩; refine ⟨_, rfl, ?_⟩; replace HO_4 := Aside0.mk (Kd.S_below (by (with_reducible repeat (first | apply Kd.S_alloc | apply Kd.S_drewN | apply Kd.S_drew)); exact (Kd.S_mono (Kd.S_far (p := ⟨gb331, 0, none⟩) (Kd.S_types HO_4.out BK331.out (by decide)) (fun _ hk => hk.2) (.slice A330_0 ((rd_T74 l0_0 x30_2).f0).length c330_0)) (fun _ h_ => h_.1))) hb); replace BK325 := Aside0.mk (blk_below (g := gb325) (o := .cells #[.slice (some ad330) l0_0.length c0_0, .slice A0_1 l0_1.length c0_1] 31 (0, 0)) (by (with_reducible repeat (first | refine blk_drewN ?_ _ | refine blk_drew ?_ | refine blk_alloc ?_ _)); refine blk_far ?_ NB325_331.out _; (with_reducible repeat (first | refine blk_drewN ?_ _ | refine blk_drew ?_ | refine blk_alloc ?_ _)); exact BK325.out) hb); replace BK331 := Aside0.mk (blk_below (g := gb331) (o := .cells #[.slice A330_0 ((rd_T74 l0_0 x30_2).f0).length c330_0] 74 (0, 0)) (by (with_reducible repeat (first | refine blk_drewN ?_ _ | refine blk_drew ?_ | refine blk_alloc ?_ _)); refine blk_put (cs := #[.slice none 0 0]) ?_ 0 _ rfl; (with_reducible repeat (first | refine blk_drewN ?_ _ | refine blk_drew ?_ | refine blk_alloc ?_ _)); exact BK331.out) hb); replace HB := Aside0.mk (below_step bq hb); (try clear hb); (try clear hk); have hcz25_0 := bc0 BK331; have hfz25_0 := blk_frozen BK331.out 0) | ((with_reducible refine gate_callee (f := 54) rfl ?_); refine gL 39 Tryd.func54 #[.agg #[.slice A330_0 ((rd_T74 l0_0 x30_2).f0).length c330_0], .int .i64 201] ?_; (with_reducible refine (impl_proximatesOf.calls k2 _ _ ((rd_T74 l0_0 x30_2).f0) 201 t333 _ ?side1 ?side2 A18.out).mono ?_); (case side1 => exact kc HR330_0); (case side2 => exact HC330_0.out); rintro e w26 ⟨v334, rfl, ho0, hb⟩; refine ⟨_, rfl, ?_⟩; have HO335 := Aside0.mk (Kd.S_lower (Kd.S_new' ho0 (Kd.S_lt (by (with_reducible repeat (first | apply Kd.S_alloc | apply Kd.S_drewN | apply Kd.S_drew)); exact HO_4.out))) (below_size bq)); replace HO_4 := Aside0.mk (Kd.S_elder' (by (with_reducible repeat (first | apply Kd.S_alloc | apply Kd.S_drewN | apply Kd.S_drew)); exact HO_4.out) (Kd.S_base ho0) hb); replace BK325 := Aside0.mk (blk_below (g := gb325) (o := .cells #[.slice (some ad330) l0_0.length c0_0, .slice A0_1 l0_1.length c0_1] 31 (0, 0)) (bk BK325) hb); replace BK331 := Aside0.mk (blk_below (g := gb331) (o := .cells #[.slice A330_0 ((rd_T74 l0_0 x30_2).f0).length c330_0] 74 (0, 0)) (bk BK331) hb); replace HB := Aside0.mk (below_step bq hb); (try clear hb); (try clear hk); (try clear ho0); obtain ⟨Ao27, co27, eo27⟩ := Kd.S_slice HO335.out; subst eo27) | ((with_reducible refine gate_callee (f := 53) rfl ?_); refine gL 40 Tryd.func53 #[.slice Ao27 t333.length co27] ?_; (with_reducible refine (impl_codeOf.calls k2 _ _ t333 t336 _ ?side1 ?side2 A19.out).mono ?_); (case side1 => repeat (first | exact (Kd.S_reads' HO335.out).2.2 | (with_reducible refine Kd.C_alloc ?_ _) | (with_reducible refine Kd.C_drewN ?_ _) | (with_reducible refine Kd.C_drew ?_))); (case side2 => exact (Kd.S_reads' HO335.out).2.1); rintro e w28 ⟨v337, rfl, ho0, hb⟩; refine ⟨_, rfl, ?_⟩; replace HO_4 := Aside0.mk (Kd.S_elder' (by (with_reducible repeat (first | apply Kd.S_alloc | apply Kd.S_drewN | apply Kd.S_drew)); exact HO_4.out) (Kd.R_base ho0) hb); replace HO335 := Aside0.mk (Kd.S_elder' (by (with_reducible repeat (first | apply Kd.S_alloc | apply Kd.S_drewN | apply Kd.S_drew)); exact HO335.out) (Kd.R_base ho0) hb); have HO338 := Aside0.mk (Kd.R_lower ho0 (below_size bq)); replace BK325 := Aside0.mk (blk_below (g := gb325) (o := .cells #[.slice (some ad330) l0_0.length c0_0, .slice A0_1 l0_1.length c0_1] 31 (0, 0)) (bk BK325) hb); replace BK331 := Aside0.mk (blk_below (g := gb331) (o := .cells #[.slice A330_0 ((rd_T74 l0_0 x30_2).f0).length c330_0] 74 (0, 0)) (bk BK331) hb); replace HB := Aside0.mk (below_step bq hb); (try clear hb); (try clear hk); (try clear ho0); obtain ⟨Ao30, co30, eo30⟩ := Kd.R_slice HO338.out; subst eo30) | ((with_reducible refine gate_builtin (b := .append) (xs := #[.tmp 37, .tmp 41]) rfl ?_); (try (refine gate_guard (by rfl) ?_; dsimp only)); at_builtin; refine Kd.S_append (Kd.slice 2 (Kd.int .i64)) (w0 := w) w.heap.size rfl (.tmp 37) (.tmp 41) 23 35 (.slice none 0 0) 24 rfl Tryd.underlying23 info35 rfl (by decide) (by omega) u4 x4_2 t336 [.slice Ao30 t336.length co30] (fun k_ => some k_ ≠ (.slice Ao27 t333.length co27 : Value).ownBlock) (fun k_ => some k_ = (.slice Ao30 t336.length co30 : Value).ownBlock) rfl rfl ?aP (fun k_ hk_ => ((Kd.R_mono (ok' := fun k_ => ((fun k_ => some k_ ≠ (.slice Ao27 t333.length co27 : Value).ownBlock)) k_ ∧ some k_ ≠ (u4 : Value).ownBlock) (Kd.R_apart' (Kd.R_apart' (HO338.out) (Kd.S_typed HO335.out) (by decide)) (Kd.S_typed HO_4.out) (by decide)) (fun k_ hk => ⟨hk.1.2, hk.2⟩))).1 k_ hk_.symm) ?aF ?aO ?aB ?aS ?aL ?_; (case aP => exact Kd.M_row (Kd.R_mono (Kd.R_tight rfl (Kd.R_mono (ok' := fun k_ => ((fun k_ => some k_ ≠ (.slice Ao27 t333.length co27 : Value).ownBlock)) k_ ∧ some k_ ≠ (u4 : Value).ownBlock) (Kd.R_apart' (Kd.R_apart' (HO338.out) (Kd.S_typed HO335.out) (by decide)) (Kd.S_typed HO_4.out) (by decide)) (fun k_ hk => ⟨hk.1.2, hk.2⟩))) (fun _ h_ => h_))); (case aB => exact bq); (case aF => exact (fun k_ hk => Kd.fresh' (Kd.S_lt (by (with_reducible repeat (first | apply Kd.S_alloc | apply Kd.S_drewN | apply Kd.S_drew)); exact HO335.out)) k_ hk)); (case aO => exact (by (with_reducible repeat (first | apply Kd.S_alloc | apply Kd.S_drewN | apply Kd.S_drew)); exact Kd.S_mono HO_4.out (fun k_ hk => ⟨hk.1.2, fun e_ => hk.2 e_⟩))); (case aS => exact (below_size bq)); (case aL => have := LMc20.out; omega); intro v340 w29 ho hb hg hat; rw [← Ny339.out] at ho; have n0_ := Aside0.mk (blk_grown (g := gb325) (o := .cells #[.slice (some ad330) l0_0.length c0_0, .slice A0_1 l0_1.length c0_1] 31 (0, 0)) (bk BK325) hg (Kd.S_ne HO_4.out BK325.out (by decide))); have n1_ := Aside0.mk (blk_grown (g := gb331) (o := .cells #[.slice A330_0 ((rd_T74 l0_0 x30_2).f0).length c330_0] 74 (0, 0)) (bk BK331) hg (Kd.S_ne HO_4.out BK331.out (by decide))); have n2_ := Aside0.mk (Kd.S_after (ok := (fun k_ => some k_ ≠ (.slice Ao30 t336.length co30 : Value).ownBlock)) (by (with_reducible repeat (first | apply Kd.S_alloc | apply Kd.S_drewN | apply Kd.S_drew)); exact Kd.S_mono HO335.out (fun _ hk => ⟨hk.2, hk.1.2⟩)) hg hat); have n3_ := Aside0.mk (hb); have n4_ := Aside0.mk (ho); clear BK325; clear BK331; clear HO335; clear HB; clear HO_4; clear HO338; have BK325 := n0_; have BK331 := n1_; have HO335 := n2_; have HB := n3_; have HO341 := n4_; clear n0_ n1_ n2_ n3_ n4_; clear ho hb hg hat))
        go_roundg k2
        case measure => have := HJ1.out; have := HK2.out; omega
        case rel => exact ⟨(y339), (wrap64 (x30_2 + 1)), (by first | rfl | (simp; done) | (simp [*]; done)), H', ⟨by have := HJ1.out; have := HK2.out; omega⟩, ⟨by (with_reducible repeat (first | apply Kd.S_alloc | apply Kd.S_drewN | apply Kd.S_drew)); exact Kd.S_mono HO341.out (fun _ hk => trivial)⟩, ⟨bk BK325⟩, ⟨bq⟩⟩
       ·replace c17 := Bool.eq_false_iff.mpr c17
        subst c17
        have H1 : (none) = some r := by rw [if_neg (show ¬ (false = true) by decide)] at H; exact H
        clear H
        have H := H1
        clear H1
        exact absurd H (by simp)
      ·rw [if_neg c13] at H
       have c13b0 : decide (x30_2 < (l0_0.length : Int)) = false := decide_eq_false c13
       clear c13
       have H' := Aside0.mk H
       clear H
       go_wp2
       go_loopg [45] k2 (fun kq v45 w' => ∃ (x45_3 : Int), v45 = .int .i64 x45_3 ∧ Aside0 (impl_IsCurve.l1 kq (l0_0.length : Int) (l0_0.length : Int) x45_3 = some r) ∧ Aside0 (kq ≤ k2) ∧ Aside0 (w'.heap[gb325]? = some (.cells #[(.slice A0_0 l0_0.length c0_0), (.slice A0_1 l0_1.length c0_1)] 31 (0, 0))) ∧ Aside0 (Below w.heap.size w w'))
       case atStart => exact ⟨(0), (by first | rfl | (simp; done) | (simp [*]; done)), H', ⟨Nat.le_refl _⟩, ⟨bk BK325⟩, ⟨bq⟩⟩
       case round =>
        clear H'
        try clear c1
        try clear c2
        try clear p2
        try clear c3
        try clear p3
        try clear q3
        try clear hx3
        try clear c5
        try clear c5b0
        try clear c5b1
        try clear c6
        try clear c6b0
        try clear c6b1
        try clear p6
        try clear c9
        try clear c13
        try clear c13b0
        try clear c14
        try clear c14b0
        try clear c15
        try clear c15b0
        try clear c17
        try clear c20
        try clear c21
        try clear c22
        try clear hcz12_0
        try clear hcz12_1
        try clear hcz23_0
        try clear hcz25_0
        try clear hcz4_0
        try clear hcz4_1
        try clear hcz8_0
        try clear hcz8_1
        try clear hfz12_0
        try clear hfz12_1
        try clear hfz23_0
        try clear hfz25_0
        try clear hfz4_0
        try clear hfz4_1
        try clear hfz8_0
        try clear hfz8_1
        try clear hx330_0
        try clear p2
        try clear p330
        try clear q330
        obtain ⟨x45_3, rfl, HA, HK3, BK325, HB⟩ := hrel
        cases gk with
        | zero => exact absurd HA.out (by simp [impl_IsCurve.l1])
        | succ k3 =>
         have H := HA.out
         clear HA
         simp only [impl_IsCurve.l1] at H
         by_cases c31 : x45_3 < (l0_0.length : Int)
         ·rw [if_pos c31] at H
          have c31b0 : decide (x45_3 < (l0_0.length : Int)) = true := decide_eq_true c31
          clear c31
          have H' := Aside0.mk H
          clear H
          go_wp2
          go_loopg [49] k3 (fun kq v49 w' => ∃ (x49_4 : Int), v49 = .int .i64 x49_4 ∧ Aside0 (impl_IsCurve.l2 kq (l0_0.length : Int) x45_3 (l0_0.length : Int) x45_3 (l0_0.length : Int) x49_4 = some r) ∧ Aside0 (kq ≤ k3) ∧ Aside0 (w'.heap[gb325]? = some (.cells #[(.slice A0_0 l0_0.length c0_0), (.slice A0_1 l0_1.length c0_1)] 31 (0, 0))) ∧ Aside0 (Below w.heap.size w w'))
          case atStart => exact ⟨(0), (by first | rfl | (simp; done) | (simp [*]; done)), H', ⟨Nat.le_refl _⟩, ⟨bk BK325⟩, ⟨bq⟩⟩
          case round =>
           clear H'
           try clear c1
           try clear c2
           try clear p2
           try clear c3
           try clear p3
           try clear q3
           try clear hx3
           try clear c5
           try clear c5b0
           try clear c5b1
           try clear c6
           try clear c6b0
           try clear c6b1
           try clear p6
           try clear c9
           try clear c13
           try clear c13b0
           try clear c14
           try clear c14b0
           try clear c15
           try clear c15b0
           try clear c17
           try clear c20
           try clear c21
           try clear c22
           try clear c31
           try clear c31b0
           try clear hcz12_0
           try clear hcz12_1
           try clear hcz23_0
           try clear hcz25_0
           try clear hcz4_0
           try clear hcz4_1
           try clear hcz8_0
           try clear hcz8_1
           try clear hfz12_0
           try clear hfz12_1
           try clear hfz23_0
           try clear hfz25_0
           try clear hfz4_0
           try clear hfz4_1
           try clear hfz8_0
           try clear hfz8_1
           try clear hx330_0
           try clear p2
           try clear p3
           try clear p330
           try clear p6
           try clear q3
           try clear q330
           obtain ⟨x49_4, rfl, HA, HK4, BK325, HB⟩ := hrel
           cases gk with
           | zero => exact absurd HA.out (by simp [impl_IsCurve.l2])
           | succ k4 =>
            have H := HA.out
            clear HA
            simp only [impl_IsCurve.l2] at H
            by_cases c32 : x49_4 < (l0_0.length : Int)
            ·rw [if_pos c32] at H
             have c32b0 : decide (x49_4 < (l0_0.length : Int)) = true := decide_eq_true c32
             clear c32
             revert H
             refine ifr fun c33 H => ?_
             have c33b0 : (x45_3 == x49_4) = true := beq_iff_eq.mpr c33
             have c33b1 : (x45_3 != x49_4) = false := bne_eq_false_iff_eq.mpr c33
             clear c33
             have H' := Aside0.mk H
             clear H
             go_wp2
             go_roundg k4
             case measure => have := HJ1.out; have := HK2.out; have := HK3.out; have := HK4.out; omega
             case rel => exact ⟨(wrap64 (x49_4 + 1)), (by first | rfl | (simp; done) | (simp [*]; done)), H', ⟨by have := HJ1.out; have := HK2.out; have := HK3.out; have := HK4.out; omega⟩, ⟨bk BK325⟩, ⟨bq⟩⟩
            ·rw [if_neg c32] at H
             have c32b0 : decide (x49_4 < (l0_0.length : Int)) = false := decide_eq_false c32
             clear c32
             have H' := Aside0.mk H
             clear H
             go_wp2
             go_roundg k4
             case measure => have := HJ1.out; have := HK2.out; have := HK3.out; have := HK4.out; omega
             case rel => exact ⟨(wrap64 (x45_3 + 1)), (by first | rfl | (simp; done) | (simp [*]; done)), H', ⟨by have := HJ1.out; have := HK2.out; have := HK3.out; have := HK4.out; omega⟩, ⟨bk BK325⟩, ⟨bq⟩⟩
         ·rw [if_neg c31] at H
          have c31b0 : decide (x45_3 < (l0_0.length : Int)) = false := decide_eq_false c31
          clear c31
          obtain rfl := Option.some.inj H
          go_wp2
          go_ret
          exact ⟨eq_, bq⟩

/-! ### impl_parted: function 61 -/
def impl_parted.l0 : Nat → ByteArray → Int → Int → Option (ByteArray × ByteArray × Bool)
 | 0, _, _, _ => none
 | k + 1, x0, x1, x7 => if x7 < (x0.size : Int) then (if 0 ≤ x7 then (if (bt x0 x7) = x1 then (if x7 ≤ (x0.size : Int) then (if 0 ≤ (wrap64 (x7 + 1)) then (if (wrap64 (x7 + 1)) ≤ (x0.size : Int) then (some (x0.extract 0 (x7 : Int).toNat, x0.extract ((wrap64 (x7 + 1)) : Int).toNat x0.size, true)) else (none)) else (none)) else (none)) else (impl_parted.l0 k x0 x1 (wrap64 (x7 + 1)))) else (none)) else (some (x0, (⟨#[]⟩ : ByteArray), false))
def impl_parted.f (k : Nat) (a0 : ByteArray) (a1 : Int) : Option (ByteArray × ByteArray × Bool) := impl_parted.l0 k a0 a1 0
set_option maxHeartbeats 8000000 in
set_option maxRecDepth 100000 in
theorem impl_parted.calls (k : Nat) (a0 : ByteArray) (a1 : Int) (r1 : ByteArray) (r2 : ByteArray) (r3 : Bool) (w : World) (h : impl_parted.f k a0 a1 = some (r1, r2, r3)) :
  Calls Tryd.prog 61 #[.string a0, .int .u8 a1] w fun e w' => e = .returned (.tuple #[.string r1, .string r2, .bool r3]) ∧ Drawn0 w w' := by
 have H : (impl_parted.l0 k a0 a1 0) = some (r1, r2, r3) := h
 clear h
 have H' := Aside0.mk H
 clear H
 go_enter Tryd.func61, Tryd.ntmps61
 go_wp2
 repeat (go_quiet (fail); try go_wp2)
 go_loopg [7] k (fun kq v7 w' => ∃ (x7_1 : Int), v7 = .int .i64 x7_1 ∧ Aside0 (impl_parted.l0 kq a0 a1 x7_1 = some (r1, r2, r3)) ∧ Aside0 (kq ≤ k) ∧ Drawn0 w w')
 case atStart => exact ⟨(0), (by first | rfl | (simp; done) | (simp [*]; done)), H', ⟨Nat.le_refl _⟩, by repeat (first | exact Drawn0.refl _ | apply Drawn0.step)⟩
 case round =>
  clear H'
  try clear p2
  obtain ⟨x7_1, rfl, HA, HK1, ⟨m1, rfl⟩⟩ := hrel
  cases gk with
  | zero => exact absurd HA.out (by simp [impl_parted.l0])
  | succ k1 =>
   have H := HA.out
   clear HA
   simp only [impl_parted.l0] at H
   by_cases c3 : x7_1 < (a0.size : Int)
   ·rw [if_pos c3] at H
    have c3b0 : decide (x7_1 < (a0.size : Int)) = true := decide_eq_true c3
    clear c3
    revert H
    refine ifr fun c4 H => ?_
    have c4b0 : decide (0 ≤ x7_1) = true := decide_eq_true c4
    clear c4
    by_cases c6 : (bt a0 x7_1) = a1
    ·rw [if_pos c6] at H
     have c6b0 : ((bt a0 x7_1) == a1) = true := beq_iff_eq.mpr c6
     have c6b1 : ((bt a0 x7_1) != a1) = false := bne_eq_false_iff_eq.mpr c6
     clear c6
     have c7b0 := eq_true (ode : 0 ≤ x7_1)
     revert H
     refine ifr fun c8 H => ?_
     have c8b0 := eq_true c8
     have c8b1 : decide (x7_1 ≤ (a0.size : Int)) = true := decide_eq_true c8
     clear c8
     obtain ⟨ji9, hji9⟩ : ∃ j_ : Int, (wrap64 (x7_1 + 1)) = j_ := ⟨_, rfl⟩
     replace H : (if 0 ≤ (ji9) then (if (ji9) ≤ (a0.size : Int) then (some (a0.extract 0 (x7_1 : Int).toNat, a0.extract ((ji9) : Int).toNat a0.size, true)) else (none)) else (none)) = some (r1, r2, r3) := by first | (rw [hji9] at H; exact H) | (simp only [hji9] at H ⊢; exact H)
     have hji9w : (IntKind.i64.wrap (x7_1 + 1)) = ji9 := (i64_w _).trans hji9
     revert H
     refine ifr fun c10 H => ?_
     have c10b0 := eq_true c10
     have c10b1 : decide (0 ≤ (ji9)) = true := decide_eq_true c10
     clear c10
     revert H
     refine ifr fun c11 H => ?_
     have c11b0 := eq_true c11
     have c11b1 : decide ((ji9) ≤ (a0.size : Int)) = true := decide_eq_true c11
     clear c11
     simp only [Option.some.injEq, Prod.mk.injEq] at H
     obtain ⟨rfl, rfl, rfl⟩ := H
     have p5 : 0 ≤ (x7_1 : Int) := ode
     have q5 : x7_1 < (a0.size : Int) := ode
     have hx5 := bt_at a0 x7_1
     replace p5 := eq_true p5
     replace q5 := eq_true q5
     go_wp2
     repeat (go_quiet (fail); try go_wp2)
     go_ret3
     exact ⟨by first | rfl | (simp; done) | (simp only [← hji9] <;> (first | rfl | simp)) | (simp [*]; done), by repeat (first | exact Drawn0.refl _ | apply Drawn0.step)⟩
    ·rw [if_neg c6] at H
     have c6b0 : ((bt a0 x7_1) == a1) = false := beq_eq_false_iff_ne.mpr c6
     have c6b1 : ((bt a0 x7_1) != a1) = true := bne_iff_ne.mpr c6
     have H' := Aside0.mk H
     clear H
     have p5 : 0 ≤ (x7_1 : Int) := ode
     have q5 : x7_1 < (a0.size : Int) := ode
     have hx5 := bt_at a0 x7_1
     replace p5 := eq_true p5
     replace q5 := eq_true q5
     go_wp2
     repeat (go_quiet (fail); try go_wp2)
     go_roundg k1
     case measure => have := HK1.out; omega
     case rel => exact ⟨(wrap64 (x7_1 + 1)), (by first | rfl | (simp; done) | (simp [*]; done)), H', ⟨by have := HK1.out; omega⟩, by repeat (first | exact Drawn0.refl _ | apply Drawn0.step)⟩
   ·rw [if_neg c3] at H
    have c3b0 : decide (x7_1 < (a0.size : Int)) = false := decide_eq_false c3
    clear c3
    simp only [Option.some.injEq, Prod.mk.injEq] at H
    obtain ⟨rfl, rfl, rfl⟩ := H
    go_wp2
    repeat (go_quiet (fail); try go_wp2)
    go_ret3
    exact ⟨by first | rfl | (simp; done) | (simp [*]; done), by repeat (first | exact Drawn0.refl _ | apply Drawn0.step)⟩

/-! ### impl_wordsOf: function 62 -/
def impl_wordsOf.l0 : Nat → ByteArray → Int → List ByteArray → Option (List ByteArray)
 | 0, _, _, _ => none
 | k + 1, x0, x1, x5 => (impl_parted.f k x0 x1).bind fun bt345 => (if x5.length < 8796093022208 then ((some (x5 ++ [bt345.1] : List ByteArray)).bind fun y348 => (if bt345.2.2 = true then (impl_wordsOf.l0 k bt345.2.1 x1 y348) else (some y348))) else (none))
def impl_wordsOf.f (k : Nat) (a0 : ByteArray) (a1 : Int) : Option (List ByteArray) := impl_wordsOf.l0 k a0 a1 (([] : List ByteArray))
set_option maxHeartbeats 8000000 in
set_option maxRecDepth 100000 in
theorem impl_wordsOf.calls (k : Nat) (a0 : ByteArray) (a1 : Int) (r : List ByteArray) (w : World) (h : impl_wordsOf.f k a0 a1 = some r) :
  Calls Tryd.prog 62 #[.string a0, .int .u8 a1] w fun e w' => ∃ v0_ : Value, e = .returned (v0_) ∧ Kd.R Kd.string 9 w' w.heap.size (fun _ => True) v0_ r ∧ Below w.heap.size w w' := by
 have HB := Aside0.mk (Below.refl w.heap.size w)
 have H : (impl_wordsOf.l0 k a0 a1 (([] : List ByteArray))) = some r := h
 clear h
 obtain ⟨y342, hy342⟩ : ∃ y_ : List ByteArray, y_ = (([] : List ByteArray)) := ⟨_, rfl⟩
 replace H : (impl_wordsOf.l0 k a0 a1 y342) = some r := by first | (rw [hy342]; with_reducible exact H) | (have H2_ := (Option.bind_some _ _).symm.trans H; rw [hy342]; with_reducible exact H2_) | (have H2_ := (Option.bind_some _ _).symm.trans H; with_reducible exact H2_) | with_reducible exact H | (rw [hy342]; exact H) | exact H
 have Ny342 := Aside0.mk hy342
 clear hy342
 have H' := Aside0.mk H
 clear H
 go_enter Tryd.func62, Tryd.ntmps62
 go_wp2_with (first | ((with_reducible refine gate_dst (N := 9) rfl ?_); refine Kd.R_lit Kd.string _ 9 ?hg (N := 9) ?hd (xs := ([] : List ByteArray)) (inner := []) (ok := fun _ => True) (okp := fun _ => True) ?hr ?hp (fun _ hk => hk) trivial (Below.refl _ _) (Nat.le_refl _) (by simp) ?_; (case hd => rfl); (case hg => rfl); (case hr => first | (go_simp; done) | (go_simp; rfl)); (case hp => exact (Reps.none _ _)); intro v343 w3 ho4 hb hg_ hnew_; clear hg_ hnew_; (first | rw [← Ny342.out] at ho4 | (simp only [Int.reduceToNat] at ho4; rw [← Ny342.out] at ho4)); have HO344 := Aside0.mk (Kd.R_lower ho4 (below_size bq)); replace HB := Aside0.mk (below_step bq hb); clear hb ho4))
 go_loopg [0, 5] k (fun kq v0 v5 w' => ∃ (x0_1 : ByteArray) (x5_1 : List ByteArray), v0 = .string x0_1 ∧ Aside0 (impl_wordsOf.l0 kq x0_1 a1 x5_1 = some r) ∧ Aside0 (kq ≤ k) ∧ Aside0 (Kd.R Kd.string 9 w' w.heap.size (fun _ => True) v5 x5_1) ∧ Aside0 (Below w.heap.size w w'))
 case atStart => exact ⟨(a0), (y342), (by first | rfl | (simp; done) | (simp [*]; done)), H', ⟨Nat.le_refl _⟩, ⟨by (with_reducible repeat (first | apply Kd.R_alloc | apply Kd.R_drewN | apply Kd.R_drew)); exact HO344.out⟩, ⟨bq⟩⟩
 case round =>
  clear H'
  try clear p2
  obtain ⟨x0_1, x5_1, rfl, HA, HK1, HO_5, HB⟩ := hrel
  cases gk with
  | zero => exact absurd HA.out (by simp [impl_wordsOf.l0])
  | succ k1 =>
   have H := HA.out
   clear HA
   simp only [impl_wordsOf.l0] at H
   replace H := Option.bind_eq_some_iff.mp H
   obtain ⟨⟨t345, t346, t347⟩, A50, H⟩ := H
   replace H : (if x5_1.length < 8796093022208 then ((some (x5_1 ++ [t345] : List ByteArray)).bind fun y348 => (if t347 = true then (impl_wordsOf.l0 k1 t346 a1 y348) else (some y348))) else (none)) = some r := H
   have A5 := Aside0.mk A50
   clear A50
   by_cases c6 : x5_1.length < 8796093022208
   ·rw [if_pos c6] at H
    have LMc6 := Aside0.mk c6
    clear c6
    obtain ⟨y348, hy348⟩ : ∃ y_ : List ByteArray, y_ = (x5_1 ++ [t345]) := ⟨_, rfl⟩
    replace H : (if t347 = true then (impl_wordsOf.l0 k1 t346 a1 y348) else (some y348)) = some r := by first | (rw [hy348]; with_reducible exact H) | (have H2_ := (Option.bind_some _ _).symm.trans H; rw [hy348]; with_reducible exact H2_) | (have H2_ := (Option.bind_some _ _).symm.trans H; with_reducible exact H2_) | with_reducible exact H | (rw [hy348]; exact H) | exact H
    have Ny348 := Aside0.mk hy348
    clear hy348
    by_cases c7 : t347 = true
    ·subst c7
     have H1 : (impl_wordsOf.l0 k1 t346 a1 y348) = some r := by rw [if_pos rfl] at H; exact H
     clear H
     have H := H1
     clear H1
     have H' := Aside0.mk H
     clear H
     go_wp2_with (first | ((with_reducible refine gate_callee (f := 61) rfl ?_); refine gL 13 Tryd.func61 #[.string x0_1, .int .u8 a1] ?_; (with_reducible refine (impl_parted.calls k1 x0_1 a1 t345 t346 true _ A5.out).mono ?_); rintro e w' ⟨rfl, ⟨nd, rfl⟩⟩; refine ⟨_, rfl, ?_⟩) | ((with_reducible refine gate_builtin (b := .append) (xs := #[.tmp 17, .tmp 19]) rfl ?_); at_builtin; refine Kd.R_append Kd.string (w0 := w) w.heap.size rfl (.tmp 17) (.tmp 19) 89 9 (.string ⟨#[]⟩) 16 rfl Tryd.underlying89 info9 rfl (by decide) (by omega) u5 x5_1 t345 [.string t345] (fun _ => True) (fun _ => False) rfl rfl ?aP (fun _ hk => hk.elim) ?aF ?aO ?aB ?aS ?aL ?_; (case aP => exact rfl); (case aB => exact bq); (case aF => exact (fun _ _ => trivial)); (case aO => exact (by (with_reducible repeat (first | apply Kd.R_alloc | apply Kd.R_drewN | apply Kd.R_drew)); exact HO_5.out)); (case aS => exact (below_size bq)); (case aL => have := LMc6.out; omega); intro v349 w8 ho hb hg hat; rw [← Ny348.out] at ho; have n0_ := Aside0.mk (hb); have n1_ := Aside0.mk (ho); clear HB; clear HO_5; have HB := n0_; have HO350 := n1_; clear n0_ n1_; clear ho hb hg hat))
     go_roundg k1
     case measure => have := HK1.out; omega
     case rel => exact ⟨(t346), (y348), (by first | rfl | (simp; done) | (simp [*]; done)), H', ⟨by have := HK1.out; omega⟩, ⟨by (with_reducible repeat (first | apply Kd.R_alloc | apply Kd.R_drewN | apply Kd.R_drew)); exact HO350.out⟩, ⟨bq⟩⟩
    ·replace c7 := Bool.eq_false_iff.mpr c7
     subst c7
     have H1 : (some y348) = some r := by rw [if_neg (show ¬ (false = true) by decide)] at H; exact H
     clear H
     have H := H1
     clear H1
     obtain rfl := Option.some.inj H
     go_wp2_with (first | ((with_reducible refine gate_callee (f := 61) rfl ?_); refine gL 13 Tryd.func61 #[.string x0_1, .int .u8 a1] ?_; (with_reducible refine (impl_parted.calls k1 x0_1 a1 t345 t346 false _ A5.out).mono ?_); rintro e w' ⟨rfl, ⟨nd, rfl⟩⟩; refine ⟨_, rfl, ?_⟩) | ((with_reducible refine gate_builtin (b := .append) (xs := #[.tmp 17, .tmp 19]) rfl ?_); at_builtin; refine Kd.R_append Kd.string (w0 := w) w.heap.size rfl (.tmp 17) (.tmp 19) 89 9 (.string ⟨#[]⟩) 16 rfl Tryd.underlying89 info9 rfl (by decide) (by omega) u5 x5_1 t345 [.string t345] (fun _ => True) (fun _ => False) rfl rfl ?aP (fun _ hk => hk.elim) ?aF ?aO ?aB ?aS ?aL ?_; (case aP => exact rfl); (case aB => exact bq); (case aF => exact (fun _ _ => trivial)); (case aO => exact (by (with_reducible repeat (first | apply Kd.R_alloc | apply Kd.R_drewN | apply Kd.R_drew)); exact HO_5.out)); (case aS => exact (below_size bq)); (case aL => have := LMc6.out; omega); intro v349 w9 ho hb hg hat; rw [← Ny348.out] at ho; have n0_ := Aside0.mk (hb); have n1_ := Aside0.mk (ho); clear HB; clear HO_5; have HB := n0_; have HO350 := n1_; clear n0_ n1_; clear ho hb hg hat))
     go_ret
     exact ⟨_, eq_, by (with_reducible repeat (first | apply Kd.R_alloc | apply Kd.R_drewN | apply Kd.R_drew)); exact HO350.out, bq⟩
   ·rw [if_neg c6] at H
    exact absurd H (by simp)

/-! ### impl_digitsOf: function 96 -/
mutual
def impl_digitsOf.l0 : Nat → ByteArray → Int → Int → Option (Int × ByteArray × Bool)
 | 0, _, _, _ => none
 | k + 1, x0, x5, x6 => if x6 < (x0.size : Int) then (if 0 ≤ x6 then (if (bt x0 x6) ≥ 48 then (impl_digitsOf.j1 k x0 x5 x6 (decide ((bt x0 x6) ≤ 57))) else (impl_digitsOf.j1 k x0 x5 x6 false)) else (none)) else (impl_digitsOf.j1 k x0 x5 x6 false)
def impl_digitsOf.j1 : Nat → ByteArray → Int → Int → Bool → Option (Int × ByteArray × Bool)
 | 0, _, _, _, _ => none
 | k + 1, x0, x5, x6, x22 => if x22 = true then (if x6 = 9 then (none) else (if 0 ≤ x6 then (if x6 < (x0.size : Int) then (impl_digitsOf.l0 k x0 (wrap64 ((wrap64 (10 * x5)) + (((bt x0 x6) - 48) % 256))) (wrap64 (x6 + 1))) else (none)) else (none))) else (if x6 = 0 then (none) else (if x6 > 1 then (if 0 < (x0.size : Int) then (if (bt x0 0) = 48 then (none) else (if 0 ≤ x6 then (if x6 ≤ (x0.size : Int) then (some (x5, x0.extract (x6 : Int).toNat x0.size, true)) else (none)) else (none))) else (none)) else (if 0 ≤ x6 then (if x6 ≤ (x0.size : Int) then (some (x5, x0.extract (x6 : Int).toNat x0.size, true)) else (none)) else (none))))
end
def impl_digitsOf.f (k : Nat) (a0 : ByteArray) : Option (Int × ByteArray × Bool) := impl_digitsOf.l0 k a0 0 0
set_option maxHeartbeats 8000000 in
set_option maxRecDepth 100000 in
theorem impl_digitsOf.calls (k : Nat) (a0 : ByteArray) (r1 : Int) (r2 : ByteArray) (r3 : Bool) (w : World) (h : impl_digitsOf.f k a0 = some (r1, r2, r3)) :
  Calls Tryd.prog 96 #[.string a0] w fun e w' => e = .returned (.tuple #[.int .i64 r1, .string r2, .bool r3]) ∧ Drawn0 w w' := by
 have H : (impl_digitsOf.l0 k a0 0 0) = some (r1, r2, r3) := h
 clear h
 have H' := Aside0.mk H
 clear H
 go_enter Tryd.func96, Tryd.ntmps96
 go_wp2
 repeat (go_quiet (fail); try go_wp2)
 go_loopg [5, 6] k (fun kq v5 v6 w' => ∃ (x5_1 : Int) (x6_1 : Int), v5 = .int .i64 x5_1 ∧ v6 = .int .i64 x6_1 ∧ Aside0 (impl_digitsOf.l0 kq a0 x5_1 x6_1 = some (r1, r2, r3)) ∧ Aside0 (kq ≤ k) ∧ Drawn0 w w')
 case atStart => exact ⟨(0), (0), (by first | rfl | (simp; done) | (simp [*]; done)), (by first | rfl | (simp; done) | (simp [*]; done)), H', ⟨Nat.le_refl _⟩, by repeat (first | exact Drawn0.refl _ | apply Drawn0.step)⟩
 case round =>
  clear H'
  obtain ⟨x5_1, x6_1, rfl, rfl, HA, HK1, ⟨m1, rfl⟩⟩ := hrel
  cases gk with
  | zero => exact absurd HA.out (by simp [impl_digitsOf.l0])
  | succ k1 =>
   have H := HA.out
   clear HA
   simp only [impl_digitsOf.l0] at H
   have HC2 := Aside0.mk H
   clear H
   go_upto_region 2 with (fail)
   repeat (go_quiet (fail); go_upto_region 2 with (fail))
   go_cut [22] (fun v22 wc => ∃ (kq : Nat) (x22_1 : Bool), v22 = .bool x22_1 ∧ Aside0 (impl_digitsOf.j1 kq a0 x5_1 x6_1 x22_1 = some (r1, r2, r3)) ∧ Aside0 (kq ≤ k1) ∧ Drawn0 w wc)
   case first =>
    have H := HC2.out
    clear HC2
    by_cases c3 : x6_1 < (a0.size : Int)
    ·rw [if_pos c3] at H
     have c3b0 : decide (x6_1 < (a0.size : Int)) = true := decide_eq_true c3
     clear c3
     (first | rw [c3b0] | (simp only [i64_w, i32_w]; rw [c3b0]) | skip)
     revert H
     refine ifr fun c4 H => ?_
     have c4b0 : decide (0 ≤ x6_1) = true := decide_eq_true c4
     clear c4
     by_cases c6 : (bt a0 x6_1) ≥ 48
     ·rw [if_pos c6] at H
      have c6b0 : decide (48 ≤ (bt a0 x6_1)) = true := decide_eq_true c6
      clear c6
      have H' := Aside0.mk H
      clear H
      have p5 : 0 ≤ (x6_1 : Int) := ode
      have q5 : x6_1 < (a0.size : Int) := ode
      have hx5 := bt_at a0 x6_1
      replace p5 := eq_true p5
      replace q5 := eq_true q5
      have p7 : 0 ≤ (x6_1 : Int) := ode
      have q7 : x6_1 < (a0.size : Int) := ode
      have hx7 := bt_at a0 x6_1
      replace p7 := eq_true p7
      replace q7 := eq_true q7
      go_wp2
      repeat (go_quiet (fail); try go_wp2)
      go_meet
      case rel => exact ⟨_, (decide ((bt a0 x6_1) ≤ 57)), (by first | rfl | (simp; done) | (simp [*]; done)), H', ⟨by have := HK1.out; first | omega | exact Nat.le_refl _⟩, by repeat (first | exact Drawn0.refl _ | apply Drawn0.step)⟩
     ·rw [if_neg c6] at H
      have c6b0 : decide (48 ≤ (bt a0 x6_1)) = false := decide_eq_false c6
      clear c6
      have H' := Aside0.mk H
      clear H
      have p5 : 0 ≤ (x6_1 : Int) := ode
      have q5 : x6_1 < (a0.size : Int) := ode
      have hx5 := bt_at a0 x6_1
      replace p5 := eq_true p5
      replace q5 := eq_true q5
      go_wp2
      repeat (go_quiet (fail); try go_wp2)
      go_meet
      case rel => exact ⟨_, (false), (by first | rfl | (simp; done) | (simp [*]; done)), H', ⟨by have := HK1.out; first | omega | exact Nat.le_refl _⟩, by repeat (first | exact Drawn0.refl _ | apply Drawn0.step)⟩
    ·rw [if_neg c3] at H
     have c3b0 : decide (x6_1 < (a0.size : Int)) = false := decide_eq_false c3
     clear c3
     (first | rw [c3b0] | (simp only [i64_w, i32_w]; rw [c3b0]) | skip)
     have H' := Aside0.mk H
     clear H
     go_wp2
     repeat (go_quiet (fail); try go_wp2)
     go_meet
     case rel => exact ⟨_, (false), (by first | rfl | (simp; done) | (simp [*]; done)), H', ⟨by have := HK1.out; first | omega | exact Nat.le_refl _⟩, by repeat (first | exact Drawn0.refl _ | apply Drawn0.step)⟩
   case rest =>
    clear HC2
    try clear p2
    try clear c3
    try clear c3b0
    try clear c4
    try clear c4b0
    try clear p5
    try clear q5
    try clear hx5
    try clear c6
    try clear c6b0
    try clear p7
    try clear q7
    try clear hx7
    try clear p5
    try clear p7
    try clear q5
    try clear q7
    obtain ⟨kq, x22_1, rfl, HA, HJ1, ⟨mc1, rfl⟩⟩ := hcut
    cases kq with
    | zero => exact absurd HA.out (by simp [impl_digitsOf.j1])
    | succ kj1 =>
     have H := HA.out
     clear HA
     simp only [impl_digitsOf.j1] at H
     by_cases c8 : x22_1 = true
     ·subst c8
      have H1 : (if x6_1 = 9 then (none) else (if 0 ≤ x6_1 then (if x6_1 < (a0.size : Int) then (impl_digitsOf.l0 kj1 a0 (wrap64 ((wrap64 (10 * x5_1)) + (((bt a0 x6_1) - 48) % 256))) (wrap64 (x6_1 + 1))) else (none)) else (none))) = some (r1, r2, r3) := by rw [if_pos rfl] at H; exact H
      clear H
      have H := H1
      clear H1
      by_cases c9 : x6_1 = 9
      ·rw [if_pos c9] at H
       exact absurd H (by simp)
      ·rw [if_neg c9] at H
       have c9b0 : (x6_1 == 9) = false := beq_eq_false_iff_ne.mpr c9
       have c9b1 : (x6_1 != 9) = true := bne_iff_ne.mpr c9
       revert H
       refine ifr fun c10 H => ?_
       have c10b0 : decide (0 ≤ x6_1) = true := decide_eq_true c10
       clear c10
       revert H
       refine ifr fun c11 H => ?_
       have c11b0 : decide (x6_1 < (a0.size : Int)) = true := decide_eq_true c11
       clear c11
       have H' := Aside0.mk H
       clear H
       have p12 : 0 ≤ (x6_1 : Int) := ode
       have q12 : x6_1 < (a0.size : Int) := ode
       have hx12 := bt_at a0 x6_1
       replace p12 := eq_true p12
       replace q12 := eq_true q12
       go_wp2
       repeat (go_quiet (fail); try go_wp2)
       go_roundg kj1
       case measure => have := HK1.out; have := HJ1.out; omega
       case rel => exact ⟨(wrap64 ((wrap64 (10 * x5_1)) + (((bt a0 x6_1) - 48) % 256))), (wrap64 (x6_1 + 1)), (by first | rfl | (simp; done) | (simp [*]; done)), (by first | rfl | (simp; done) | (simp [*]; done)), H', ⟨by have := HK1.out; have := HJ1.out; omega⟩, by repeat (first | exact Drawn0.refl _ | apply Drawn0.step)⟩
     ·replace c8 := Bool.eq_false_iff.mpr c8
      subst c8
      have H1 : (if x6_1 = 0 then (none) else (if x6_1 > 1 then (if 0 < (a0.size : Int) then (if (bt a0 0) = 48 then (none) else (if 0 ≤ x6_1 then (if x6_1 ≤ (a0.size : Int) then (some (x5_1, a0.extract (x6_1 : Int).toNat a0.size, true)) else (none)) else (none))) else (none)) else (if 0 ≤ x6_1 then (if x6_1 ≤ (a0.size : Int) then (some (x5_1, a0.extract (x6_1 : Int).toNat a0.size, true)) else (none)) else (none)))) = some (r1, r2, r3) := by rw [if_neg (show ¬ (false = true) by decide)] at H; exact H
      clear H
      have H := H1
      clear H1
      by_cases c13 : x6_1 = 0
      ·rw [if_pos c13] at H
       exact absurd H (by simp)
      ·rw [if_neg c13] at H
       have c13b0 : (x6_1 == 0) = false := beq_eq_false_iff_ne.mpr c13
       have c13b1 : (x6_1 != 0) = true := bne_iff_ne.mpr c13
       by_cases c14 : x6_1 > 1
       ·rw [if_pos c14] at H
        have c14b0 : decide (1 < x6_1) = true := decide_eq_true c14
        clear c14
        revert H
        refine ifr fun c15 H => ?_
        have c15b0 : decide (0 < (a0.size : Int)) = true := decide_eq_true c15
        have c15b1 : decide (0 < a0.size) = true := decide_eq_true (by omega)
        clear c15
        by_cases c17 : (bt a0 0) = 48
        ·rw [if_pos c17] at H
         exact absurd H (by simp)
        ·rw [if_neg c17] at H
         have c17b0 : ((bt a0 0) == 48) = false := beq_eq_false_iff_ne.mpr c17
         have c17b1 : ((bt a0 0) != 48) = true := bne_iff_ne.mpr c17
         revert H
         refine ifr fun c18 H => ?_
         have c18b0 := eq_true c18
         have c18b1 : decide (0 ≤ x6_1) = true := decide_eq_true c18
         clear c18
         revert H
         refine ifr fun c19 H => ?_
         have c19b0 := eq_true c19
         have c19b1 : decide (x6_1 ≤ (a0.size : Int)) = true := decide_eq_true c19
         clear c19
         simp only [Option.some.injEq, Prod.mk.injEq] at H
         obtain ⟨rfl, rfl, rfl⟩ := H
         have p16 : 0 ≤ (0 : Int) := (by omega)
         have q16 : 0 < a0.size := (by have : (0 : Int) < (a0.size : Int) := ode; omega)
         have hx16 : ∀ h : 0 < a0.size, ((a0[0]'h).toNat : Int) = bt a0 0 := bt_at a0 0
         clear p16
         have qi16 : (0 < (a0.size : Int)) = True := eq_true (ode)
         replace q16 := eq_true q16
         go_wp2
         repeat (go_quiet (fail); try go_wp2)
         go_ret3
         exact ⟨by first | rfl | (simp; done) | (simp [*]; done), by repeat (first | exact Drawn0.refl _ | apply Drawn0.step)⟩
       ·rw [if_neg c14] at H
        have c14b0 : decide (1 < x6_1) = false := decide_eq_false c14
        clear c14
        by_cases c20 : 0 ≤ x6_1
        ·rw [if_pos c20] at H
         have c20b0 := eq_true c20
         have c20b1 : decide (0 ≤ x6_1) = true := decide_eq_true c20
         clear c20
         revert H
         refine ifr fun c21 H => ?_
         have c21b0 := eq_true c21
         have c21b1 : decide (x6_1 ≤ (a0.size : Int)) = true := decide_eq_true c21
         clear c21
         simp only [Option.some.injEq, Prod.mk.injEq] at H
         obtain ⟨rfl, rfl, rfl⟩ := H
         go_wp2
         repeat (go_quiet (fail); try go_wp2)
         go_ret3
         exact ⟨by first | rfl | (simp; done) | (simp [*]; done), by repeat (first | exact Drawn0.refl _ | apply Drawn0.step)⟩
        ·rw [if_neg c20] at H
         exact absurd H (by simp)

/-! ### impl_numberOf: function 93 -/
def impl_numberOf.f (k : Nat) (a0 : ByteArray) : Option (Int × Bool) := (impl_digitsOf.f k a0).bind fun bt351 => (if bt351.2.2 = true then (some (bt351.1, (bt351.2.1.toList == ([] : List UInt8)))) else (some (bt351.1, false)))
set_option maxHeartbeats 8000000 in
set_option maxRecDepth 100000 in
theorem impl_numberOf.calls (k : Nat) (a0 : ByteArray) (r1 : Int) (r2 : Bool) (w : World) (h : impl_numberOf.f k a0 = some (r1, r2)) :
  Calls Tryd.prog 93 #[.string a0] w fun e w' => e = .returned (.tuple #[.int .i64 r1, .bool r2]) ∧ Drawn0 w w' := by
 have H : ((impl_digitsOf.f k a0).bind fun bt351 => (if bt351.2.2 = true then (some (bt351.1, (bt351.2.1.toList == ([] : List UInt8)))) else (some (bt351.1, false)))) = some (r1, r2) := h
 clear h
 replace H := Option.bind_eq_some_iff.mp H
 obtain ⟨⟨t351, t352, t353⟩, A20, H⟩ := H
 replace H : (if t353 = true then (some (t351, (t352.toList == ([] : List UInt8)))) else (some (t351, false))) = some (r1, r2) := H
 have A2 := Aside0.mk A20
 clear A20
 by_cases c3 : t353 = true
 ·subst c3
  have H1 : (some (t351, (t352.toList == ([] : List UInt8)))) = some (r1, r2) := by rw [if_pos rfl] at H; exact H
  clear H
  have H := H1
  clear H1
  simp only [Option.some.injEq, Prod.mk.injEq] at H
  obtain ⟨rfl, rfl⟩ := H
  go_enter Tryd.func93, Tryd.ntmps93
  go_wp2_with (first | ((with_reducible refine gate_callee (f := 96) rfl ?_); refine gL 9 Tryd.func96 #[.string a0] ?_; (with_reducible refine (impl_digitsOf.calls k a0 t351 t352 true _ A2.out).mono ?_); rintro e w' ⟨rfl, ⟨nd, rfl⟩⟩; refine ⟨_, rfl, ?_⟩))
  go_ret2
  exact ⟨by first | rfl | (simp; done) | (simp [*]; done), by repeat (first | exact Drawn0.refl _ | apply Drawn0.step)⟩
 ·replace c3 := Bool.eq_false_iff.mpr c3
  subst c3
  have H1 : (some (t351, false)) = some (r1, r2) := by rw [if_neg (show ¬ (false = true) by decide)] at H; exact H
  clear H
  have H := H1
  clear H1
  simp only [Option.some.injEq, Prod.mk.injEq] at H
  obtain ⟨rfl, rfl⟩ := H
  go_enter Tryd.func93, Tryd.ntmps93
  go_wp2_with (first | ((with_reducible refine gate_callee (f := 96) rfl ?_); refine gL 9 Tryd.func96 #[.string a0] ?_; (with_reducible refine (impl_digitsOf.calls k a0 t351 t352 false _ A2.out).mono ?_); rintro e w' ⟨rfl, ⟨nd, rfl⟩⟩; refine ⟨_, rfl, ?_⟩))
  go_ret2
  exact ⟨by first | rfl | (simp; done) | (simp [*]; done), by repeat (first | exact Drawn0.refl _ | apply Drawn0.step)⟩
end Go.Proofs.YtkfdfpcdcabcoaaDoor.QDesx
