/- Walks: the printed functions, and that each call comes to them (11). -/
import Derived.Test.YtkfdfpcdcabcoaaDoorV
import Derived.Test.YtkfdfpcdcabcoaaDoorGA
import Derived.Test.YtkfdfpcdcabcoaaDoorGH
import Derived.Test.YtkfdfpcdcabcoaaDoorGI
import Derived.Test.YtkfdfpcdcabcoaaDoorGJ
namespace Go.Proofs.YtkfdfpcdcabcoaaDoor.QName
open Go.RowKit Go.Proofs.YtkfdfpcdcabcoaaDoorW.PrintWords Go.Proofs.YtkfdfpcdcabcoaaDoorW.PrintLast Go.Proofs.YtkfdfpcdcabcoaaDoorW.PrintMore
attribute [local go_sem] max2_int min2_int max_two min_two max_three min_three max_four min_four
set_option linter.unusedVariables false
set_option linter.unusedSimpArgs false

/-! ### impl_IsCurve: function 21 -/
mutual
def impl_IsCurve.j0 : Nat → Int → Bool → List (S74) → List (List Int) → Option (Bool)
 | 0, _, _, _, _ => none
 | k + 1, x3, x25, x449000, x449001 => if x25 = true then (some false) else (impl_IsCurve.l0 k x3 (([] : List (List Int))) x449000 (x449000.length : Int) 0 x449000 x449001)
def impl_IsCurve.l0 : Nat → Int → List (List Int) → List (S74) → Int → Int → List (S74) → List (List Int) → Option (Bool)
 | 0, _, _, _, _, _, _, _ => none
 | k + 1, x3, x4, x28, x29, x30, x449000, x449001 => if x30 < x29 then (if 0 ≤ x30 then (if x30 < (x28.length : Int) then ((impl_IsBranch.f k ((rd_T74 x28 x30).f0)).bind fun t455 => (if t455 = true then ((impl_proximatesOf.f k ((rd_T74 x28 x30).f0) 201).bind fun t456 => ((impl_codeOf.f k t456).bind fun t459 => (if x4.length < 5864062014805 then (impl_IsCurve.l0 k x3 (x4 ++ [t459]) x28 x29 (wrap64 (x30 + 1)) x449000 x449001) else (none)))) else (some false))) else (none)) else (none)) else (impl_IsCurve.l1 k x3 x4 x3 0 x449000 x449001)
def impl_IsCurve.l1 : Nat → Int → List (List Int) → Int → Int → List (S74) → List (List Int) → Option (Bool)
 | 0, _, _, _, _, _, _ => none
 | k + 1, x3, x4, x44, x45, x449000, x449001 => if x45 < x44 then (impl_IsCurve.l2 k x3 x4 x45 x44 x45 x3 0 x449000 x449001) else (some true)
def impl_IsCurve.l2 : Nat → Int → List (List Int) → Int → Int → Int → Int → Int → List (S74) → List (List Int) → Option (Bool)
 | 0, _, _, _, _, _, _, _, _, _ => none
 | k + 1, x3, x4, x7, x44, x45, x48, x49, x449000, x449001 => if x49 < x48 then (if x7 = x49 then (impl_IsCurve.l2 k x3 x4 x7 x44 x45 x48 (wrap64 (x49 + 1)) x449000 x449001) else (if 0 ≤ x7 then (if x7 < (x4.length : Int) then (if 0 ≤ x49 then (if x49 < (x4.length : Int) then (if x7 < (x449001.length : Int) then (if x49 < ((rd_L1 x449001 x7).length : Int) then ((impl_canShare.f k (rd_L1 x4 x7) (rd_L1 x4 x49) (rd (rd_L1 x449001 x7) x49)).bind fun t469 => (if t469 = true then (impl_IsCurve.l3 k x3 x4 x7 x49 x44 x45 x48 x49 x3 0 x449000 x449001) else (some false))) else (none)) else (none)) else (none)) else (none)) else (none)) else (none))) else (impl_IsCurve.l1 k x3 x4 x44 (wrap64 (x45 + 1)) x449000 x449001)
def impl_IsCurve.l3 : Nat → Int → List (List Int) → Int → Int → Int → Int → Int → Int → Int → Int → List (S74) → List (List Int) → Option (Bool)
 | 0, _, _, _, _, _, _, _, _, _, _, _, _ => none
 | k + 1, x3, x4, x7, x8, x44, x45, x48, x49, x73, x74, x449000, x449001 => if x74 < x73 then (if x74 = x7 then (impl_IsCurve.l3 k x3 x4 x7 x8 x44 x45 x48 x49 x73 (wrap64 (x74 + 1)) x449000 x449001) else (if x74 = x8 then (impl_IsCurve.l3 k x3 x4 x7 x8 x44 x45 x48 x49 x73 (wrap64 (x74 + 1)) x449000 x449001) else (if 0 ≤ x7 then (if x7 < (x449001.length : Int) then (if 0 ≤ x8 then (if x8 < ((rd_L1 x449001 x7).length : Int) then (if 0 ≤ x74 then (if x74 < ((rd_L1 x449001 x7).length : Int) then (if x74 < (x449001.length : Int) then (if x8 < ((rd_L1 x449001 x74).length : Int) then (if (rd (rd_L1 x449001 x7) x8) < (mn (rd (rd_L1 x449001 x7) x74) (rd (rd_L1 x449001 x74) x8)) then (some false) else (impl_IsCurve.l3 k x3 x4 x7 x8 x44 x45 x48 x49 x73 (wrap64 (x74 + 1)) x449000 x449001)) else (none)) else (none)) else (none)) else (none)) else (none)) else (none)) else (none)) else (none)))) else (impl_IsCurve.l2 k x3 x4 x7 x44 x45 x48 (wrap64 (x49 + 1)) x449000 x449001)
end
def impl_IsCurve.f (k : Nat) (l0_0 : List (S74)) (l0_1 : List (List Int)) : Option (Bool) := if (l0_0.length : Int) < 1 then (impl_IsCurve.j0 k (l0_0.length : Int) true l0_0 l0_1) else (if (l0_0.length : Int) > 6 then (impl_IsCurve.j0 k (l0_0.length : Int) true l0_0 l0_1) else ((impl_isTable.f k l0_1 (l0_0.length : Int)).bind fun t449 => (impl_IsCurve.j0 k (l0_0.length : Int) (!t449) l0_0 l0_1)))
def impl_IsCurve.T19 : Bool × List (List Nat × List Nat) := (true, [([], []), ([], []), ([0, 1], [0, 1]), ([2], [2]), ([], []), ([], []), ([4, 5], [4, 5]), ([6], [6]), ([], []), ([8], [8]), ([], []), ([9, 10], [9, 10]), ([11], [11]), ([], []), ([12, 13], [12, 13]), ([14], [14]), ([3, 7, 15], [3, 7, 15]), ([16], [16])])
def impl_IsCurve.B19 : List Nat := [0, 0, 3, 7, 0, 0, 48, 112, 0, 256, 0, 1792, 3840, 0, 16128, 32512, 65535, 131071]
theorem impl_IsCurve.tab19 : rtab .any (opsOf Tryd.f21 19) = impl_IsCurve.T19 := by kernel_rfl
theorem impl_IsCurve.bits19 : waitsOk impl_IsCurve.T19.2 impl_IsCurve.B19 = true := by kernel_rfl
def impl_IsCurve.T24 : Bool × List (List Nat × List Nat) := (true, [([], []), ([], []), ([0, 1], [0, 1]), ([2], [2]), ([3], [3]), ([3], [3]), ([4, 5, 3], [3, 4, 5]), ([3, 6], [3, 6]), ([7, 3], [7]), ([8], [8]), ([9, 8], [8, 9]), ([8], [8]), ([10, 11, 8], [8, 10, 11]), ([12, 8], [8, 12]), ([8], [8]), ([13, 14, 8], [8, 13, 14]), ([15, 8], [8, 15]), ([8], [8]), ([17, 8], [8, 17]), ([8], [8]), ([18, 19, 8], [8, 18, 19]), ([20, 8], [8, 20]), ([8], [8]), ([21, 22, 8], [8, 21, 22]), ([23, 8], [8, 23]), ([8], [8]), ([25, 8], [8, 25]), ([8], [8]), ([26, 27, 8], [8, 26, 27]), ([28, 8], [8, 28]), ([8], [8]), ([29, 30, 8], [8, 29, 30]), ([31, 8], [8, 31]), ([24, 32, 8], [8, 24, 32]), ([16, 33, 8], [8, 16, 33]), ([8, 34], [8, 34])])
def impl_IsCurve.B24 : List Nat := [0, 0, 3, 7, 15, 15, 63, 127, 255, 511, 1023, 511, 4095, 8191, 511, 32767, 65535, 511, 131583, 511, 918015, 1966591, 511, 8258047, 16646655, 511, 33554943, 511, 234881535, 503316991, 511, 2113929727, 4261413375, 8589804031, 17179869183, 34359738367]
theorem impl_IsCurve.tab24 : rtab .any (opsOf Tryd.f21 24) = impl_IsCurve.T24 := by kernel_rfl
theorem impl_IsCurve.bits24 : waitsOk impl_IsCurve.T24.2 impl_IsCurve.B24 = true := by kernel_rfl
set_option maxHeartbeats 8000000 in
set_option maxRecDepth 100000 in
theorem impl_IsCurve.calls (k : Nat) (A0_0 : Option Addr) (c0_0 : Nat) (l0_0 : List (S74)) (A0_1 : Option Addr) (c0_1 : Nat) (l0_1 : List (List Int)) (r : Bool) (w : World) (hr0_0 : Kd.C k74 w A0_0 l0_0.length l0_0) (hc0_0 : l0_0.length ≤ c0_0) (hr0_1 : Kd.C (Kd.slice 2 (Kd.int .i64)) w A0_1 l0_1.length l0_1) (hc0_1 : l0_1.length ≤ c0_1) (h : impl_IsCurve.f k l0_0 l0_1 = some r) :
  Calls Tryd.prog 21 #[.agg #[.slice A0_0 l0_0.length c0_0, .slice A0_1 l0_1.length c0_1]] w fun e w' => e = .returned (.bool r) ∧ Below w.heap.size w w' := by
 have hu31 := Tryd.underlying31
 have hu74 := Tryd.underlying74
 have HR0_0 := Aside0.mk hr0_0
 have HC0_0 := Aside0.mk hc0_0
 clear hr0_0 hc0_0
 have HR0_1 := Aside0.mk hr0_1
 have HC0_1 := Aside0.mk hc0_1
 clear hr0_1 hc0_1
 have HB := Aside0.mk (Below.refl w.heap.size w)
 have H : (if (l0_0.length : Int) < 1 then (impl_IsCurve.j0 k (l0_0.length : Int) true l0_0 l0_1) else (if (l0_0.length : Int) > 6 then (impl_IsCurve.j0 k (l0_0.length : Int) true l0_0 l0_1) else ((impl_isTable.f k l0_1 (l0_0.length : Int)).bind fun t449 => (impl_IsCurve.j0 k (l0_0.length : Int) (!t449) l0_0 l0_1)))) = some r := h
 clear h
 have HC2 := Aside0.mk H
 clear H
 go_enter Tryd.func21, Tryd.ntmps21
 go_upto_region 2 with (first | ((with_reducible refine gate_dst (N := 1) rfl ?_); (try (refine gate_guard (by rfl) ?_; dsimp only)); refine box_event ?hg (N := 1) ?hd (cs := #[.slice A0_0 l0_0.length c0_0, .slice A0_1 l0_1.length c0_1]) (t := 31) ?hr ?_; (case hd => rfl); (case hg => rfl); (case hr => first | (go_simp; done) | (go_simp; rfl)); intro gb448 hg w3 hbox hb; have BK448 := Aside0.mk (hbox); have GW448 := Aside0.mk ((by rw [hg]; exact (below_size bq) : w.heap.size ≤ gb448)); have GE448 := Aside0.mk ((by rw [hg]; exact (below_size bq) : w.heap.size ≤ gb448)); replace HB := Aside0.mk (below_step bq hb); clear hb hbox hg; have hcz4_0 := bc0 BK448; have hcz4_1 := bc1 BK448; have hfz4_0 := blk_frozen BK448.out 0; have hfz4_1 := blk_frozen BK448.out 1))
 (try simp only [Act.put, List.setIfInBounds_toArray, List.set_cons_zero, List.set_cons_succ])
 go_cut [25] (fun v25 wc => ∃ (kq : Nat) (x25_1 : Bool), v25 = .bool x25_1 ∧ Aside0 (impl_IsCurve.j0 kq (l0_0.length : Int) x25_1 l0_0 l0_1 = some r) ∧ Aside0 (kq ≤ k) ∧ Aside0 (wc.heap[gb448]? = some (.cells #[(.slice A0_0 l0_0.length c0_0), (.slice A0_1 l0_1.length c0_1)] 31 (0, 0))) ∧ Aside0 (Below w.heap.size w wc))
 case first =>
  have H := HC2.out
  clear HC2
  by_cases c5 : (l0_0.length : Int) < 1
  ·rw [if_pos c5] at H
   have c5b0 : decide ((l0_0.length : Int) < 1) = true := decide_eq_true c5
   have c5b1 : decide (l0_0.length < 1) = true := decide_eq_true (by omega)
   clear c5
   (first | rw [c5b0] | (simp only [i64_w, i32_w]; rw [c5b0]) | skip)
   have H' := Aside0.mk H
   clear H
   go_wp2
   go_meet
   case rel => exact ⟨_, (true), (by first | rfl | (simp; done) | (simp [*]; done)), H', ⟨by first | omega | exact Nat.le_refl _⟩, ⟨bk BK448⟩, ⟨bq⟩⟩
  ·rw [if_neg c5] at H
   have c5b0 : decide ((l0_0.length : Int) < 1) = false := decide_eq_false c5
   have c5b1 : decide (l0_0.length < 1) = false := decide_eq_false (by omega)
   clear c5
   (first | rw [c5b0] | (simp only [i64_w, i32_w]; rw [c5b0]) | skip)
   by_cases c6 : (l0_0.length : Int) > 6
   ·rw [if_pos c6] at H
    have c6b0 : decide (6 < (l0_0.length : Int)) = true := decide_eq_true c6
    have c6b1 : decide (6 < l0_0.length) = true := decide_eq_true (by omega)
    clear c6
    have H' := Aside0.mk H
    clear H
    go_wp2
    go_meet
    case rel => exact ⟨_, (true), (by first | rfl | (simp; done) | (simp [*]; done)), H', ⟨by first | omega | exact Nat.le_refl _⟩, ⟨bk BK448⟩, ⟨bq⟩⟩
   ·rw [if_neg c6] at H
    have c6b0 : decide (6 < (l0_0.length : Int)) = false := decide_eq_false c6
    have c6b1 : decide (6 < l0_0.length) = false := decide_eq_false (by omega)
    clear c6
    replace H := Option.bind_eq_some_iff.mp H
    obtain ⟨t449, A70, H⟩ := H
    replace H : (impl_IsCurve.j0 k (l0_0.length : Int) (!t449) l0_0 l0_1) = some r := H
    have A7 := Aside0.mk A70
    clear A70
    have H' := Aside0.mk H
    clear H
    have hcz8_0 := bc0 BK448
    have hcz8_1 := bc1 BK448
    have hfz8_0 := blk_frozen BK448.out 0
    have hfz8_1 := blk_frozen BK448.out 1
    go_wp2_with (first | (go_at_call 51; (with_reducible refine (impl_isTable.calls k _ _ l0_1 (l0_0.length : Int) t449 _ ?side1 ?side2 A7.out).mono ?_); (case side1 => exact kc HR0_1); (case side2 => exact HC0_1.out); rintro e w' ⟨rfl, ⟨nd, rfl⟩⟩))
    go_meet
    case rel => exact ⟨_, (!t449), (by first | rfl | (simp; done) | (simp [*]; done)), H', ⟨by first | omega | exact Nat.le_refl _⟩, ⟨bk BK448⟩, ⟨bq⟩⟩
 case rest =>
  clear HC2
  try clear c2
  try clear p2
  try clear c5
  try clear c5b0
  try clear c5b1
  try clear c6
  try clear c6b0
  try clear c6b1
  try clear hcz4_0
  try clear hcz4_1
  try clear hcz8_0
  try clear hcz8_1
  try clear hfz4_0
  try clear hfz4_1
  try clear hfz8_0
  try clear hfz8_1
  obtain ⟨kq, x25_1, rfl, HA, HJ1, BK448, HB⟩ := hcut
  cases kq with
  | zero => exact absurd HA.out (by simp [impl_IsCurve.j0])
  | succ kj1 =>
   have H := HA.out
   clear HA
   simp only [impl_IsCurve.j0] at H
   by_cases c9 : x25_1 = true
   ·subst c9
    have H1 : (some false) = some r := by rw [if_pos rfl] at H; exact H
    clear H
    have H := H1
    clear H1
    obtain rfl := Option.some.inj H
    go_wp2
    go_ret
    exact ⟨eq_, bq⟩
   ·replace c9 := Bool.eq_false_iff.mpr c9
    subst c9
    have H1 : (impl_IsCurve.l0 kj1 (l0_0.length : Int) (([] : List (List Int))) l0_0 (l0_0.length : Int) 0 l0_0 l0_1) = some r := by rw [if_neg (show ¬ (false = true) by decide)] at H; exact H
    clear H
    have H := H1
    clear H1
    obtain ⟨y450, hy450⟩ : ∃ y_ : List (List Int), y_ = (([] : List (List Int))) := ⟨_, rfl⟩
    replace H : (impl_IsCurve.l0 kj1 (l0_0.length : Int) y450 l0_0 (l0_0.length : Int) 0 l0_0 l0_1) = some r := by first | (rw [hy450]; with_reducible exact H) | (have H2_ := (Option.bind_some _ _).symm.trans H; rw [hy450]; with_reducible exact H2_) | (have H2_ := (Option.bind_some _ _).symm.trans H; with_reducible exact H2_) | with_reducible exact H | (rw [hy450]; exact H) | exact H
    have Ny450 := Aside0.mk hy450
    clear hy450
    have H' := Aside0.mk H
    clear H
    go_wp2_with (first | ((with_reducible refine gate_dst (N := 26) rfl ?_); (try (refine gate_guard (by rfl) ?_; dsimp only)); refine Kd.S_lit (Kd.slice 2 (Kd.int .i64)) _ 35 ?hg (N := 26) ?hd (xs := ([] : List (List Int))) (inner := []) (ok := fun _ => True) (okp := fun _ => True) ?hr ?hp (fun _ hk => hk) trivial (Below.refl _ _) (Nat.le_refl _) (by simp) ?_; (case hd => rfl); (case hg => rfl); (case hr => first | (go_simp; done) | (go_simp; rfl)); (case hp => exact (Reps.none _ _)); intro v451 w10 ho11 hb hg_ hnew_; clear hg_ hnew_; (first | rw [← Ny450.out] at ho11 | (simp only [Int.reduceToNat] at ho11; rw [← Ny450.out] at ho11)); have HO452 := Aside0.mk (Kd.S_lower ho11 (below_size bq)); replace BK448 := Aside0.mk (blk_below (g := gb448) (o := .cells #[.slice A0_0 l0_0.length c0_0, .slice A0_1 l0_1.length c0_1] 31 (0, 0)) (bk BK448) hb); replace HB := Aside0.mk (below_step bq hb); clear hb ho11; have hcz12_0 := bc0 BK448; have hcz12_1 := bc1 BK448; have hfz12_0 := blk_frozen BK448.out 0; have hfz12_1 := blk_frozen BK448.out 1))
    go_loopg [4, 30] kj1 (fun kq v4 v30 w' => ∃ (x4_2 : List (List Int)) (x30_2 : Int), v30 = .int .i64 x30_2 ∧ Aside0 (impl_IsCurve.l0 kq (l0_0.length : Int) x4_2 l0_0 (l0_0.length : Int) x30_2 l0_0 l0_1 = some r) ∧ Aside0 (kq ≤ kj1) ∧ Aside0 (Kd.S (Kd.slice 2 (Kd.int .i64)) 35 w' w.heap.size (fun _ => True) v4 x4_2) ∧ Aside0 (w'.heap[gb448]? = some (.cells #[(.slice A0_0 l0_0.length c0_0), (.slice A0_1 l0_1.length c0_1)] 31 (0, 0))) ∧ Aside0 (Below w.heap.size w w'))
    case atStart => exact ⟨(y450), (0), (by first | rfl | (simp; done) | (simp [*]; done)), H', ⟨Nat.le_refl _⟩, ⟨by (with_reducible repeat (first | apply Kd.S_alloc | apply Kd.S_drewN | apply Kd.S_drew)); exact HO452.out⟩, ⟨bk BK448⟩, ⟨bq⟩⟩
    case round =>
     clear H'
     try clear c2
     try clear p2
     try clear c5
     try clear c5b0
     try clear c5b1
     try clear c6
     try clear c6b0
     try clear c6b1
     try clear c9
     try clear hcz12_0
     try clear hcz12_1
     try clear hcz4_0
     try clear hcz4_1
     try clear hcz8_0
     try clear hcz8_1
     try clear hfz12_0
     try clear hfz12_1
     try clear hfz4_0
     try clear hfz4_1
     try clear hfz8_0
     try clear hfz8_1
     try clear p2
     obtain ⟨x4_2, x30_2, rfl, HA, HK2, HO_4, BK448, HB⟩ := hrel
     cases gk with
     | zero => exact absurd HA.out (by simp [impl_IsCurve.l0])
     | succ k2 =>
      have H := HA.out
      clear HA
      simp only [impl_IsCurve.l0] at H
      by_cases c13 : x30_2 < (l0_0.length : Int)
      ·rw [if_pos c13] at H
       have c13b0 : decide (x30_2 < (l0_0.length : Int)) = true := decide_eq_true c13
       clear c13
       revert H
       refine ifr fun c14 H => ?_
       have c14b0 : decide (0 ≤ x30_2) = true := decide_eq_true c14
       clear c14
       revert H
       refine ifr fun c15 H => ?_
       have c15b0 : decide (x30_2 < (l0_0.length : Int)) = true := decide_eq_true c15
       clear c15
       replace H := Option.bind_eq_some_iff.mp H
       obtain ⟨t455, A160, H⟩ := H
       replace H : (if t455 = true then ((impl_proximatesOf.f k2 ((rd_T74 l0_0 x30_2).f0) 201).bind fun t456 => ((impl_codeOf.f k2 t456).bind fun t459 => (if x4_2.length < 5864062014805 then (impl_IsCurve.l0 k2 (l0_0.length : Int) (x4_2 ++ [t459]) l0_0 (l0_0.length : Int) (wrap64 (x30_2 + 1)) l0_0 l0_1) else (none)))) else (some false)) = some r := H
       have A16 := Aside0.mk A160
       clear A160
       by_cases c17 : t455 = true
       ·subst c17
        have H1 : ((impl_proximatesOf.f k2 ((rd_T74 l0_0 x30_2).f0) 201).bind fun t456 => ((impl_codeOf.f k2 t456).bind fun t459 => (if x4_2.length < 5864062014805 then (impl_IsCurve.l0 k2 (l0_0.length : Int) (x4_2 ++ [t459]) l0_0 (l0_0.length : Int) (wrap64 (x30_2 + 1)) l0_0 l0_1) else (none)))) = some r := by rw [if_pos rfl] at H; exact H
        clear H
        have H := H1
        clear H1
        replace H := Option.bind_eq_some_iff.mp H
        obtain ⟨t456, A180, H⟩ := H
        replace H : ((impl_codeOf.f k2 t456).bind fun t459 => (if x4_2.length < 5864062014805 then (impl_IsCurve.l0 k2 (l0_0.length : Int) (x4_2 ++ [t459]) l0_0 (l0_0.length : Int) (wrap64 (x30_2 + 1)) l0_0 l0_1) else (none))) = some r := H
        have A18 := Aside0.mk A180
        clear A180
        replace H := Option.bind_eq_some_iff.mp H
        obtain ⟨t459, A190, H⟩ := H
        replace H : (if x4_2.length < 5864062014805 then (impl_IsCurve.l0 k2 (l0_0.length : Int) (x4_2 ++ [t459]) l0_0 (l0_0.length : Int) (wrap64 (x30_2 + 1)) l0_0 l0_1) else (none)) = some r := H
        have A19 := Aside0.mk A190
        clear A190
        revert H
        refine ifr fun c20 H => ?_
        have LMc20 := Aside0.mk c20
        clear c20
        obtain ⟨y462, hy462⟩ : ∃ y_ : List (List Int), y_ = (x4_2 ++ [t459]) := ⟨_, rfl⟩
        replace H : (impl_IsCurve.l0 k2 (l0_0.length : Int) y462 l0_0 (l0_0.length : Int) (wrap64 (x30_2 + 1)) l0_0 l0_1) = some r := by first | (rw [hy462]; with_reducible exact H) | (have H2_ := (Option.bind_some _ _).symm.trans H; rw [hy462]; with_reducible exact H2_) | (have H2_ := (Option.bind_some _ _).symm.trans H; with_reducible exact H2_) | with_reducible exact H | (rw [hy462]; exact H) | exact H
        have Ny462 := Aside0.mk hy462
        clear hy462
        have H' := Aside0.mk H
        clear H
        have p453 : 0 ≤ (x30_2 : Int) := ode
        have q453 : x30_2 < (l0_0.length : Int) := ode
        obtain ⟨ad453, A453_0, c453_0, e453, hx453_0, hl453_0, hi453_0⟩ := at_T74 HR0_0.out x30_2 p453 q453
        cases e453
        try replace hx453_0 := (HB.out.cell (World.block_lt_of_cell? w _ hx453_0)).trans hx453_0
        have HR453_0 := Aside0.mk hi453_0
        have HC453_0 := Aside0.mk hl453_0
        clear hi453_0 hl453_0
        replace p453 := eq_true p453
        replace q453 := eq_true q453
        go_wp2_with (first | ((with_reducible refine gate_dst (N := 6) rfl ?_); (try (refine gate_guard (by rfl) ?_; dsimp only)); refine box_event ?hg (N := 6) ?hd (cs := #[.slice none 0 0]) (t := 74) ?hr ?_; (case hd => rfl); (case hg => rfl); (case hr => first | (go_simp; done) | (go_simp; rfl)); intro gb454 hg w21 hbox hb; replace HO_4 := Aside0.mk (Kd.S_below (by (with_reducible repeat (first | apply Kd.S_alloc | apply Kd.S_drewN | apply Kd.S_drew)); exact HO_4.out) hb); have BK454 := Aside0.mk (hbox); have GW454 := Aside0.mk ((by rw [hg]; exact (below_size bq) : w.heap.size ≤ gb454)); have GE454 := Aside0.mk ((by rw [hg]; exact (below_size bq) : w.heap.size ≤ gb454)); replace HB := Aside0.mk (below_step bq hb); have NB448_454 := Aside0.mk ((by rw [hg]; exact Nat.ne_of_lt (blk_lt (g := gb448) (o := .cells #[.slice (some ad453) l0_0.length c0_0, .slice A0_1 l0_1.length c0_1] 31 (0, 0)) (bk BK448)) : gb448 ≠ gb454)); have NB454_448 := Aside0.mk ((by rw [hg]; exact Nat.ne_of_gt (blk_lt (g := gb448) (o := .cells #[.slice (some ad453) l0_0.length c0_0, .slice A0_1 l0_1.length c0_1] 31 (0, 0)) (bk BK448)) : gb454 ≠ gb448)); replace BK448 := Aside0.mk (blk_below (g := gb448) (o := .cells #[.slice (some ad453) l0_0.length c0_0, .slice A0_1 l0_1.length c0_1] 31 (0, 0)) (bk BK448) hb); clear hb hbox hg; have hnb22 := NB454_448.out; have hnc22 := NB448_454.out; have hcz23_0 := bc0 BK454; have hfz23_0 := blk_frozen BK454.out 0) | ((with_reducible refine gate_callee (f := 52) rfl ?_); refine gL 35 Tryd.func52 #[.agg #[.slice A453_0 ((rd_T74 l0_0 x30_2).f0).length c453_0]] ?_; (with_reducible refine (impl_IsBranch.calls k2 _ _ ((rd_T74 l0_0 x30_2).f0) true _ ?side1 ?side2 A16.out).mono ?_); (case side1 => exact Kd.C_below HR453_0.out bq); (case side2 => exact HC453_0.out); rintro e w24 ⟨rfl, hb⟩; refine ⟨_, rfl, ?_⟩; replace HO_4 := Aside0.mk (Kd.S_below (by (with_reducible repeat (first | apply Kd.S_alloc | apply Kd.S_drewN | apply Kd.S_drew)); exact (Kd.S_mono (Kd.S_far (p := ⟨gb454, 0, none⟩) (Kd.S_types HO_4.out BK454.out (by decide)) (fun _ hk => hk.2) (.slice A453_0 ((rd_T74 l0_0 x30_2).f0).length c453_0)) (fun _ h_ => h_.1))) hb); replace BK448 := Aside0.mk (blk_below (g := gb448) (o := .cells #[.slice (some ad453) l0_0.length c0_0, .slice A0_1 l0_1.length c0_1] 31 (0, 0)) (by (with_reducible repeat (first | refine blk_drewN ?_ _ | refine blk_drew ?_ | refine blk_alloc ?_ _)); refine blk_far ?_ NB448_454.out _; (with_reducible repeat (first | refine blk_drewN ?_ _ | refine blk_drew ?_ | refine blk_alloc ?_ _)); exact BK448.out) hb); replace BK454 := Aside0.mk (blk_below (g := gb454) (o := .cells #[.slice A453_0 ((rd_T74 l0_0 x30_2).f0).length c453_0] 74 (0, 0)) (by (with_reducible repeat (first | refine blk_drewN ?_ _ | refine blk_drew ?_ | refine blk_alloc ?_ _)); refine blk_put (cs := #[.slice none 0 0]) ?_ 0 _ rfl; (with_reducible repeat (first | refine blk_drewN ?_ _ | refine blk_drew ?_ | refine blk_alloc ?_ _)); exact BK454.out) hb); replace HB := Aside0.mk (below_step bq hb); (try clear hb); (try clear hk); have hcz25_0 := bc0 BK454; have hfz25_0 := blk_frozen BK454.out 0) | ((with_reducible refine gate_callee (f := 54) rfl ?_); refine gL 39 Tryd.func54 #[.agg #[.slice A453_0 ((rd_T74 l0_0 x30_2).f0).length c453_0], .int .i64 201] ?_; (with_reducible refine (impl_proximatesOf.calls k2 _ _ ((rd_T74 l0_0 x30_2).f0) 201 t456 _ ?side1 ?side2 A18.out).mono ?_); (case side1 => exact kc HR453_0); (case side2 => exact HC453_0.out); rintro e w26 ⟨v457, rfl, ho0, hb⟩; refine ⟨_, rfl, ?_⟩; have HO458 := Aside0.mk (Kd.S_lower (Kd.S_new' ho0 (Kd.S_lt (by (with_reducible repeat (first | apply Kd.S_alloc | apply Kd.S_drewN | apply Kd.S_drew)); exact HO_4.out))) (below_size bq)); replace HO_4 := Aside0.mk (Kd.S_elder' (by (with_reducible repeat (first | apply Kd.S_alloc | apply Kd.S_drewN | apply Kd.S_drew)); exact HO_4.out) (Kd.S_base ho0) hb); replace BK448 := Aside0.mk (blk_below (g := gb448) (o := .cells #[.slice (some ad453) l0_0.length c0_0, .slice A0_1 l0_1.length c0_1] 31 (0, 0)) (bk BK448) hb); replace BK454 := Aside0.mk (blk_below (g := gb454) (o := .cells #[.slice A453_0 ((rd_T74 l0_0 x30_2).f0).length c453_0] 74 (0, 0)) (bk BK454) hb); replace HB := Aside0.mk (below_step bq hb); (try clear hb); (try clear hk); (try clear ho0); obtain ⟨Ao27, co27, eo27⟩ := Kd.S_slice HO458.out; subst eo27) | ((with_reducible refine gate_callee (f := 53) rfl ?_); refine gL 40 Tryd.func53 #[.slice Ao27 t456.length co27] ?_; (with_reducible refine (impl_codeOf.calls k2 _ _ t456 t459 _ ?side1 ?side2 A19.out).mono ?_); (case side1 => repeat (first | exact (Kd.S_reads' HO458.out).2.2 | (with_reducible refine Kd.C_alloc ?_ _) | (with_reducible refine Kd.C_drewN ?_ _) | (with_reducible refine Kd.C_drew ?_))); (case side2 => exact (Kd.S_reads' HO458.out).2.1); rintro e w28 ⟨v460, rfl, ho0, hb⟩; refine ⟨_, rfl, ?_⟩; replace HO_4 := Aside0.mk (Kd.S_elder' (by (with_reducible repeat (first | apply Kd.S_alloc | apply Kd.S_drewN | apply Kd.S_drew)); exact HO_4.out) (Kd.R_base ho0) hb); replace HO458 := Aside0.mk (Kd.S_elder' (by (with_reducible repeat (first | apply Kd.S_alloc | apply Kd.S_drewN | apply Kd.S_drew)); exact HO458.out) (Kd.R_base ho0) hb); have HO461 := Aside0.mk (Kd.R_lower ho0 (below_size bq)); replace BK448 := Aside0.mk (blk_below (g := gb448) (o := .cells #[.slice (some ad453) l0_0.length c0_0, .slice A0_1 l0_1.length c0_1] 31 (0, 0)) (bk BK448) hb); replace BK454 := Aside0.mk (blk_below (g := gb454) (o := .cells #[.slice A453_0 ((rd_T74 l0_0 x30_2).f0).length c453_0] 74 (0, 0)) (bk BK454) hb); replace HB := Aside0.mk (below_step bq hb); (try clear hb); (try clear hk); (try clear ho0); obtain ⟨Ao30, co30, eo30⟩ := Kd.R_slice HO461.out; subst eo30) | ((with_reducible refine gate_builtin (b := .append) (xs := #[.tmp 37, .tmp 41]) rfl ?_); (try (refine gate_guard (by rfl) ?_; dsimp only)); at_builtin; refine Kd.S_append (Kd.slice 2 (Kd.int .i64)) (w0 := w) w.heap.size rfl (.tmp 37) (.tmp 41) 23 35 (.slice none 0 0) 24 rfl Tryd.underlying23 info35 rfl (by decide) (by omega) u4 x4_2 t459 [.slice Ao30 t459.length co30] (fun k_ => some k_ ≠ (.slice Ao27 t456.length co27 : Value).ownBlock) (fun k_ => some k_ = (.slice Ao30 t459.length co30 : Value).ownBlock) rfl rfl ?aP (fun k_ hk_ => ((Kd.R_mono (ok' := fun k_ => ((fun k_ => some k_ ≠ (.slice Ao27 t456.length co27 : Value).ownBlock)) k_ ∧ some k_ ≠ (u4 : Value).ownBlock) (Kd.R_apart' (Kd.R_apart' (HO461.out) (Kd.S_typed HO458.out) (by decide)) (Kd.S_typed HO_4.out) (by decide)) (fun k_ hk => ⟨hk.1.2, hk.2⟩))).1 k_ hk_.symm) ?aF ?aO ?aB ?aS ?aL ?_; (case aP => exact Kd.M_row (Kd.R_mono (Kd.R_tight rfl (Kd.R_mono (ok' := fun k_ => ((fun k_ => some k_ ≠ (.slice Ao27 t456.length co27 : Value).ownBlock)) k_ ∧ some k_ ≠ (u4 : Value).ownBlock) (Kd.R_apart' (Kd.R_apart' (HO461.out) (Kd.S_typed HO458.out) (by decide)) (Kd.S_typed HO_4.out) (by decide)) (fun k_ hk => ⟨hk.1.2, hk.2⟩))) (fun _ h_ => h_))); (case aB => exact bq); (case aF => exact (fun k_ hk => Kd.fresh' (Kd.S_lt (by (with_reducible repeat (first | apply Kd.S_alloc | apply Kd.S_drewN | apply Kd.S_drew)); exact HO458.out)) k_ hk)); (case aO => exact (by (with_reducible repeat (first | apply Kd.S_alloc | apply Kd.S_drewN | apply Kd.S_drew)); exact Kd.S_mono HO_4.out (fun k_ hk => ⟨hk.1.2, fun e_ => hk.2 e_⟩))); (case aS => exact (below_size bq)); (case aL => have := LMc20.out; omega); intro v463 w29 ho hb hg hat; rw [← Ny462.out] at ho; have n0_ := Aside0.mk (blk_grown (g := gb448) (o := .cells #[.slice (some ad453) l0_0.length c0_0, .slice A0_1 l0_1.length c0_1] 31 (0, 0)) (bk BK448) hg (Kd.S_ne HO_4.out BK448.out (by decide))); have n1_ := Aside0.mk (blk_grown (g := gb454) (o := .cells #[.slice A453_0 ((rd_T74 l0_0 x30_2).f0).length c453_0] 74 (0, 0)) (bk BK454) hg (Kd.S_ne HO_4.out BK454.out (by decide))); have n2_ := Aside0.mk (Kd.S_after (ok := (fun k_ => some k_ ≠ (.slice Ao30 t459.length co30 : Value).ownBlock)) (by (with_reducible repeat (first | apply Kd.S_alloc | apply Kd.S_drewN | apply Kd.S_drew)); exact Kd.S_mono HO458.out (fun _ hk => ⟨hk.2, hk.1.2⟩)) hg hat); have n3_ := Aside0.mk (hb); have n4_ := Aside0.mk (ho); clear BK448; clear BK454; clear HO458; clear HB; clear HO_4; clear HO461; have BK448 := n0_; have BK454 := n1_; have HO458 := n2_; have HB := n3_; have HO464 := n4_; clear n0_ n1_ n2_ n3_ n4_; clear ho hb hg hat))
        go_roundg k2
        case measure => have := HJ1.out; have := HK2.out; omega
        case rel => exact ⟨(y462), (wrap64 (x30_2 + 1)), (by first | rfl | (simp; done) | (simp [*]; done)), H', ⟨by have := HJ1.out; have := HK2.out; omega⟩, ⟨by (with_reducible repeat (first | apply Kd.S_alloc | apply Kd.S_drewN | apply Kd.S_drew)); exact Kd.S_mono HO464.out (fun _ hk => trivial)⟩, ⟨bk BK448⟩, ⟨bq⟩⟩
       ·replace c17 := Bool.eq_false_iff.mpr c17
        subst c17
        have H1 : (some false) = some r := by rw [if_neg (show ¬ (false = true) by decide)] at H; exact H
        clear H
        have H := H1
        clear H1
        obtain rfl := Option.some.inj H
        have p453 : 0 ≤ (x30_2 : Int) := ode
        have q453 : x30_2 < (l0_0.length : Int) := ode
        obtain ⟨ad453, A453_0, c453_0, e453, hx453_0, hl453_0, hi453_0⟩ := at_T74 HR0_0.out x30_2 p453 q453
        cases e453
        try replace hx453_0 := (HB.out.cell (World.block_lt_of_cell? w _ hx453_0)).trans hx453_0
        have HR453_0 := Aside0.mk hi453_0
        have HC453_0 := Aside0.mk hl453_0
        clear hi453_0 hl453_0
        replace p453 := eq_true p453
        replace q453 := eq_true q453
        go_wp2_with (first | ((with_reducible refine gate_dst (N := 6) rfl ?_); (try (refine gate_guard (by rfl) ?_; dsimp only)); refine box_event ?hg (N := 6) ?hd (cs := #[.slice none 0 0]) (t := 74) ?hr ?_; (case hd => rfl); (case hg => rfl); (case hr => first | (go_simp; done) | (go_simp; rfl)); intro gb454 hg w31 hbox hb; replace HO_4 := Aside0.mk (Kd.S_below (by (with_reducible repeat (first | apply Kd.S_alloc | apply Kd.S_drewN | apply Kd.S_drew)); exact HO_4.out) hb); have BK454 := Aside0.mk (hbox); have GW454 := Aside0.mk ((by rw [hg]; exact (below_size bq) : w.heap.size ≤ gb454)); have GE454 := Aside0.mk ((by rw [hg]; exact (below_size bq) : w.heap.size ≤ gb454)); replace HB := Aside0.mk (below_step bq hb); have NB448_454 := Aside0.mk ((by rw [hg]; exact Nat.ne_of_lt (blk_lt (g := gb448) (o := .cells #[.slice (some ad453) l0_0.length c0_0, .slice A0_1 l0_1.length c0_1] 31 (0, 0)) (bk BK448)) : gb448 ≠ gb454)); have NB454_448 := Aside0.mk ((by rw [hg]; exact Nat.ne_of_gt (blk_lt (g := gb448) (o := .cells #[.slice (some ad453) l0_0.length c0_0, .slice A0_1 l0_1.length c0_1] 31 (0, 0)) (bk BK448)) : gb454 ≠ gb448)); replace BK448 := Aside0.mk (blk_below (g := gb448) (o := .cells #[.slice (some ad453) l0_0.length c0_0, .slice A0_1 l0_1.length c0_1] 31 (0, 0)) (bk BK448) hb); clear hb hbox hg; have hnb32 := NB454_448.out; have hnc32 := NB448_454.out; have hcz33_0 := bc0 BK454; have hfz33_0 := blk_frozen BK454.out 0) | ((with_reducible refine gate_callee (f := 52) rfl ?_); refine gL 35 Tryd.func52 #[.agg #[.slice A453_0 ((rd_T74 l0_0 x30_2).f0).length c453_0]] ?_; (with_reducible refine (impl_IsBranch.calls k2 _ _ ((rd_T74 l0_0 x30_2).f0) false _ ?side1 ?side2 A16.out).mono ?_); (case side1 => exact Kd.C_below HR453_0.out bq); (case side2 => exact HC453_0.out); rintro e w34 ⟨rfl, hb⟩; refine ⟨_, rfl, ?_⟩; replace HO_4 := Aside0.mk (Kd.S_below (by (with_reducible repeat (first | apply Kd.S_alloc | apply Kd.S_drewN | apply Kd.S_drew)); exact (Kd.S_mono (Kd.S_far (p := ⟨gb454, 0, none⟩) (Kd.S_types HO_4.out BK454.out (by decide)) (fun _ hk => hk.2) (.slice A453_0 ((rd_T74 l0_0 x30_2).f0).length c453_0)) (fun _ h_ => h_.1))) hb); replace BK448 := Aside0.mk (blk_below (g := gb448) (o := .cells #[.slice (some ad453) l0_0.length c0_0, .slice A0_1 l0_1.length c0_1] 31 (0, 0)) (by (with_reducible repeat (first | refine blk_drewN ?_ _ | refine blk_drew ?_ | refine blk_alloc ?_ _)); refine blk_far ?_ NB448_454.out _; (with_reducible repeat (first | refine blk_drewN ?_ _ | refine blk_drew ?_ | refine blk_alloc ?_ _)); exact BK448.out) hb); replace BK454 := Aside0.mk (blk_below (g := gb454) (o := .cells #[.slice A453_0 ((rd_T74 l0_0 x30_2).f0).length c453_0] 74 (0, 0)) (by (with_reducible repeat (first | refine blk_drewN ?_ _ | refine blk_drew ?_ | refine blk_alloc ?_ _)); refine blk_put (cs := #[.slice none 0 0]) ?_ 0 _ rfl; (with_reducible repeat (first | refine blk_drewN ?_ _ | refine blk_drew ?_ | refine blk_alloc ?_ _)); exact BK454.out) hb); replace HB := Aside0.mk (below_step bq hb); (try clear hb); (try clear hk)))
        go_ret
        exact ⟨eq_, bq⟩
      ·rw [if_neg c13] at H
       have c13b0 : decide (x30_2 < (l0_0.length : Int)) = false := decide_eq_false c13
       clear c13
       have H' := Aside0.mk H
       clear H
       go_wp2
       go_loopg [45] k2 (fun kq v45 w' => ∃ (x45_3 : Int), v45 = .int .i64 x45_3 ∧ Aside0 (impl_IsCurve.l1 kq (l0_0.length : Int) x4_2 (l0_0.length : Int) x45_3 l0_0 l0_1 = some r) ∧ Aside0 (kq ≤ k2) ∧ Aside0 (Kd.S (Kd.slice 2 (Kd.int .i64)) 35 w' w.heap.size (fun _ => True) u4 x4_2) ∧ Aside0 (w'.heap[gb448]? = some (.cells #[(.slice A0_0 l0_0.length c0_0), (.slice A0_1 l0_1.length c0_1)] 31 (0, 0))) ∧ Aside0 (Below w.heap.size w w'))
       case atStart => exact ⟨(0), (by first | rfl | (simp; done) | (simp [*]; done)), H', ⟨Nat.le_refl _⟩, ⟨by (with_reducible repeat (first | apply Kd.S_alloc | apply Kd.S_drewN | apply Kd.S_drew)); exact HO_4.out⟩, ⟨bk BK448⟩, ⟨bq⟩⟩
       case round =>
        clear H'
        try clear c1
        try clear c2
        try clear p2
        try clear c3
        try clear c4
        try clear p4
        try clear q4
        try clear hx4
        try clear c5
        try clear c5b0
        try clear c5b1
        try clear c6
        try clear c6b0
        try clear c6b1
        try clear p6
        try clear c9
        try clear c13
        try clear c13b0
        try clear c14
        try clear c14b0
        try clear c15
        try clear c15b0
        try clear c17
        try clear c20
        try clear c21
        try clear c22
        try clear c32
        try clear hcz12_0
        try clear hcz12_1
        try clear hcz23_0
        try clear hcz25_0
        try clear hcz33_0
        try clear hcz4_0
        try clear hcz4_1
        try clear hcz8_0
        try clear hcz8_1
        try clear hfz12_0
        try clear hfz12_1
        try clear hfz23_0
        try clear hfz25_0
        try clear hfz33_0
        try clear hfz4_0
        try clear hfz4_1
        try clear hfz8_0
        try clear hfz8_1
        try clear hx453_0
        try clear p2
        try clear p453
        try clear q453
        obtain ⟨x45_3, rfl, HA, HK3, HO_4, BK448, HB⟩ := hrel
        cases gk with
        | zero => exact absurd HA.out (by simp [impl_IsCurve.l1])
        | succ k3 =>
         have H := HA.out
         clear HA
         simp only [impl_IsCurve.l1] at H
         by_cases c35 : x45_3 < (l0_0.length : Int)
         ·rw [if_pos c35] at H
          have c35b0 : decide (x45_3 < (l0_0.length : Int)) = true := decide_eq_true c35
          clear c35
          have H' := Aside0.mk H
          clear H
          go_wp2
          go_loopg [49] k3 (fun kq v49 w' => ∃ (x49_4 : Int), v49 = .int .i64 x49_4 ∧ Aside0 (impl_IsCurve.l2 kq (l0_0.length : Int) x4_2 x45_3 (l0_0.length : Int) x45_3 (l0_0.length : Int) x49_4 l0_0 l0_1 = some r) ∧ Aside0 (kq ≤ k3) ∧ Aside0 (Kd.S (Kd.slice 2 (Kd.int .i64)) 35 w' w.heap.size (fun _ => True) u4 x4_2) ∧ Aside0 (w'.heap[gb448]? = some (.cells #[(.slice A0_0 l0_0.length c0_0), (.slice A0_1 l0_1.length c0_1)] 31 (0, 0))) ∧ Aside0 (Below w.heap.size w w'))
          case atStart => exact ⟨(0), (by first | rfl | (simp; done) | (simp [*]; done)), H', ⟨Nat.le_refl _⟩, ⟨by (with_reducible repeat (first | apply Kd.S_alloc | apply Kd.S_drewN | apply Kd.S_drew)); exact HO_4.out⟩, ⟨bk BK448⟩, ⟨bq⟩⟩
          case round =>
           clear H'
           try clear c1
           try clear c2
           try clear p2
           try clear c3
           try clear c4
           try clear p4
           try clear q4
           try clear hx4
           try clear c5
           try clear c5b0
           try clear c5b1
           try clear c6
           try clear c6b0
           try clear c6b1
           try clear p6
           try clear c9
           try clear c13
           try clear c13b0
           try clear c14
           try clear c14b0
           try clear c15
           try clear c15b0
           try clear c17
           try clear c20
           try clear c21
           try clear c22
           try clear c32
           try clear c35
           try clear c35b0
           try clear hcz12_0
           try clear hcz12_1
           try clear hcz23_0
           try clear hcz25_0
           try clear hcz33_0
           try clear hcz4_0
           try clear hcz4_1
           try clear hcz8_0
           try clear hcz8_1
           try clear hfz12_0
           try clear hfz12_1
           try clear hfz23_0
           try clear hfz25_0
           try clear hfz33_0
           try clear hfz4_0
           try clear hfz4_1
           try clear hfz8_0
           try clear hfz8_1
           try clear hx453_0
           try clear p2
           try clear p4
           try clear p453
           try clear p6
           try clear q4
           try clear q453
           obtain ⟨x49_4, rfl, HA, HK4, HO_4, BK448, HB⟩ := hrel
           cases gk with
           | zero => exact absurd HA.out (by simp [impl_IsCurve.l2])
           | succ k4 =>
            have H := HA.out
            clear HA
            simp only [impl_IsCurve.l2] at H
            by_cases c36 : x49_4 < (l0_0.length : Int)
            ·rw [if_pos c36] at H
             have c36b0 : decide (x49_4 < (l0_0.length : Int)) = true := decide_eq_true c36
             clear c36
             by_cases c37 : x45_3 = x49_4
             ·rw [if_pos c37] at H
              have c37b0 : (x45_3 == x49_4) = true := beq_iff_eq.mpr c37
              have c37b1 : (x45_3 != x49_4) = false := bne_eq_false_iff_eq.mpr c37
              clear c37
              have H' := Aside0.mk H
              clear H
              go_wp2
              go_roundg k4
              case measure => have := HJ1.out; have := HK2.out; have := HK3.out; have := HK4.out; omega
              case rel => exact ⟨(wrap64 (x49_4 + 1)), (by first | rfl | (simp; done) | (simp [*]; done)), H', ⟨by have := HJ1.out; have := HK2.out; have := HK3.out; have := HK4.out; omega⟩, ⟨by (with_reducible repeat (first | apply Kd.S_alloc | apply Kd.S_drewN | apply Kd.S_drew)); exact HO_4.out⟩, ⟨bk BK448⟩, ⟨bq⟩⟩
             ·rw [if_neg c37] at H
              have c37b0 : (x45_3 == x49_4) = false := beq_eq_false_iff_ne.mpr c37
              have c37b1 : (x45_3 != x49_4) = true := bne_iff_ne.mpr c37
              revert H
              refine ifr fun c38 H => ?_
              have c38b0 : decide (0 ≤ x45_3) = true := decide_eq_true c38
              clear c38
              revert H
              refine ifr fun c39 H => ?_
              have c39b0 : decide (x45_3 < (x4_2.length : Int)) = true := decide_eq_true c39
              clear c39
              revert H
              refine ifr fun c40 H => ?_
              have c40b0 : decide (0 ≤ x49_4) = true := decide_eq_true c40
              clear c40
              revert H
              refine ifr fun c41 H => ?_
              have c41b0 : decide (x49_4 < (x4_2.length : Int)) = true := decide_eq_true c41
              clear c41
              revert H
              refine ifr fun c42 H => ?_
              have c42b0 : decide (x45_3 < (l0_1.length : Int)) = true := decide_eq_true c42
              clear c42
              revert H
              refine ifr fun c43 H => ?_
              have c43b0 : decide (x49_4 < ((rd_L1 l0_1 x45_3).length : Int)) = true := decide_eq_true c43
              clear c43
              replace H := Option.bind_eq_some_iff.mp H
              obtain ⟨t469, A440, H⟩ := H
              replace H : (if t469 = true then (impl_IsCurve.l3 k4 (l0_0.length : Int) x4_2 x45_3 x49_4 (l0_0.length : Int) x45_3 (l0_0.length : Int) x49_4 (l0_0.length : Int) 0 l0_0 l0_1) else (some false)) = some r := H
              have A44 := Aside0.mk A440
              clear A440
              by_cases c45 : t469 = true
              ·subst c45
               have H1 : (impl_IsCurve.l3 k4 (l0_0.length : Int) x4_2 x45_3 x49_4 (l0_0.length : Int) x45_3 (l0_0.length : Int) x49_4 (l0_0.length : Int) 0 l0_0 l0_1) = some r := by rw [if_pos rfl] at H; exact H
               clear H
               have H := H1
               clear H1
               have H' := Aside0.mk H
               clear H
               try go_wp2
               have n0_ := Aside0.mk (Kd.S_drew HO_4.out)
               have n1_ := Aside0.mk (blk_drew BK448.out)
               have n2_ := Aside0.mk (below_drew1 HB.out)
               clear HO_4
               clear BK448
               clear HB
               have HO_4 := n0_
               have BK448 := n1_
               have HB := n2_
               clear n0_ n1_ n2_
               obtain ⟨Ao47, co47, eo47⟩ := Kd.S_slice HO_4.out
               (first | subst eo47 | (injection eo47 with f1_ f2_ f3_; have f4_ := f1_.symm; have f5_ := f3_.symm; clear f1_ f2_ f3_; subst f4_; subst f5_))
               have p465 : 0 ≤ (x45_3 : Int) := ode
               have q465 : x45_3 < (x4_2.length : Int) := ode
               obtain ⟨ad465, A465_0, c465_0, e465, hx465_0, hl465_0, hi465_0⟩ := at_L1 (Kd.S_reads' HO_4.out).2.2 x45_3 p465 q465
               cases e465
               obtain ⟨ce465, hce465, hMe465, hcc465⟩ := Kd.S_get HO_4.out [] x45_3 p465 (by first | exact q465 | exact ode | (have e_ := (Kd.S_reads' HO_4.out).1; omega))
               obtain ⟨ve465_0, rfl, ge465_0⟩ := hMe465
               have hv465_0 := hcc465 0 _ rfl
               rw [Nat.add_zero, show ((Kd.slice 2 (Kd.int .i64))).sz = 1 from rfl, Nat.mul_one] at hv465_0
               replace hv465_0 := Option.some.inj (hv465_0.symm.trans hx465_0)
               rw [hv465_0] at ge465_0
               have HL465_0 := Aside0.mk (show Kd.R (Kd.int .i64) 2 _ _ _ _ (rd_L1 x4_2 x45_3) from ge465_0)
               clear hv465_0 ge465_0
               clear hcc465 hce465
               have HR465_0 := Aside0.mk hi465_0
               have HC465_0 := Aside0.mk hl465_0
               clear hi465_0 hl465_0
               replace p465 := eq_true p465
               replace q465 := eq_true q465
               have p466 : 0 ≤ (x49_4 : Int) := ode
               have q466 : x49_4 < (x4_2.length : Int) := ode
               obtain ⟨ad466, A466_0, c466_0, e466, hx466_0, hl466_0, hi466_0⟩ := at_L1 (Kd.S_reads' HO_4.out).2.2 x49_4 p466 q466
               obtain rfl : ad465 = ad466 := (by injection e466)
               obtain ⟨ce466, hce466, hMe466, hcc466⟩ := Kd.S_get HO_4.out [] x49_4 p466 (by first | exact q466 | exact ode | (have e_ := (Kd.S_reads' HO_4.out).1; omega))
               obtain ⟨ve466_0, rfl, ge466_0⟩ := hMe466
               have hv466_0 := hcc466 0 _ rfl
               rw [Nat.add_zero, show ((Kd.slice 2 (Kd.int .i64))).sz = 1 from rfl, Nat.mul_one] at hv466_0
               replace hv466_0 := Option.some.inj (hv466_0.symm.trans hx466_0)
               rw [hv466_0] at ge466_0
               have HL466_0 := Aside0.mk (show Kd.R (Kd.int .i64) 2 _ _ _ _ (rd_L1 x4_2 x49_4) from ge466_0)
               clear hv466_0 ge466_0
               clear hcc466 hce466
               have HR466_0 := Aside0.mk hi466_0
               have HC466_0 := Aside0.mk hl466_0
               clear hi466_0 hl466_0
               replace p466 := eq_true p466
               replace q466 := eq_true q466
               have p467 : 0 ≤ (x45_3 : Int) := ode
               have q467 : x45_3 < (l0_1.length : Int) := ode
               obtain ⟨ad467, A467_0, c467_0, e467, hx467_0, hl467_0, hi467_0⟩ := at_L1 HR0_1.out x45_3 p467 q467
               have hw467_0 := hx467_0
               cases e467
               try replace hx467_0 := (HB.out.cell (World.block_lt_of_cell? w _ hx467_0)).trans hx467_0
               have HR467_0 := Aside0.mk hi467_0
               have HC467_0 := Aside0.mk hl467_0
               clear hi467_0 hl467_0
               replace p467 := eq_true p467
               replace q467 := eq_true q467
               have p468 : 0 ≤ (x49_4 : Int) := ode
               have q468 : x49_4 < ((rd_L1 l0_1 x45_3).length : Int) := ode
               obtain ⟨ad468, e468, hx468_0⟩ := Kd.at_int HR467_0.out x49_4 p468 q468
               have hw468_0 := hx468_0
               cases e468
               try replace hx468_0 := (HB.out.cell (World.block_lt_of_cell? w _ hx468_0)).trans hx468_0
               replace p468 := eq_true p468
               replace q468 := eq_true q468
               refine start_ (n := 18) (S := fun w' => w'.cell? ⟨gb448, 0, none⟩ = some (.slice A0_0 l0_0.length c0_0) ∧ w'.cell? ⟨gb448, 1, none⟩ = some (.slice (some ad467) l0_1.length c0_1) ∧ w'.cell? (ad465.add (x45_3).toNat) = some (.slice A465_0 (rd_L1 x4_2 x45_3).length c465_0) ∧ w'.cell? (ad465.add (x49_4).toNat) = some (.slice A466_0 (rd_L1 x4_2 x49_4).length c466_0) ∧ w'.cell? (ad467.add (x45_3).toNat) = some (.slice (some ad468) (rd_L1 l0_1 x45_3).length c467_0) ∧ w'.cell? (ad468.add (x49_4).toNat) = some (.int .i64 (rd (rd_L1 l0_1 x45_3) x49_4))) (ds := []) (bA 18 0) (by kernel_rfl) rfl (by kernel_rfl) ⟨(blk_cell BK448.out 0).trans rfl, (blk_cell BK448.out 1).trans rfl, hx465_0, hx466_0, ((HB.out.cell (World.block_lt_of_cell? w _ hw467_0)).trans hw467_0), ((HB.out.cell (World.block_lt_of_cell? w _ hw468_0)).trans hw468_0)⟩ (fun hHeld => ?_); refine with_tabW impl_IsCurve.tab19 impl_IsCurve.bits19 (fun HT_ HW_ => ?_)
               generalize wr.drew = w46 at HO_4 BK448 HB HL465_0 HL466_0 HR465_0 HR466_0 HR467_0 hx465_0 hx466_0 hx467_0 hx468_0 hHeld ⊢
               refine pu HT_ 0 55 1 ?_
               refine pu HT_ 1 56 3 ?_
               refine pu HT_ 2 57 7 ?_
               refine pu HT_ 4 59 23 ?_
               refine pu HT_ 5 60 55 ?_
               refine pu HT_ 6 61 119 ?_
               refine pu HT_ 8 63 375 ?_
               refine pu HT_ 10 65 1399 ?_
               refine pu HT_ 13 68 9591 ?_
               refine tk6 HT_ HW_ hHeld 3 58 9599 ?_
               refine tk6 HT_ HW_ hHeld 7 62 9727 ?_
               refine tk6 HT_ HW_ hHeld 9 64 10239 ?_
               refine pu HT_ 11 66 12287 ?_
               refine tk6 HT_ HW_ hHeld 12 67 16383 ?_
               refine pu HT_ 14 69 32767 ?_
               refine tk6 HT_ HW_ hHeld 15 70 65535 ?_
               refine one_ (i := 16) (N := some 71) (bA 18 131071) rfl rfl (one_of HT_.out (by kernel_rfl)) (by decide) (fun K hK => ?_)
               refine goes_ Tryd.func55 (by kernel_rfl) rfl #[.slice A465_0 (rd_L1 x4_2 x45_3).length c465_0, .slice A466_0 (rd_L1 x4_2 x49_4).length c466_0, .int .i64 (rd (rd_L1 l0_1 x45_3) x49_4)] (by rfl) rfl rfl (by (try simp only [List.map_toArray, List.map_cons, List.map_nil]); first | done | rfl | (simp only [List.length_drop, List.length_take]; rfl)) ?_
               with_reducible refine (impl_canShare.calls k4 _ _ (rd_L1 x4_2 x45_3) _ _ (rd_L1 x4_2 x49_4) (rd (rd_L1 l0_1 x45_3) x49_4) true _ ?side1 ?side2 ?side3 ?side4 A44.out).mono ?_
               (case side1 => repeat (first | exact (by repeat (first | (with_reducible exact HR465_0.out) | (with_reducible refine Kd.C_alloc ?_ _) | (with_reducible refine Kd.C_drewN ?_ _) | (with_reducible refine Kd.C_drew ?_) | exact HR465_0.out)) | (with_reducible refine Kd.C_alloc ?_ _) | (with_reducible refine Kd.C_drewN ?_ _) | (with_reducible refine Kd.C_drew ?_)))
               (case side2 => exact HC465_0.out)
               (case side3 => repeat (first | exact (by repeat (first | (with_reducible exact HR466_0.out) | (with_reducible refine Kd.C_alloc ?_ _) | (with_reducible refine Kd.C_drewN ?_ _) | (with_reducible refine Kd.C_drew ?_) | exact HR466_0.out)) | (with_reducible refine Kd.C_alloc ?_ _) | (with_reducible refine Kd.C_drewN ?_ _) | (with_reducible refine Kd.C_drew ?_)))
               (case side4 => exact HC466_0.out)
               rintro e w48 ⟨rfl, hb⟩
               have HS2_ := (hb.cell (World.block_lt_of_cell? _ _ (hHeld.2.2.1))).trans (hHeld.2.2.1)
               have HS3_ := (hb.cell (World.block_lt_of_cell? _ _ (hHeld.2.2.2.1))).trans (hHeld.2.2.2.1)
               refine ⟨_, rfl, ?_⟩
               have n0_ := Aside0.mk (Kd.S_below (by (with_reducible repeat (first | apply Kd.S_alloc | apply Kd.S_drewN | apply Kd.S_drew)); exact HO_4.out) hb)
               have n1_ := Aside0.mk (Kd.R_below (by (with_reducible repeat (first | apply Kd.R_alloc | apply Kd.R_drewN | apply Kd.R_drew)); exact HL465_0.out) hb)
               have n2_ := Aside0.mk (Kd.R_below (by (with_reducible repeat (first | apply Kd.R_alloc | apply Kd.R_drewN | apply Kd.R_drew)); exact HL466_0.out) hb)
               have n3_ := Aside0.mk (blk_below (g := gb448) (o := .cells #[.slice A0_0 l0_0.length c0_0, .slice (some ad467) l0_1.length c0_1] 31 (0, 0)) (bk BK448) hb)
               have n4_ := Aside0.mk (Kd.C_below (by repeat (first | (with_reducible exact HR465_0.out) | (with_reducible refine Kd.C_alloc ?_ _) | (with_reducible refine Kd.C_drewN ?_ _) | (with_reducible refine Kd.C_drew ?_) | exact HR465_0.out)) hb)
               have n5_ := Aside0.mk (Kd.C_below (by repeat (first | (with_reducible exact HR466_0.out) | (with_reducible refine Kd.C_alloc ?_ _) | (with_reducible refine Kd.C_drewN ?_ _) | (with_reducible refine Kd.C_drew ?_) | exact HR466_0.out)) hb)
               have n6_ := Aside0.mk (below_step bq hb)
               clear HO_4
               clear HL465_0
               clear HL466_0
               clear BK448
               clear HR465_0
               clear HR466_0
               clear HB
               have HO_4 := n0_
               have HL465_0 := n1_
               have HL466_0 := n2_
               have BK448 := n3_
               have HR465_0 := n4_
               have HR466_0 := n5_
               have HB := n6_
               clear n0_ n1_ n2_ n3_ n4_ n5_ n6_
               
               
               
               
               refine hK.out _ _ ⟨(blk_cell BK448.out 0).trans rfl, (blk_cell BK448.out 1).trans rfl, HS2_, HS3_, ((HB.out.cell (World.block_lt_of_cell? w _ hw467_0)).trans hw467_0), ((HB.out.cell (World.block_lt_of_cell? w _ hw468_0)).trans hw468_0)⟩ (fun hHeld => ?_)
               clear hK K
               refine norm_ (a' := ?_) ?_ ?_
               rotate_left
               ·show Act.put _ (some 71) _ = _
                simp only [Act.put, List.setIfInBounds_toArray, List.set_cons_zero, List.set_cons_succ, i64_w, i32_w]
                rfl
               refine pu HT_ 17 72 262143 ?_
               refine done_ (done_of HT_.out (by kernel_rfl)) ?_
               try go_wp2
               go_loopg [74] k4 (fun kq v74 w' => ∃ (x74_5 : Int), v74 = .int .i64 x74_5 ∧ Aside0 (impl_IsCurve.l3 kq (l0_0.length : Int) x4_2 x45_3 x49_4 (l0_0.length : Int) x45_3 (l0_0.length : Int) x49_4 (l0_0.length : Int) x74_5 l0_0 l0_1 = some r) ∧ Aside0 (kq ≤ k4) ∧ Aside0 (Kd.S (Kd.slice 2 (Kd.int .i64)) 35 w' w.heap.size (fun _ => True) (.slice (some ad465) x4_2.length co47) x4_2) ∧ Aside0 (w'.heap[gb448]? = some (.cells #[(.slice A0_0 l0_0.length c0_0), (.slice (some ad467) l0_1.length c0_1)] 31 (0, 0))) ∧ Aside0 (Kd.C (Kd.int .i64) w' A465_0 (rd_L1 x4_2 x45_3).length (rd_L1 x4_2 x45_3)) ∧ Aside0 (Kd.C (Kd.int .i64) w' A466_0 (rd_L1 x4_2 x49_4).length (rd_L1 x4_2 x49_4)) ∧ Aside0 (Below w.heap.size w w'))
               case atStart => exact ⟨(0), (by first | rfl | (simp; done) | (simp [*]; done)), H', ⟨Nat.le_refl _⟩, ⟨by (with_reducible repeat (first | apply Kd.S_alloc | apply Kd.S_drewN | apply Kd.S_drew)); exact HO_4.out⟩, ⟨bk BK448⟩, ⟨by repeat (first | (with_reducible exact HR465_0.out) | (with_reducible refine Kd.C_alloc ?_ _) | (with_reducible refine Kd.C_drewN ?_ _) | (with_reducible refine Kd.C_drew ?_) | exact HR465_0.out)⟩, ⟨by repeat (first | (with_reducible exact HR466_0.out) | (with_reducible refine Kd.C_alloc ?_ _) | (with_reducible refine Kd.C_drewN ?_ _) | (with_reducible refine Kd.C_drew ?_) | exact HR466_0.out)⟩, ⟨bq⟩⟩
               case round =>
                clear H'
                try clear c1
                try clear c2
                try clear p2
                try clear c3
                try clear c4
                try clear p4
                try clear q4
                try clear hx4
                try clear c5
                try clear c5b0
                try clear c5b1
                try clear c6
                try clear c6b0
                try clear c6b1
                try clear p6
                try clear c9
                try clear c13
                try clear c13b0
                try clear c14
                try clear c14b0
                try clear c15
                try clear c15b0
                try clear c17
                try clear c20
                try clear c21
                try clear c22
                try clear c32
                try clear c35
                try clear c35b0
                try clear c36
                try clear c36b0
                try clear c37
                try clear c37b0
                try clear c37b1
                try clear c38
                try clear c38b0
                try clear c39
                try clear c39b0
                try clear c40
                try clear c40b0
                try clear c41
                try clear c41b0
                try clear c42
                try clear c42b0
                try clear c43
                try clear c43b0
                try clear c45
                try clear p45
                try clear q45
                try clear hx45
                try clear c46
                try clear p46
                try clear q46
                try clear hx46
                try clear hcz12_0
                try clear hcz12_1
                try clear hcz23_0
                try clear hcz25_0
                try clear hcz33_0
                try clear hcz4_0
                try clear hcz4_1
                try clear hcz8_0
                try clear hcz8_1
                try clear hfz12_0
                try clear hfz12_1
                try clear hfz23_0
                try clear hfz25_0
                try clear hfz33_0
                try clear hfz4_0
                try clear hfz4_1
                try clear hfz8_0
                try clear hfz8_1
                try clear hx453_0
                try clear hx465_0
                try clear hx466_0
                try clear hx467_0
                try clear hx468_0
                try clear p2
                try clear p4
                try clear p453
                try clear p465
                try clear p466
                try clear p467
                try clear p468
                try clear p6
                try clear q4
                try clear q453
                try clear q465
                try clear q466
                try clear q467
                try clear q468
                obtain ⟨x74_5, rfl, HA, HK5, HO_4, BK448, HR465_0, HR466_0, HB⟩ := hrel
                cases gk with
                | zero => exact absurd HA.out (by simp [impl_IsCurve.l3])
                | succ k5 =>
                 have H := HA.out
                 clear HA
                 simp only [impl_IsCurve.l3] at H
                 by_cases c49 : x74_5 < (l0_0.length : Int)
                 ·rw [if_pos c49] at H
                  have c49b0 : decide (x74_5 < (l0_0.length : Int)) = true := decide_eq_true c49
                  clear c49
                  by_cases c50 : x74_5 = x45_3
                  ·rw [if_pos c50] at H
                   have c50b0 : (x74_5 == x45_3) = true := beq_iff_eq.mpr c50
                   have c50b1 : (x74_5 != x45_3) = false := bne_eq_false_iff_eq.mpr c50
                   clear c50
                   have H' := Aside0.mk H
                   clear H
                   try go_wp2
                   have n0_ := Aside0.mk (Kd.S_drew HO_4.out)
                   have n1_ := Aside0.mk (blk_drew BK448.out)
                   have n2_ := Aside0.mk (Kd.C_drew HR465_0.out)
                   have n3_ := Aside0.mk (Kd.C_drew HR466_0.out)
                   have n4_ := Aside0.mk (below_drew1 HB.out)
                   clear HO_4
                   clear BK448
                   clear HR465_0
                   clear HR466_0
                   clear HB
                   have HO_4 := n0_
                   have BK448 := n1_
                   have HR465_0 := n2_
                   have HR466_0 := n3_
                   have HB := n4_
                   clear n0_ n1_ n2_ n3_ n4_
                   refine start_ (n := 36) (S := fun w' => True) (ds := []) (bA 36 0) (by kernel_rfl) rfl (by kernel_rfl) trivial (fun hHeld => ?_); refine with_tabW impl_IsCurve.tab24 impl_IsCurve.bits24 (fun HT_ HW_ => ?_)
                   generalize wr.drew = w51 at HO_4 BK448 HR465_0 HR466_0 HB hHeld ⊢
                   refine pu HT_ 0 77 1 ?_
                   refine pu HT_ 1 78 3 ?_
                   refine pu HT_ 2 79 7 ?_
                   refine pu HT_ 3 80 15 ?_
                   refine un HT_ 4 81 31 ?_
                   refine un HT_ 5 82 63 ?_
                   refine un HT_ 6 83 127 ?_
                   refine pu HT_ 7 84 255 ?_
                   refine pu HT_ 8 85 511 ?_
                   refine un HT_ 9 86 1023 ?_
                   refine un HT_ 10 87 2047 ?_
                   refine un HT_ 11 88 4095 ?_
                   refine un HT_ 12 89 8191 ?_
                   refine un HT_ 13 90 16383 ?_
                   refine un HT_ 14 91 32767 ?_
                   refine un HT_ 15 92 65535 ?_
                   refine un HT_ 16 93 131071 ?_
                   refine un HT_ 17 94 262143 ?_
                   refine un HT_ 18 95 524287 ?_
                   refine un HT_ 19 96 1048575 ?_
                   refine un HT_ 20 97 2097151 ?_
                   refine un HT_ 21 98 4194303 ?_
                   refine un HT_ 22 99 8388607 ?_
                   refine un HT_ 23 100 16777215 ?_
                   refine un HT_ 24 101 33554431 ?_
                   refine un HT_ 25 102 67108863 ?_
                   refine un HT_ 26 103 134217727 ?_
                   refine un HT_ 27 104 268435455 ?_
                   refine un HT_ 28 105 536870911 ?_
                   refine un HT_ 29 106 1073741823 ?_
                   refine un HT_ 30 107 2147483647 ?_
                   refine un HT_ 31 108 4294967295 ?_
                   refine un HT_ 32 109 8589934591 ?_
                   refine un HT_ 33 110 17179869183 ?_
                   refine un HT_ 34 111 34359738367 ?_
                   refine pu HT_ 35 112 68719476735 ?_
                   refine done_ (done_of HT_.out (by kernel_rfl)) ?_
                   try go_wp2
                   go_roundg k5
                   case measure => have := HJ1.out; have := HK2.out; have := HK3.out; have := HK4.out; have := HK5.out; omega
                   case rel => exact ⟨(wrap64 (x74_5 + 1)), (by first | rfl | (simp; done) | (simp [*]; done)), H', ⟨by have := HJ1.out; have := HK2.out; have := HK3.out; have := HK4.out; have := HK5.out; omega⟩, ⟨by (with_reducible repeat (first | apply Kd.S_alloc | apply Kd.S_drewN | apply Kd.S_drew)); exact HO_4.out⟩, ⟨bk BK448⟩, ⟨by repeat (first | (with_reducible exact HR465_0.out) | (with_reducible refine Kd.C_alloc ?_ _) | (with_reducible refine Kd.C_drewN ?_ _) | (with_reducible refine Kd.C_drew ?_) | exact HR465_0.out)⟩, ⟨by repeat (first | (with_reducible exact HR466_0.out) | (with_reducible refine Kd.C_alloc ?_ _) | (with_reducible refine Kd.C_drewN ?_ _) | (with_reducible refine Kd.C_drew ?_) | exact HR466_0.out)⟩, ⟨bq⟩⟩
                  ·rw [if_neg c50] at H
                   have c50b0 : (x74_5 == x45_3) = false := beq_eq_false_iff_ne.mpr c50
                   have c50b1 : (x74_5 != x45_3) = true := bne_iff_ne.mpr c50
                   by_cases c52 : x74_5 = x49_4
                   ·rw [if_pos c52] at H
                    have c52b0 : (x74_5 == x49_4) = true := beq_iff_eq.mpr c52
                    have c52b1 : (x74_5 != x49_4) = false := bne_eq_false_iff_eq.mpr c52
                    clear c52
                    have H' := Aside0.mk H
                    clear H
                    try go_wp2
                    have n0_ := Aside0.mk (Kd.S_drew HO_4.out)
                    have n1_ := Aside0.mk (blk_drew BK448.out)
                    have n2_ := Aside0.mk (Kd.C_drew HR465_0.out)
                    have n3_ := Aside0.mk (Kd.C_drew HR466_0.out)
                    have n4_ := Aside0.mk (below_drew1 HB.out)
                    clear HO_4
                    clear BK448
                    clear HR465_0
                    clear HR466_0
                    clear HB
                    have HO_4 := n0_
                    have BK448 := n1_
                    have HR465_0 := n2_
                    have HR466_0 := n3_
                    have HB := n4_
                    clear n0_ n1_ n2_ n3_ n4_
                    refine start_ (n := 36) (S := fun w' => True) (ds := []) (bA 36 0) (by kernel_rfl) rfl (by kernel_rfl) trivial (fun hHeld => ?_); refine with_tabW impl_IsCurve.tab24 impl_IsCurve.bits24 (fun HT_ HW_ => ?_)
                    generalize wr.drew = w53 at HO_4 BK448 HR465_0 HR466_0 HB hHeld ⊢
                    refine pu HT_ 0 77 1 ?_
                    refine pu HT_ 1 78 3 ?_
                    refine pu HT_ 2 79 7 ?_
                    refine pu HT_ 3 80 15 ?_
                    refine pu HT_ 4 81 31 ?_
                    refine pu HT_ 5 82 63 ?_
                    refine pu HT_ 6 83 127 ?_
                    refine pu HT_ 7 84 255 ?_
                    refine pu HT_ 8 85 511 ?_
                    refine un HT_ 9 86 1023 ?_
                    refine un HT_ 10 87 2047 ?_
                    refine un HT_ 11 88 4095 ?_
                    refine un HT_ 12 89 8191 ?_
                    refine un HT_ 13 90 16383 ?_
                    refine un HT_ 14 91 32767 ?_
                    refine un HT_ 15 92 65535 ?_
                    refine un HT_ 16 93 131071 ?_
                    refine un HT_ 17 94 262143 ?_
                    refine un HT_ 18 95 524287 ?_
                    refine un HT_ 19 96 1048575 ?_
                    refine un HT_ 20 97 2097151 ?_
                    refine un HT_ 21 98 4194303 ?_
                    refine un HT_ 22 99 8388607 ?_
                    refine un HT_ 23 100 16777215 ?_
                    refine un HT_ 24 101 33554431 ?_
                    refine un HT_ 25 102 67108863 ?_
                    refine un HT_ 26 103 134217727 ?_
                    refine un HT_ 27 104 268435455 ?_
                    refine un HT_ 28 105 536870911 ?_
                    refine un HT_ 29 106 1073741823 ?_
                    refine un HT_ 30 107 2147483647 ?_
                    refine un HT_ 31 108 4294967295 ?_
                    refine un HT_ 32 109 8589934591 ?_
                    refine un HT_ 33 110 17179869183 ?_
                    refine un HT_ 34 111 34359738367 ?_
                    refine pu HT_ 35 112 68719476735 ?_
                    refine done_ (done_of HT_.out (by kernel_rfl)) ?_
                    try go_wp2
                    go_roundg k5
                    case measure => have := HJ1.out; have := HK2.out; have := HK3.out; have := HK4.out; have := HK5.out; omega
                    case rel => exact ⟨(wrap64 (x74_5 + 1)), (by first | rfl | (simp; done) | (simp [*]; done)), H', ⟨by have := HJ1.out; have := HK2.out; have := HK3.out; have := HK4.out; have := HK5.out; omega⟩, ⟨by (with_reducible repeat (first | apply Kd.S_alloc | apply Kd.S_drewN | apply Kd.S_drew)); exact HO_4.out⟩, ⟨bk BK448⟩, ⟨by repeat (first | (with_reducible exact HR465_0.out) | (with_reducible refine Kd.C_alloc ?_ _) | (with_reducible refine Kd.C_drewN ?_ _) | (with_reducible refine Kd.C_drew ?_) | exact HR465_0.out)⟩, ⟨by repeat (first | (with_reducible exact HR466_0.out) | (with_reducible refine Kd.C_alloc ?_ _) | (with_reducible refine Kd.C_drewN ?_ _) | (with_reducible refine Kd.C_drew ?_) | exact HR466_0.out)⟩, ⟨bq⟩⟩
                   ·rw [if_neg c52] at H
                    have c52b0 : (x74_5 == x49_4) = false := beq_eq_false_iff_ne.mpr c52
                    have c52b1 : (x74_5 != x49_4) = true := bne_iff_ne.mpr c52
                    revert H
                    refine ifr fun c54 H => ?_
                    have c54b0 : decide (0 ≤ x45_3) = true := decide_eq_true c54
                    clear c54
                    revert H
                    refine ifr fun c55 H => ?_
                    have c55b0 : decide (x45_3 < (l0_1.length : Int)) = true := decide_eq_true c55
                    clear c55
                    revert H
                    refine ifr fun c56 H => ?_
                    have c56b0 : decide (0 ≤ x49_4) = true := decide_eq_true c56
                    clear c56
                    revert H
                    refine ifr fun c57 H => ?_
                    have c57b0 : decide (x49_4 < ((rd_L1 l0_1 x45_3).length : Int)) = true := decide_eq_true c57
                    clear c57
                    revert H
                    refine ifr fun c58 H => ?_
                    have c58b0 : decide (0 ≤ x74_5) = true := decide_eq_true c58
                    clear c58
                    revert H
                    refine ifr fun c59 H => ?_
                    have c59b0 : decide (x74_5 < ((rd_L1 l0_1 x45_3).length : Int)) = true := decide_eq_true c59
                    clear c59
                    revert H
                    refine ifr fun c60 H => ?_
                    have c60b0 : decide (x74_5 < (l0_1.length : Int)) = true := decide_eq_true c60
                    clear c60
                    revert H
                    refine ifr fun c61 H => ?_
                    have c61b0 : decide (x49_4 < ((rd_L1 l0_1 x74_5).length : Int)) = true := decide_eq_true c61
                    clear c61
                    obtain ⟨ji62, hji62⟩ : ∃ j_ : Int, (mn (rd (rd_L1 l0_1 x45_3) x74_5) (rd (rd_L1 l0_1 x74_5) x49_4)) = j_ := ⟨_, rfl⟩
                    replace H : (if (rd (rd_L1 l0_1 x45_3) x49_4) < (ji62) then (some false) else (impl_IsCurve.l3 k5 (l0_0.length : Int) x4_2 x45_3 x49_4 (l0_0.length : Int) x45_3 (l0_0.length : Int) x49_4 (l0_0.length : Int) (wrap64 (x74_5 + 1)) l0_0 l0_1)) = some r := by first | (rw [hji62] at H; exact H) | (simp only [hji62] at H ⊢; exact H)
                    have hji62_ : (if (rd (rd_L1 l0_1 x74_5) x49_4) < (rd (rd_L1 l0_1 x45_3) x74_5) then (rd (rd_L1 l0_1 x74_5) x49_4) else (rd (rd_L1 l0_1 x45_3) x74_5)) = ji62 := hji62
                    by_cases c63 : (rd (rd_L1 l0_1 x45_3) x49_4) < (ji62)
                    ·rw [if_pos c63] at H
                     have c63b0 : decide ((rd (rd_L1 l0_1 x45_3) x49_4) < (ji62)) = true := decide_eq_true c63
                     clear c63
                     obtain rfl := Option.some.inj H
                     try go_wp2
                     have n0_ := Aside0.mk (Kd.S_drew HO_4.out)
                     have n1_ := Aside0.mk (blk_drew BK448.out)
                     have n2_ := Aside0.mk (Kd.C_drew HR465_0.out)
                     have n3_ := Aside0.mk (Kd.C_drew HR466_0.out)
                     have n4_ := Aside0.mk (below_drew1 HB.out)
                     clear HO_4
                     clear BK448
                     clear HR465_0
                     clear HR466_0
                     clear HB
                     have HO_4 := n0_
                     have BK448 := n1_
                     have HR465_0 := n2_
                     have HR466_0 := n3_
                     have HB := n4_
                     clear n0_ n1_ n2_ n3_ n4_
                     have p470 : 0 ≤ (x45_3 : Int) := ode
                     have q470 : x45_3 < (l0_1.length : Int) := ode
                     obtain ⟨ad470, A470_0, c470_0, e470, hx470_0, hl470_0, hi470_0⟩ := at_L1 HR0_1.out x45_3 p470 q470
                     have hw470_0 := hx470_0
                     obtain rfl : ad467 = ad470 := (by injection e470)
                     try replace hx470_0 := (HB.out.cell (World.block_lt_of_cell? w _ hx470_0)).trans hx470_0
                     have HR470_0 := Aside0.mk hi470_0
                     have HC470_0 := Aside0.mk hl470_0
                     clear hi470_0 hl470_0
                     replace p470 := eq_true p470
                     replace q470 := eq_true q470
                     have p471 : 0 ≤ (x49_4 : Int) := ode
                     have q471 : x49_4 < ((rd_L1 l0_1 x45_3).length : Int) := ode
                     obtain ⟨ad471, e471, hx471_0⟩ := Kd.at_int HR470_0.out x49_4 p471 q471
                     have hw471_0 := hx471_0
                     cases e471
                     try replace hx471_0 := (HB.out.cell (World.block_lt_of_cell? w _ hx471_0)).trans hx471_0
                     replace p471 := eq_true p471
                     replace q471 := eq_true q471
                     have p472 : 0 ≤ (x45_3 : Int) := ode
                     have q472 : x45_3 < (l0_1.length : Int) := ode
                     obtain ⟨ad472, A472_0, c472_0, e472, hx472_0, hl472_0, hi472_0⟩ := at_L1 HR0_1.out x45_3 p472 q472
                     have hw472_0 := hx472_0
                     obtain rfl : ad467 = ad472 := (by injection e472)
                     try replace hx472_0 := (HB.out.cell (World.block_lt_of_cell? w _ hx472_0)).trans hx472_0
                     have HR472_0 := Aside0.mk hi472_0
                     have HC472_0 := Aside0.mk hl472_0
                     clear hi472_0 hl472_0
                     replace p472 := eq_true p472
                     replace q472 := eq_true q472
                     have ea_ := Option.some.inj (hx470_0.symm.trans hx472_0)
                     injection ea_ with ea_ en_ ec_
                     subst ea_
                     subst ec_
                     clear en_
                     have p473 : 0 ≤ (x74_5 : Int) := ode
                     have q473 : x74_5 < ((rd_L1 l0_1 x45_3).length : Int) := ode
                     obtain ⟨ad473, e473, hx473_0⟩ := Kd.at_int HR472_0.out x74_5 p473 q473
                     have hw473_0 := hx473_0
                     cases e473
                     try replace hx473_0 := (HB.out.cell (World.block_lt_of_cell? w _ hx473_0)).trans hx473_0
                     replace p473 := eq_true p473
                     replace q473 := eq_true q473
                     have p474 : 0 ≤ (x74_5 : Int) := ode
                     have q474 : x74_5 < (l0_1.length : Int) := ode
                     obtain ⟨ad474, A474_0, c474_0, e474, hx474_0, hl474_0, hi474_0⟩ := at_L1 HR0_1.out x74_5 p474 q474
                     have hw474_0 := hx474_0
                     obtain rfl : ad467 = ad474 := (by injection e474)
                     try replace hx474_0 := (HB.out.cell (World.block_lt_of_cell? w _ hx474_0)).trans hx474_0
                     have HR474_0 := Aside0.mk hi474_0
                     have HC474_0 := Aside0.mk hl474_0
                     clear hi474_0 hl474_0
                     replace p474 := eq_true p474
                     replace q474 := eq_true q474
                     have p475 : 0 ≤ (x49_4 : Int) := ode
                     have q475 : x49_4 < ((rd_L1 l0_1 x74_5).length : Int) := ode
                     obtain ⟨ad475, e475, hx475_0⟩ := Kd.at_int HR474_0.out x49_4 p475 q475
                     have hw475_0 := hx475_0
                     cases e475
                     try replace hx475_0 := (HB.out.cell (World.block_lt_of_cell? w _ hx475_0)).trans hx475_0
                     replace p475 := eq_true p475
                     replace q475 := eq_true q475
                     refine start_ (n := 36) (S := fun w' => w'.cell? ⟨gb448, 0, none⟩ = some (.slice A0_0 l0_0.length c0_0) ∧ w'.cell? ⟨gb448, 1, none⟩ = some (.slice (some ad467) l0_1.length c0_1) ∧ w'.cell? (ad467.add (x45_3).toNat) = some (.slice (some ad471) (rd_L1 l0_1 x45_3).length c470_0) ∧ w'.cell? (ad471.add (x49_4).toNat) = some (.int .i64 (rd (rd_L1 l0_1 x45_3) x49_4)) ∧ w'.cell? (ad467.add (x45_3).toNat) = some (.slice (some ad471) (rd_L1 l0_1 x45_3).length c470_0) ∧ w'.cell? (ad471.add (x74_5).toNat) = some (.int .i64 (rd (rd_L1 l0_1 x45_3) x74_5)) ∧ w'.cell? (ad467.add (x74_5).toNat) = some (.slice (some ad475) (rd_L1 l0_1 x74_5).length c474_0) ∧ w'.cell? (ad475.add (x49_4).toNat) = some (.int .i64 (rd (rd_L1 l0_1 x74_5) x49_4))) (ds := []) (bA 36 0) (by kernel_rfl) rfl (by kernel_rfl) ⟨(blk_cell BK448.out 0).trans rfl, (blk_cell BK448.out 1).trans rfl, ((HB.out.cell (World.block_lt_of_cell? w _ hw470_0)).trans hw470_0), ((HB.out.cell (World.block_lt_of_cell? w _ hw471_0)).trans hw471_0), ((HB.out.cell (World.block_lt_of_cell? w _ hw472_0)).trans hw472_0), ((HB.out.cell (World.block_lt_of_cell? w _ hw473_0)).trans hw473_0), ((HB.out.cell (World.block_lt_of_cell? w _ hw474_0)).trans hw474_0), ((HB.out.cell (World.block_lt_of_cell? w _ hw475_0)).trans hw475_0)⟩ (fun hHeld => ?_); refine with_tabW impl_IsCurve.tab24 impl_IsCurve.bits24 (fun HT_ HW_ => ?_)
                     generalize wr.drew = w64 at HO_4 BK448 HR465_0 HR466_0 HB HR470_0 HR472_0 HR474_0 hx470_0 hx471_0 hx472_0 hx473_0 hx474_0 hx475_0 hHeld ⊢
                     refine pu HT_ 0 77 1 ?_
                     refine pu HT_ 1 78 3 ?_
                     refine pu HT_ 2 79 7 ?_
                     refine pu HT_ 3 80 15 ?_
                     refine pu HT_ 4 81 31 ?_
                     refine pu HT_ 5 82 63 ?_
                     refine pu HT_ 6 83 127 ?_
                     refine pu HT_ 7 84 255 ?_
                     refine pu HT_ 8 85 511 ?_
                     refine pu HT_ 9 86 1023 ?_
                     refine pu HT_ 11 88 3071 ?_
                     refine pu HT_ 14 91 19455 ?_
                     refine pu HT_ 17 94 150527 ?_
                     refine pu HT_ 19 96 674815 ?_
                     refine pu HT_ 22 99 4869119 ?_
                     refine pu HT_ 25 102 38423551 ?_
                     refine pu HT_ 27 104 172641279 ?_
                     refine pu HT_ 30 107 1246383103 ?_
                     refine tk8 HT_ HW_ hHeld 10 87 1246384127 ?_
                     refine pu HT_ 12 89 1246388223 ?_
                     refine tk8 HT_ HW_ hHeld 13 90 1246396415 ?_
                     refine pu HT_ 15 92 1246429183 ?_
                     refine tk8 HT_ HW_ hHeld 16 93 1246494719 ?_
                     refine tk8 HT_ HW_ hHeld 18 95 1246756863 ?_
                     refine pu HT_ 20 97 1247805439 ?_
                     refine tk8 HT_ HW_ hHeld 21 98 1249902591 ?_
                     refine pu HT_ 23 100 1258291199 ?_
                     refine tk8 HT_ HW_ hHeld 24 101 1275068415 ?_
                     refine tk8 HT_ HW_ hHeld 26 103 1342177279 ?_
                     refine pu HT_ 28 105 1610612735 ?_
                     refine tk8 HT_ HW_ hHeld 29 106 2147483647 ?_
                     refine pu HT_ 31 108 4294967295 ?_
                     refine tk8 HT_ HW_ hHeld 32 109 8589934591 ?_
                     refine pu HT_ 33 110 17179869183 ?_
                     refine pu HT_ 34 111 34359738367 ?_
                     refine pu HT_ 35 112 68719476735 ?_
                     refine done_ (done_of HT_.out (by kernel_rfl)) ?_
                     try go_wp2
                     go_ret
                     exact ⟨by first | rfl | (simp [errW_none, errW_some] <;> rfl) | (simp only [← hji62]; first | rfl | (simp [errW_none, errW_some] <;> rfl)) | (simp [*, errW_none, errW_some] <;> rfl), bq⟩
                    ·rw [if_neg c63] at H
                     have c63b0 : decide ((rd (rd_L1 l0_1 x45_3) x49_4) < (ji62)) = false := decide_eq_false c63
                     clear c63
                     have H' := Aside0.mk H
                     clear H
                     try go_wp2
                     have n0_ := Aside0.mk (Kd.S_drew HO_4.out)
                     have n1_ := Aside0.mk (blk_drew BK448.out)
                     have n2_ := Aside0.mk (Kd.C_drew HR465_0.out)
                     have n3_ := Aside0.mk (Kd.C_drew HR466_0.out)
                     have n4_ := Aside0.mk (below_drew1 HB.out)
                     clear HO_4
                     clear BK448
                     clear HR465_0
                     clear HR466_0
                     clear HB
                     have HO_4 := n0_
                     have BK448 := n1_
                     have HR465_0 := n2_
                     have HR466_0 := n3_
                     have HB := n4_
                     clear n0_ n1_ n2_ n3_ n4_
                     have p470 : 0 ≤ (x45_3 : Int) := ode
                     have q470 : x45_3 < (l0_1.length : Int) := ode
                     obtain ⟨ad470, A470_0, c470_0, e470, hx470_0, hl470_0, hi470_0⟩ := at_L1 HR0_1.out x45_3 p470 q470
                     have hw470_0 := hx470_0
                     obtain rfl : ad467 = ad470 := (by injection e470)
                     try replace hx470_0 := (HB.out.cell (World.block_lt_of_cell? w _ hx470_0)).trans hx470_0
                     have HR470_0 := Aside0.mk hi470_0
                     have HC470_0 := Aside0.mk hl470_0
                     clear hi470_0 hl470_0
                     replace p470 := eq_true p470
                     replace q470 := eq_true q470
                     have p471 : 0 ≤ (x49_4 : Int) := ode
                     have q471 : x49_4 < ((rd_L1 l0_1 x45_3).length : Int) := ode
                     obtain ⟨ad471, e471, hx471_0⟩ := Kd.at_int HR470_0.out x49_4 p471 q471
                     have hw471_0 := hx471_0
                     cases e471
                     try replace hx471_0 := (HB.out.cell (World.block_lt_of_cell? w _ hx471_0)).trans hx471_0
                     replace p471 := eq_true p471
                     replace q471 := eq_true q471
                     have p472 : 0 ≤ (x45_3 : Int) := ode
                     have q472 : x45_3 < (l0_1.length : Int) := ode
                     obtain ⟨ad472, A472_0, c472_0, e472, hx472_0, hl472_0, hi472_0⟩ := at_L1 HR0_1.out x45_3 p472 q472
                     have hw472_0 := hx472_0
                     obtain rfl : ad467 = ad472 := (by injection e472)
                     try replace hx472_0 := (HB.out.cell (World.block_lt_of_cell? w _ hx472_0)).trans hx472_0
                     have HR472_0 := Aside0.mk hi472_0
                     have HC472_0 := Aside0.mk hl472_0
                     clear hi472_0 hl472_0
                     replace p472 := eq_true p472
                     replace q472 := eq_true q472
                     have ea_ := Option.some.inj (hx470_0.symm.trans hx472_0)
                     injection ea_ with ea_ en_ ec_
                     subst ea_
                     subst ec_
                     clear en_
                     have p473 : 0 ≤ (x74_5 : Int) := ode
                     have q473 : x74_5 < ((rd_L1 l0_1 x45_3).length : Int) := ode
                     obtain ⟨ad473, e473, hx473_0⟩ := Kd.at_int HR472_0.out x74_5 p473 q473
                     have hw473_0 := hx473_0
                     cases e473
                     try replace hx473_0 := (HB.out.cell (World.block_lt_of_cell? w _ hx473_0)).trans hx473_0
                     replace p473 := eq_true p473
                     replace q473 := eq_true q473
                     have p474 : 0 ≤ (x74_5 : Int) := ode
                     have q474 : x74_5 < (l0_1.length : Int) := ode
                     obtain ⟨ad474, A474_0, c474_0, e474, hx474_0, hl474_0, hi474_0⟩ := at_L1 HR0_1.out x74_5 p474 q474
                     have hw474_0 := hx474_0
                     obtain rfl : ad467 = ad474 := (by injection e474)
                     try replace hx474_0 := (HB.out.cell (World.block_lt_of_cell? w _ hx474_0)).trans hx474_0
                     have HR474_0 := Aside0.mk hi474_0
                     have HC474_0 := Aside0.mk hl474_0
                     clear hi474_0 hl474_0
                     replace p474 := eq_true p474
                     replace q474 := eq_true q474
                     have p475 : 0 ≤ (x49_4 : Int) := ode
                     have q475 : x49_4 < ((rd_L1 l0_1 x74_5).length : Int) := ode
                     obtain ⟨ad475, e475, hx475_0⟩ := Kd.at_int HR474_0.out x49_4 p475 q475
                     have hw475_0 := hx475_0
                     cases e475
                     try replace hx475_0 := (HB.out.cell (World.block_lt_of_cell? w _ hx475_0)).trans hx475_0
                     replace p475 := eq_true p475
                     replace q475 := eq_true q475
                     refine start_ (n := 36) (S := fun w' => w'.cell? ⟨gb448, 0, none⟩ = some (.slice A0_0 l0_0.length c0_0) ∧ w'.cell? ⟨gb448, 1, none⟩ = some (.slice (some ad467) l0_1.length c0_1) ∧ w'.cell? (ad467.add (x45_3).toNat) = some (.slice (some ad471) (rd_L1 l0_1 x45_3).length c470_0) ∧ w'.cell? (ad471.add (x49_4).toNat) = some (.int .i64 (rd (rd_L1 l0_1 x45_3) x49_4)) ∧ w'.cell? (ad467.add (x45_3).toNat) = some (.slice (some ad471) (rd_L1 l0_1 x45_3).length c470_0) ∧ w'.cell? (ad471.add (x74_5).toNat) = some (.int .i64 (rd (rd_L1 l0_1 x45_3) x74_5)) ∧ w'.cell? (ad467.add (x74_5).toNat) = some (.slice (some ad475) (rd_L1 l0_1 x74_5).length c474_0) ∧ w'.cell? (ad475.add (x49_4).toNat) = some (.int .i64 (rd (rd_L1 l0_1 x74_5) x49_4))) (ds := []) (bA 36 0) (by kernel_rfl) rfl (by kernel_rfl) ⟨(blk_cell BK448.out 0).trans rfl, (blk_cell BK448.out 1).trans rfl, ((HB.out.cell (World.block_lt_of_cell? w _ hw470_0)).trans hw470_0), ((HB.out.cell (World.block_lt_of_cell? w _ hw471_0)).trans hw471_0), ((HB.out.cell (World.block_lt_of_cell? w _ hw472_0)).trans hw472_0), ((HB.out.cell (World.block_lt_of_cell? w _ hw473_0)).trans hw473_0), ((HB.out.cell (World.block_lt_of_cell? w _ hw474_0)).trans hw474_0), ((HB.out.cell (World.block_lt_of_cell? w _ hw475_0)).trans hw475_0)⟩ (fun hHeld => ?_); refine with_tabW impl_IsCurve.tab24 impl_IsCurve.bits24 (fun HT_ HW_ => ?_)
                     generalize wr.drew = w65 at HO_4 BK448 HR465_0 HR466_0 HB HR470_0 HR472_0 HR474_0 hx470_0 hx471_0 hx472_0 hx473_0 hx474_0 hx475_0 hHeld ⊢
                     refine pu HT_ 0 77 1 ?_
                     refine pu HT_ 1 78 3 ?_
                     refine pu HT_ 2 79 7 ?_
                     refine pu HT_ 3 80 15 ?_
                     refine pu HT_ 4 81 31 ?_
                     refine pu HT_ 5 82 63 ?_
                     refine pu HT_ 6 83 127 ?_
                     refine pu HT_ 7 84 255 ?_
                     refine pu HT_ 8 85 511 ?_
                     refine pu HT_ 9 86 1023 ?_
                     refine pu HT_ 11 88 3071 ?_
                     refine pu HT_ 14 91 19455 ?_
                     refine pu HT_ 17 94 150527 ?_
                     refine pu HT_ 19 96 674815 ?_
                     refine pu HT_ 22 99 4869119 ?_
                     refine pu HT_ 25 102 38423551 ?_
                     refine pu HT_ 27 104 172641279 ?_
                     refine pu HT_ 30 107 1246383103 ?_
                     refine tk8 HT_ HW_ hHeld 10 87 1246384127 ?_
                     refine pu HT_ 12 89 1246388223 ?_
                     refine tk8 HT_ HW_ hHeld 13 90 1246396415 ?_
                     refine pu HT_ 15 92 1246429183 ?_
                     refine tk8 HT_ HW_ hHeld 16 93 1246494719 ?_
                     refine tk8 HT_ HW_ hHeld 18 95 1246756863 ?_
                     refine pu HT_ 20 97 1247805439 ?_
                     refine tk8 HT_ HW_ hHeld 21 98 1249902591 ?_
                     refine pu HT_ 23 100 1258291199 ?_
                     refine tk8 HT_ HW_ hHeld 24 101 1275068415 ?_
                     refine tk8 HT_ HW_ hHeld 26 103 1342177279 ?_
                     refine pu HT_ 28 105 1610612735 ?_
                     refine tk8 HT_ HW_ hHeld 29 106 2147483647 ?_
                     refine pu HT_ 31 108 4294967295 ?_
                     refine tk8 HT_ HW_ hHeld 32 109 8589934591 ?_
                     refine pu HT_ 33 110 17179869183 ?_
                     refine pu HT_ 34 111 34359738367 ?_
                     refine pu HT_ 35 112 68719476735 ?_
                     refine done_ (done_of HT_.out (by kernel_rfl)) ?_
                     try go_wp2
                     go_roundg k5
                     case measure => have := HJ1.out; have := HK2.out; have := HK3.out; have := HK4.out; have := HK5.out; omega
                     case rel => exact ⟨(wrap64 (x74_5 + 1)), (by first | rfl | (simp; done) | (simp [*]; done)), H', ⟨by have := HJ1.out; have := HK2.out; have := HK3.out; have := HK4.out; have := HK5.out; omega⟩, ⟨by (with_reducible repeat (first | apply Kd.S_alloc | apply Kd.S_drewN | apply Kd.S_drew)); exact HO_4.out⟩, ⟨bk BK448⟩, ⟨by repeat (first | (with_reducible exact HR465_0.out) | (with_reducible refine Kd.C_alloc ?_ _) | (with_reducible refine Kd.C_drewN ?_ _) | (with_reducible refine Kd.C_drew ?_) | exact HR465_0.out)⟩, ⟨by repeat (first | (with_reducible exact HR466_0.out) | (with_reducible refine Kd.C_alloc ?_ _) | (with_reducible refine Kd.C_drewN ?_ _) | (with_reducible refine Kd.C_drew ?_) | exact HR466_0.out)⟩, ⟨bq⟩⟩
                 ·rw [if_neg c49] at H
                  have c49b0 : decide (x74_5 < (l0_0.length : Int)) = false := decide_eq_false c49
                  clear c49
                  have H' := Aside0.mk H
                  clear H
                  go_wp2
                  go_roundg k5
                  case measure => have := HJ1.out; have := HK2.out; have := HK3.out; have := HK4.out; have := HK5.out; omega
                  case rel => exact ⟨(wrap64 (x49_4 + 1)), (by first | rfl | (simp; done) | (simp [*]; done)), H', ⟨by have := HJ1.out; have := HK2.out; have := HK3.out; have := HK4.out; have := HK5.out; omega⟩, ⟨by (with_reducible repeat (first | apply Kd.S_alloc | apply Kd.S_drewN | apply Kd.S_drew)); exact HO_4.out⟩, ⟨bk BK448⟩, ⟨bq⟩⟩
              ·replace c45 := Bool.eq_false_iff.mpr c45
               subst c45
               have H1 : (some false) = some r := by rw [if_neg (show ¬ (false = true) by decide)] at H; exact H
               clear H
               have H := H1
               clear H1
               obtain rfl := Option.some.inj H
               try go_wp2
               have n0_ := Aside0.mk (Kd.S_drew HO_4.out)
               have n1_ := Aside0.mk (blk_drew BK448.out)
               have n2_ := Aside0.mk (below_drew1 HB.out)
               clear HO_4
               clear BK448
               clear HB
               have HO_4 := n0_
               have BK448 := n1_
               have HB := n2_
               clear n0_ n1_ n2_
               obtain ⟨Ao67, co67, eo67⟩ := Kd.S_slice HO_4.out
               (first | subst eo67 | (injection eo67 with f1_ f2_ f3_; have f4_ := f1_.symm; have f5_ := f3_.symm; clear f1_ f2_ f3_; subst f4_; subst f5_))
               have p465 : 0 ≤ (x45_3 : Int) := ode
               have q465 : x45_3 < (x4_2.length : Int) := ode
               obtain ⟨ad465, A465_0, c465_0, e465, hx465_0, hl465_0, hi465_0⟩ := at_L1 (Kd.S_reads' HO_4.out).2.2 x45_3 p465 q465
               cases e465
               obtain ⟨ce465, hce465, hMe465, hcc465⟩ := Kd.S_get HO_4.out [] x45_3 p465 (by first | exact q465 | exact ode | (have e_ := (Kd.S_reads' HO_4.out).1; omega))
               obtain ⟨ve465_0, rfl, ge465_0⟩ := hMe465
               have hv465_0 := hcc465 0 _ rfl
               rw [Nat.add_zero, show ((Kd.slice 2 (Kd.int .i64))).sz = 1 from rfl, Nat.mul_one] at hv465_0
               replace hv465_0 := Option.some.inj (hv465_0.symm.trans hx465_0)
               rw [hv465_0] at ge465_0
               have HL465_0 := Aside0.mk (show Kd.R (Kd.int .i64) 2 _ _ _ _ (rd_L1 x4_2 x45_3) from ge465_0)
               clear hv465_0 ge465_0
               clear hcc465 hce465
               have HR465_0 := Aside0.mk hi465_0
               have HC465_0 := Aside0.mk hl465_0
               clear hi465_0 hl465_0
               replace p465 := eq_true p465
               replace q465 := eq_true q465
               have p466 : 0 ≤ (x49_4 : Int) := ode
               have q466 : x49_4 < (x4_2.length : Int) := ode
               obtain ⟨ad466, A466_0, c466_0, e466, hx466_0, hl466_0, hi466_0⟩ := at_L1 (Kd.S_reads' HO_4.out).2.2 x49_4 p466 q466
               obtain rfl : ad465 = ad466 := (by injection e466)
               obtain ⟨ce466, hce466, hMe466, hcc466⟩ := Kd.S_get HO_4.out [] x49_4 p466 (by first | exact q466 | exact ode | (have e_ := (Kd.S_reads' HO_4.out).1; omega))
               obtain ⟨ve466_0, rfl, ge466_0⟩ := hMe466
               have hv466_0 := hcc466 0 _ rfl
               rw [Nat.add_zero, show ((Kd.slice 2 (Kd.int .i64))).sz = 1 from rfl, Nat.mul_one] at hv466_0
               replace hv466_0 := Option.some.inj (hv466_0.symm.trans hx466_0)
               rw [hv466_0] at ge466_0
               have HL466_0 := Aside0.mk (show Kd.R (Kd.int .i64) 2 _ _ _ _ (rd_L1 x4_2 x49_4) from ge466_0)
               clear hv466_0 ge466_0
               clear hcc466 hce466
               have HR466_0 := Aside0.mk hi466_0
               have HC466_0 := Aside0.mk hl466_0
               clear hi466_0 hl466_0
               replace p466 := eq_true p466
               replace q466 := eq_true q466
               have p467 : 0 ≤ (x45_3 : Int) := ode
               have q467 : x45_3 < (l0_1.length : Int) := ode
               obtain ⟨ad467, A467_0, c467_0, e467, hx467_0, hl467_0, hi467_0⟩ := at_L1 HR0_1.out x45_3 p467 q467
               have hw467_0 := hx467_0
               cases e467
               try replace hx467_0 := (HB.out.cell (World.block_lt_of_cell? w _ hx467_0)).trans hx467_0
               have HR467_0 := Aside0.mk hi467_0
               have HC467_0 := Aside0.mk hl467_0
               clear hi467_0 hl467_0
               replace p467 := eq_true p467
               replace q467 := eq_true q467
               have p468 : 0 ≤ (x49_4 : Int) := ode
               have q468 : x49_4 < ((rd_L1 l0_1 x45_3).length : Int) := ode
               obtain ⟨ad468, e468, hx468_0⟩ := Kd.at_int HR467_0.out x49_4 p468 q468
               have hw468_0 := hx468_0
               cases e468
               try replace hx468_0 := (HB.out.cell (World.block_lt_of_cell? w _ hx468_0)).trans hx468_0
               replace p468 := eq_true p468
               replace q468 := eq_true q468
               refine start_ (n := 18) (S := fun w' => w'.cell? ⟨gb448, 0, none⟩ = some (.slice A0_0 l0_0.length c0_0) ∧ w'.cell? ⟨gb448, 1, none⟩ = some (.slice (some ad467) l0_1.length c0_1) ∧ w'.cell? (ad465.add (x45_3).toNat) = some (.slice A465_0 (rd_L1 x4_2 x45_3).length c465_0) ∧ w'.cell? (ad465.add (x49_4).toNat) = some (.slice A466_0 (rd_L1 x4_2 x49_4).length c466_0) ∧ w'.cell? (ad467.add (x45_3).toNat) = some (.slice (some ad468) (rd_L1 l0_1 x45_3).length c467_0) ∧ w'.cell? (ad468.add (x49_4).toNat) = some (.int .i64 (rd (rd_L1 l0_1 x45_3) x49_4))) (ds := []) (bA 18 0) (by kernel_rfl) rfl (by kernel_rfl) ⟨(blk_cell BK448.out 0).trans rfl, (blk_cell BK448.out 1).trans rfl, hx465_0, hx466_0, ((HB.out.cell (World.block_lt_of_cell? w _ hw467_0)).trans hw467_0), ((HB.out.cell (World.block_lt_of_cell? w _ hw468_0)).trans hw468_0)⟩ (fun hHeld => ?_); refine with_tabW impl_IsCurve.tab19 impl_IsCurve.bits19 (fun HT_ HW_ => ?_)
               generalize wr.drew = w66 at HO_4 BK448 HB HL465_0 HL466_0 HR465_0 HR466_0 HR467_0 hx465_0 hx466_0 hx467_0 hx468_0 hHeld ⊢
               refine pu HT_ 0 55 1 ?_
               refine pu HT_ 1 56 3 ?_
               refine pu HT_ 2 57 7 ?_
               refine pu HT_ 4 59 23 ?_
               refine pu HT_ 5 60 55 ?_
               refine pu HT_ 6 61 119 ?_
               refine pu HT_ 8 63 375 ?_
               refine pu HT_ 10 65 1399 ?_
               refine pu HT_ 13 68 9591 ?_
               refine tk6 HT_ HW_ hHeld 3 58 9599 ?_
               refine tk6 HT_ HW_ hHeld 7 62 9727 ?_
               refine tk6 HT_ HW_ hHeld 9 64 10239 ?_
               refine pu HT_ 11 66 12287 ?_
               refine tk6 HT_ HW_ hHeld 12 67 16383 ?_
               refine pu HT_ 14 69 32767 ?_
               refine tk6 HT_ HW_ hHeld 15 70 65535 ?_
               refine one_ (i := 16) (N := some 71) (bA 18 131071) rfl rfl (one_of HT_.out (by kernel_rfl)) (by decide) (fun K hK => ?_)
               refine goes_ Tryd.func55 (by kernel_rfl) rfl #[.slice A465_0 (rd_L1 x4_2 x45_3).length c465_0, .slice A466_0 (rd_L1 x4_2 x49_4).length c466_0, .int .i64 (rd (rd_L1 l0_1 x45_3) x49_4)] (by rfl) rfl rfl (by (try simp only [List.map_toArray, List.map_cons, List.map_nil]); first | done | rfl | (simp only [List.length_drop, List.length_take]; rfl)) ?_
               with_reducible refine (impl_canShare.calls k4 _ _ (rd_L1 x4_2 x45_3) _ _ (rd_L1 x4_2 x49_4) (rd (rd_L1 l0_1 x45_3) x49_4) false _ ?side1 ?side2 ?side3 ?side4 A44.out).mono ?_
               (case side1 => repeat (first | exact (by repeat (first | (with_reducible exact HR465_0.out) | (with_reducible refine Kd.C_alloc ?_ _) | (with_reducible refine Kd.C_drewN ?_ _) | (with_reducible refine Kd.C_drew ?_) | exact HR465_0.out)) | (with_reducible refine Kd.C_alloc ?_ _) | (with_reducible refine Kd.C_drewN ?_ _) | (with_reducible refine Kd.C_drew ?_)))
               (case side2 => exact HC465_0.out)
               (case side3 => repeat (first | exact (by repeat (first | (with_reducible exact HR466_0.out) | (with_reducible refine Kd.C_alloc ?_ _) | (with_reducible refine Kd.C_drewN ?_ _) | (with_reducible refine Kd.C_drew ?_) | exact HR466_0.out)) | (with_reducible refine Kd.C_alloc ?_ _) | (with_reducible refine Kd.C_drewN ?_ _) | (with_reducible refine Kd.C_drew ?_)))
               (case side4 => exact HC466_0.out)
               rintro e w68 ⟨rfl, hb⟩
               have HS2_ := (hb.cell (World.block_lt_of_cell? _ _ (hHeld.2.2.1))).trans (hHeld.2.2.1)
               have HS3_ := (hb.cell (World.block_lt_of_cell? _ _ (hHeld.2.2.2.1))).trans (hHeld.2.2.2.1)
               refine ⟨_, rfl, ?_⟩
               have n0_ := Aside0.mk (Kd.S_below (by (with_reducible repeat (first | apply Kd.S_alloc | apply Kd.S_drewN | apply Kd.S_drew)); exact HO_4.out) hb)
               have n1_ := Aside0.mk (Kd.R_below (by (with_reducible repeat (first | apply Kd.R_alloc | apply Kd.R_drewN | apply Kd.R_drew)); exact HL465_0.out) hb)
               have n2_ := Aside0.mk (Kd.R_below (by (with_reducible repeat (first | apply Kd.R_alloc | apply Kd.R_drewN | apply Kd.R_drew)); exact HL466_0.out) hb)
               have n3_ := Aside0.mk (blk_below (g := gb448) (o := .cells #[.slice A0_0 l0_0.length c0_0, .slice (some ad467) l0_1.length c0_1] 31 (0, 0)) (bk BK448) hb)
               have n4_ := Aside0.mk (Kd.C_below (by repeat (first | (with_reducible exact HR465_0.out) | (with_reducible refine Kd.C_alloc ?_ _) | (with_reducible refine Kd.C_drewN ?_ _) | (with_reducible refine Kd.C_drew ?_) | exact HR465_0.out)) hb)
               have n5_ := Aside0.mk (Kd.C_below (by repeat (first | (with_reducible exact HR466_0.out) | (with_reducible refine Kd.C_alloc ?_ _) | (with_reducible refine Kd.C_drewN ?_ _) | (with_reducible refine Kd.C_drew ?_) | exact HR466_0.out)) hb)
               have n6_ := Aside0.mk (below_step bq hb)
               clear HO_4
               clear HL465_0
               clear HL466_0
               clear BK448
               clear HR465_0
               clear HR466_0
               clear HB
               have HO_4 := n0_
               have HL465_0 := n1_
               have HL466_0 := n2_
               have BK448 := n3_
               have HR465_0 := n4_
               have HR466_0 := n5_
               have HB := n6_
               clear n0_ n1_ n2_ n3_ n4_ n5_ n6_
               
               
               
               
               refine hK.out _ _ ⟨(blk_cell BK448.out 0).trans rfl, (blk_cell BK448.out 1).trans rfl, HS2_, HS3_, ((HB.out.cell (World.block_lt_of_cell? w _ hw467_0)).trans hw467_0), ((HB.out.cell (World.block_lt_of_cell? w _ hw468_0)).trans hw468_0)⟩ (fun hHeld => ?_)
               clear hK K
               refine norm_ (a' := ?_) ?_ ?_
               rotate_left
               ·show Act.put _ (some 71) _ = _
                simp only [Act.put, List.setIfInBounds_toArray, List.set_cons_zero, List.set_cons_succ, i64_w, i32_w]
                rfl
               refine pu HT_ 17 72 262143 ?_
               refine done_ (done_of HT_.out (by kernel_rfl)) ?_
               try go_wp2
               go_ret
               exact ⟨eq_, bq⟩
            ·rw [if_neg c36] at H
             have c36b0 : decide (x49_4 < (l0_0.length : Int)) = false := decide_eq_false c36
             clear c36
             have H' := Aside0.mk H
             clear H
             go_wp2
             go_roundg k4
             case measure => have := HJ1.out; have := HK2.out; have := HK3.out; have := HK4.out; omega
             case rel => exact ⟨(wrap64 (x45_3 + 1)), (by first | rfl | (simp; done) | (simp [*]; done)), H', ⟨by have := HJ1.out; have := HK2.out; have := HK3.out; have := HK4.out; omega⟩, ⟨by (with_reducible repeat (first | apply Kd.S_alloc | apply Kd.S_drewN | apply Kd.S_drew)); exact HO_4.out⟩, ⟨bk BK448⟩, ⟨bq⟩⟩
         ·rw [if_neg c35] at H
          have c35b0 : decide (x45_3 < (l0_0.length : Int)) = false := decide_eq_false c35
          clear c35
          obtain rfl := Option.some.inj H
          go_wp2
          go_ret
          exact ⟨eq_, bq⟩
end Go.Proofs.YtkfdfpcdcabcoaaDoor.QName
