/- Walks: the printed functions, and that each call comes to them (5). -/
import Derived.Test.YtkfdfpcdcabcoaaDoorV
import Derived.Test.YtkfdfpcdcabcoaaDoorGA
import Derived.Test.YtkfdfpcdcabcoaaDoorGD
namespace Go.Proofs.YtkfdfpcdcabcoaaDoor.QName
open Go.RowKit Go.Proofs.YtkfdfpcdcabcoaaDoorW.PrintWords Go.Proofs.YtkfdfpcdcabcoaaDoorW.PrintLast Go.Proofs.YtkfdfpcdcabcoaaDoorW.PrintMore
attribute [local go_sem] max2_int min2_int max_two min_two max_three min_three max_four min_four
set_option linter.unusedVariables false
set_option linter.unusedSimpArgs false

/-! ### spec_l09Is: function 17 -/
mutual
def spec_l09Is.j0 : Nat → Int → Bool → List (S74) → List (List Int) → Option (Bool)
 | 0, _, _, _, _ => none
 | k + 1, x3, x26, x212000, x212001 => if x26 = true then (some false) else (spec_l09Is.l0 k x3 0 x212000 x212001)
def spec_l09Is.l0 : Nat → Int → Int → List (S74) → List (List Int) → Option (Bool)
 | 0, _, _, _, _ => none
 | k + 1, x3, x4, x212000, x212001 => if x4 < x3 then (if 0 ≤ x4 then (if x4 < (x212000.length : Int) then ((spec_l03Is.f k ((rd_T74 x212000 x4).f0)).bind fun t213 => (if t213 = true then (if x4 < (x212001.length : Int) then (if ((rd_L1 x212001 x4).length : Int) = x3 then (spec_l09Is.l0 k x3 (wrap64 (x4 + 1)) x212000 x212001) else (some false)) else (none)) else (some false))) else (none)) else (none)) else (spec_l09Is.l1 k x3 0 x212000 x212001)
def spec_l09Is.l1 : Nat → Int → Int → List (S74) → List (List Int) → Option (Bool)
 | 0, _, _, _, _ => none
 | k + 1, x3, x5, x212000, x212001 => if x5 < x3 then (spec_l09Is.l2 k x3 x5 0 x212000 x212001) else (spec_l09Is.l3 k x3 0 x212000 x212001)
def spec_l09Is.l2 : Nat → Int → Int → Int → List (S74) → List (List Int) → Option (Bool)
 | 0, _, _, _, _, _ => none
 | k + 1, x3, x5, x6, x212000, x212001 => if x6 < x3 then (if 0 ≤ x5 then (if x5 < (x212001.length : Int) then (if 0 ≤ x6 then (if x6 < ((rd_L1 x212001 x5).length : Int) then (if x5 = x6 then (if (rd (rd_L1 x212001 x5) x6) = 0 then (spec_l09Is.l2 k x3 x5 (wrap64 (x6 + 1)) x212000 x212001) else (some false)) else ((spec_l01In.f (rd (rd_L1 x212001 x5) x6) 1 200).bind fun t217 => (if t217 = true then (if x6 < (x212001.length : Int) then (if x5 < ((rd_L1 x212001 x6).length : Int) then (spec_l09Is.j4 k x3 x5 x6 (rd (rd_L1 x212001 x5) x6) ((rd (rd_L1 x212001 x5) x6) != (rd (rd_L1 x212001 x6) x5)) x212000 x212001) else (none)) else (none)) else (spec_l09Is.j4 k x3 x5 x6 (rd (rd_L1 x212001 x5) x6) true x212000 x212001)))) else (none)) else (none)) else (none)) else (none)) else (spec_l09Is.l1 k x3 (wrap64 (x5 + 1)) x212000 x212001)
def spec_l09Is.j4 : Nat → Int → Int → Int → Int → Bool → List (S74) → List (List Int) → Option (Bool)
 | 0, _, _, _, _, _, _, _ => none
 | k + 1, x3, x5, x6, x7, x73, x212000, x212001 => if x73 = true then (some false) else (if x5 < x6 then (if 0 ≤ x5 then (if x5 < (x212000.length : Int) then (if 0 ≤ x6 then (if x6 < (x212000.length : Int) then ((spec_l09Pair.f k ((rd_T74 x212000 x5).f0) ((rd_T74 x212000 x6).f0) x7).bind fun t222 => (if t222 = true then (spec_l09Is.l2 k x3 x5 (wrap64 (x6 + 1)) x212000 x212001) else (some false))) else (none)) else (none)) else (none)) else (none)) else (spec_l09Is.l2 k x3 x5 (wrap64 (x6 + 1)) x212000 x212001))
def spec_l09Is.l3 : Nat → Int → Int → List (S74) → List (List Int) → Option (Bool)
 | 0, _, _, _, _ => none
 | k + 1, x3, x8, x212000, x212001 => if x8 < x3 then (spec_l09Is.l4 k x3 x8 0 x212000 x212001) else (some true)
def spec_l09Is.l4 : Nat → Int → Int → Int → List (S74) → List (List Int) → Option (Bool)
 | 0, _, _, _, _, _ => none
 | k + 1, x3, x8, x9, x212000, x212001 => if x9 < x3 then (spec_l09Is.l5 k x3 x8 x9 0 x212000 x212001) else (spec_l09Is.l3 k x3 (wrap64 (x8 + 1)) x212000 x212001)
def spec_l09Is.l5 : Nat → Int → Int → Int → Int → List (S74) → List (List Int) → Option (Bool)
 | 0, _, _, _, _, _, _ => none
 | k + 1, x3, x8, x9, x10, x212000, x212001 => if x10 < x3 then (if x8 = x9 then (spec_l09Is.l5 k x3 x8 x9 (wrap64 (x10 + 1)) x212000 x212001) else (if x8 = x10 then (spec_l09Is.l5 k x3 x8 x9 (wrap64 (x10 + 1)) x212000 x212001) else (if x10 = x9 then (spec_l09Is.l5 k x3 x8 x9 (wrap64 (x10 + 1)) x212000 x212001) else (if 0 ≤ x8 then (if x8 < (x212001.length : Int) then (if 0 ≤ x9 then (if x9 < ((rd_L1 x212001 x8).length : Int) then (if 0 ≤ x10 then (if x10 < ((rd_L1 x212001 x8).length : Int) then (if x10 < (x212001.length : Int) then (if x9 < ((rd_L1 x212001 x10).length : Int) then (if (rd (rd_L1 x212001 x8) x9) < (mn (rd (rd_L1 x212001 x8) x10) (rd (rd_L1 x212001 x10) x9)) then (some false) else (spec_l09Is.l5 k x3 x8 x9 (wrap64 (x10 + 1)) x212000 x212001)) else (none)) else (none)) else (none)) else (none)) else (none)) else (none)) else (none)) else (none))))) else (spec_l09Is.l4 k x3 x8 (wrap64 (x9 + 1)) x212000 x212001)
end
def spec_l09Is.f (k : Nat) (l0_0 : List (S74)) (l0_1 : List (List Int)) : Option (Bool) := if (l0_0.length : Int) < 1 then (spec_l09Is.j0 k (l0_0.length : Int) true l0_0 l0_1) else (if (l0_0.length : Int) > 6 then (spec_l09Is.j0 k (l0_0.length : Int) true l0_0 l0_1) else (spec_l09Is.j0 k (l0_0.length : Int) ((l0_1.length : Int) != (l0_0.length : Int)) l0_0 l0_1))
def spec_l09Is.T21 : Bool × List (List Nat × List Nat) := (true, [([], []), ([], []), ([0, 1], [0, 1]), ([2], [2]), ([3], [3]), ([4, 3], [3, 4]), ([3], [3]), ([5, 6, 3], [3, 5, 6]), ([7, 3], [3, 7]), ([3], [3]), ([9, 3], [3, 9]), ([3], [3]), ([10, 11, 3], [3, 10, 11]), ([12, 3], [3, 12]), ([3], [3]), ([8, 13, 14, 3, 3], [3, 8, 13, 14]), ([15, 3], [3, 15]), ([3, 16], [3, 16]), ([17, 15], [17])])
def spec_l09Is.B21 : List Nat := [0, 0, 3, 7, 15, 31, 15, 127, 255, 15, 527, 15, 3599, 7695, 15, 32767, 65535, 131071, 262143]
theorem spec_l09Is.tab21 : rtab .any (opsOf Tryd.f17 21) = spec_l09Is.T21 := by kernel_rfl
theorem spec_l09Is.bits21 : waitsOk spec_l09Is.T21.2 spec_l09Is.B21 = true := by kernel_rfl
def spec_l09Is.T32 : Bool × List (List Nat × List Nat) := (true, [([], []), ([], []), ([0, 1], [0, 1]), ([2], [2]), ([3], [3]), ([3], [3]), ([4, 5, 3], [3, 4, 5]), ([3, 6], [3, 6]), ([7, 3], [7]), ([8], [8]), ([8], [8]), ([9, 10, 8], [8, 9, 10]), ([8, 11], [8, 11]), ([12, 8], [12]), ([13], [13]), ([14, 13], [13, 14]), ([13], [13]), ([15, 16, 13], [13, 15, 16]), ([17, 13], [13, 17]), ([13], [13]), ([18, 19, 13], [13, 18, 19]), ([20, 13], [13, 20]), ([13], [13]), ([22, 13], [13, 22]), ([13], [13]), ([23, 24, 13], [13, 23, 24]), ([25, 13], [13, 25]), ([13], [13]), ([26, 27, 13], [13, 26, 27]), ([28, 13], [13, 28]), ([13], [13]), ([30, 13], [13, 30]), ([13], [13]), ([31, 32, 13], [13, 31, 32]), ([33, 13], [13, 33]), ([13], [13]), ([34, 35, 13], [13, 34, 35]), ([36, 13], [13, 36]), ([29, 37, 13], [13, 29, 37]), ([21, 38, 13], [13, 21, 38]), ([13, 39], [13, 39])])
def spec_l09Is.B32 : List Nat := [0, 0, 3, 7, 15, 15, 63, 127, 255, 511, 511, 2047, 4095, 8191, 16383, 32767, 16383, 131071, 262143, 16383, 1048575, 2097151, 16383, 4210687, 16383, 29376511, 62930943, 16383, 264257535, 532692991, 16383, 1073758207, 16383, 7516209151, 16106143743, 16383, 67645751295, 136365228031, 274873729023, 549755813887, 1099511627775]
theorem spec_l09Is.tab32 : rtab .any (opsOf Tryd.f17 32) = spec_l09Is.T32 := by kernel_rfl
theorem spec_l09Is.bits32 : waitsOk spec_l09Is.T32.2 spec_l09Is.B32 = true := by kernel_rfl
set_option maxHeartbeats 8000000 in
set_option maxRecDepth 100000 in
theorem spec_l09Is.calls (k : Nat) (A0_0 : Option Addr) (c0_0 : Nat) (l0_0 : List (S74)) (A0_1 : Option Addr) (c0_1 : Nat) (l0_1 : List (List Int)) (r : Bool) (w : World) (hr0_0 : Kd.C k74 w A0_0 l0_0.length l0_0) (hc0_0 : l0_0.length ≤ c0_0) (hr0_1 : Kd.C (Kd.slice 2 (Kd.int .i64)) w A0_1 l0_1.length l0_1) (hc0_1 : l0_1.length ≤ c0_1) (h : spec_l09Is.f k l0_0 l0_1 = some r) :
  Calls Tryd.prog 17 #[.agg #[.slice A0_0 l0_0.length c0_0, .slice A0_1 l0_1.length c0_1]] w fun e w' => e = .returned (.bool r) ∧ Below w.heap.size w w' := by
 have hu31 := Tryd.underlying31
 have hu74 := Tryd.underlying74
 have HR0_0 := Aside0.mk hr0_0
 have HC0_0 := Aside0.mk hc0_0
 clear hr0_0 hc0_0
 have HR0_1 := Aside0.mk hr0_1
 have HC0_1 := Aside0.mk hc0_1
 clear hr0_1 hc0_1
 have HB := Aside0.mk (Below.refl w.heap.size w)
 have H : (if (l0_0.length : Int) < 1 then (spec_l09Is.j0 k (l0_0.length : Int) true l0_0 l0_1) else (if (l0_0.length : Int) > 6 then (spec_l09Is.j0 k (l0_0.length : Int) true l0_0 l0_1) else (spec_l09Is.j0 k (l0_0.length : Int) ((l0_1.length : Int) != (l0_0.length : Int)) l0_0 l0_1))) = some r := h
 clear h
 have HC2 := Aside0.mk H
 clear H
 go_enter Tryd.func17, Tryd.ntmps17
 go_upto_region 2 with (first | ((with_reducible refine gate_dst (N := 1) rfl ?_); (try (refine gate_guard (by rfl) ?_; dsimp only)); refine box_event ?hg (N := 1) ?hd (cs := #[.slice A0_0 l0_0.length c0_0, .slice A0_1 l0_1.length c0_1]) (t := 31) ?hr ?_; (case hd => rfl); (case hg => rfl); (case hr => first | (go_simp; done) | (go_simp; rfl)); intro gb211 hg w3 hbox hb; have BK211 := Aside0.mk (hbox); have GW211 := Aside0.mk ((by rw [hg]; exact (below_size bq) : w.heap.size ≤ gb211)); have GE211 := Aside0.mk ((by rw [hg]; exact (below_size bq) : w.heap.size ≤ gb211)); replace HB := Aside0.mk (below_step bq hb); clear hb hbox hg; have hcz4_0 := bc0 BK211; have hcz4_1 := bc1 BK211; have hfz4_0 := blk_frozen BK211.out 0; have hfz4_1 := blk_frozen BK211.out 1))
 (try simp only [Act.put, List.setIfInBounds_toArray, List.set_cons_zero, List.set_cons_succ])
 go_cut [26] (fun v26 wc => ∃ (kq : Nat) (x26_1 : Bool), v26 = .bool x26_1 ∧ Aside0 (spec_l09Is.j0 kq (l0_0.length : Int) x26_1 l0_0 l0_1 = some r) ∧ Aside0 (kq ≤ k) ∧ Aside0 (wc.heap[gb211]? = some (.cells #[(.slice A0_0 l0_0.length c0_0), (.slice A0_1 l0_1.length c0_1)] 31 (0, 0))) ∧ Aside0 (Below w.heap.size w wc))
 case first =>
  have H := HC2.out
  clear HC2
  by_cases c5 : (l0_0.length : Int) < 1
  ·rw [if_pos c5] at H
   have c5b0 : decide ((l0_0.length : Int) < 1) = true := decide_eq_true c5
   have c5b1 : decide (l0_0.length < 1) = true := decide_eq_true (by omega)
   clear c5
   (first | rw [c5b0] | (simp only [i64_w, i32_w]; rw [c5b0]) | skip)
   have H' := Aside0.mk H
   clear H
   go_wp2
   go_meet
   case rel => exact ⟨_, (true), (by first | rfl | (simp; done) | (simp [*]; done)), H', ⟨by first | omega | exact Nat.le_refl _⟩, ⟨bk BK211⟩, ⟨bq⟩⟩
  ·rw [if_neg c5] at H
   have c5b0 : decide ((l0_0.length : Int) < 1) = false := decide_eq_false c5
   have c5b1 : decide (l0_0.length < 1) = false := decide_eq_false (by omega)
   clear c5
   (first | rw [c5b0] | (simp only [i64_w, i32_w]; rw [c5b0]) | skip)
   by_cases c6 : (l0_0.length : Int) > 6
   ·rw [if_pos c6] at H
    have c6b0 : decide (6 < (l0_0.length : Int)) = true := decide_eq_true c6
    have c6b1 : decide (6 < l0_0.length) = true := decide_eq_true (by omega)
    clear c6
    have H' := Aside0.mk H
    clear H
    go_wp2
    go_meet
    case rel => exact ⟨_, (true), (by first | rfl | (simp; done) | (simp [*]; done)), H', ⟨by first | omega | exact Nat.le_refl _⟩, ⟨bk BK211⟩, ⟨bq⟩⟩
   ·rw [if_neg c6] at H
    have c6b0 : decide (6 < (l0_0.length : Int)) = false := decide_eq_false c6
    have c6b1 : decide (6 < l0_0.length) = false := decide_eq_false (by omega)
    clear c6
    have H' := Aside0.mk H
    clear H
    have hcz7_0 := bc0 BK211
    have hcz7_1 := bc1 BK211
    have hfz7_0 := blk_frozen BK211.out 0
    have hfz7_1 := blk_frozen BK211.out 1
    go_wp2
    go_meet
    case rel => exact ⟨_, (((l0_1.length : Int) != (l0_0.length : Int))), (by first | rfl | (simp; done) | (simp [*]; done)), H', ⟨by first | omega | exact Nat.le_refl _⟩, ⟨bk BK211⟩, ⟨bq⟩⟩
 case rest =>
  clear HC2
  try clear c1
  try clear p2
  try clear c5
  try clear c5b0
  try clear c5b1
  try clear c6
  try clear c6b0
  try clear c6b1
  try clear hcz4_0
  try clear hcz4_1
  try clear hcz7_0
  try clear hcz7_1
  try clear hfz4_0
  try clear hfz4_1
  try clear hfz7_0
  try clear hfz7_1
  obtain ⟨kq, x26_1, rfl, HA, HJ1, BK211, HB⟩ := hcut
  cases kq with
  | zero => exact absurd HA.out (by simp [spec_l09Is.j0])
  | succ kj1 =>
   have H := HA.out
   clear HA
   simp only [spec_l09Is.j0] at H
   by_cases c8 : x26_1 = true
   ·subst c8
    have H1 : (some false) = some r := by rw [if_pos rfl] at H; exact H
    clear H
    have H := H1
    clear H1
    obtain rfl := Option.some.inj H
    go_wp2
    go_ret
    exact ⟨eq_, bq⟩
   ·replace c8 := Bool.eq_false_iff.mpr c8
    subst c8
    have H1 : (spec_l09Is.l0 kj1 (l0_0.length : Int) 0 l0_0 l0_1) = some r := by rw [if_neg (show ¬ (false = true) by decide)] at H; exact H
    clear H
    have H := H1
    clear H1
    have H' := Aside0.mk H
    clear H
    go_wp2
    go_loopg [4] kj1 (fun kq v4 w' => ∃ (x4_2 : Int), v4 = .int .i64 x4_2 ∧ Aside0 (spec_l09Is.l0 kq (l0_0.length : Int) x4_2 l0_0 l0_1 = some r) ∧ Aside0 (kq ≤ kj1) ∧ Aside0 (w'.heap[gb211]? = some (.cells #[(.slice A0_0 l0_0.length c0_0), (.slice A0_1 l0_1.length c0_1)] 31 (0, 0))) ∧ Aside0 (Below w.heap.size w w'))
    case atStart => exact ⟨(0), (by first | rfl | (simp; done) | (simp [*]; done)), H', ⟨Nat.le_refl _⟩, ⟨bk BK211⟩, ⟨bq⟩⟩
    case round =>
     clear H'
     try clear c1
     try clear p2
     try clear c5
     try clear c5b0
     try clear c5b1
     try clear c6
     try clear c6b0
     try clear c6b1
     try clear c8
     try clear hcz4_0
     try clear hcz4_1
     try clear hcz7_0
     try clear hcz7_1
     try clear hfz4_0
     try clear hfz4_1
     try clear hfz7_0
     try clear hfz7_1
     try clear p2
     obtain ⟨x4_2, rfl, HA, HK2, BK211, HB⟩ := hrel
     cases gk with
     | zero => exact absurd HA.out (by simp [spec_l09Is.l0])
     | succ k2 =>
      have H := HA.out
      clear HA
      simp only [spec_l09Is.l0] at H
      by_cases c9 : x4_2 < (l0_0.length : Int)
      ·rw [if_pos c9] at H
       have c9b0 : decide (x4_2 < (l0_0.length : Int)) = true := decide_eq_true c9
       clear c9
       revert H
       refine ifr fun c10 H => ?_
       have c10b0 : decide (0 ≤ x4_2) = true := decide_eq_true c10
       clear c10
       revert H
       refine ifr fun c11 H => ?_
       have c11b0 : decide (x4_2 < (l0_0.length : Int)) = true := decide_eq_true c11
       clear c11
       replace H := Option.bind_eq_some_iff.mp H
       obtain ⟨t213, A120, H⟩ := H
       replace H : (if t213 = true then (if x4_2 < (l0_1.length : Int) then (if ((rd_L1 l0_1 x4_2).length : Int) = (l0_0.length : Int) then (spec_l09Is.l0 k2 (l0_0.length : Int) (wrap64 (x4_2 + 1)) l0_0 l0_1) else (some false)) else (none)) else (some false)) = some r := H
       have A12 := Aside0.mk A120
       clear A120
       by_cases c13 : t213 = true
       ·subst c13
        have H1 : (if x4_2 < (l0_1.length : Int) then (if ((rd_L1 l0_1 x4_2).length : Int) = (l0_0.length : Int) then (spec_l09Is.l0 k2 (l0_0.length : Int) (wrap64 (x4_2 + 1)) l0_0 l0_1) else (some false)) else (none)) = some r := by rw [if_pos rfl] at H; exact H
        clear H
        have H := H1
        clear H1
        revert H
        refine ifr fun c14 H => ?_
        have c14b0 : decide (x4_2 < (l0_1.length : Int)) = true := decide_eq_true c14
        clear c14
        by_cases c15 : ((rd_L1 l0_1 x4_2).length : Int) = (l0_0.length : Int)
        ·rw [if_pos c15] at H
         have c15b0 : (((rd_L1 l0_1 x4_2).length : Int) == (l0_0.length : Int)) = true := beq_iff_eq.mpr c15
         have c15b1 : (((rd_L1 l0_1 x4_2).length : Int) != (l0_0.length : Int)) = false := bne_eq_false_iff_eq.mpr c15
         have c15b2 : ((rd_L1 l0_1 x4_2).length == l0_0.length) = true := by first | simpa using c15 | (simp at c15 ⊢; omega)
         clear c15
         have H' := Aside0.mk H
         clear H
         have hcz16_0 := bc0 BK211
         have hcz16_1 := bc1 BK211
         have hfz16_0 := blk_frozen BK211.out 0
         have hfz16_1 := blk_frozen BK211.out 1
         have p212 : 0 ≤ (x4_2 : Int) := ode
         have q212 : x4_2 < (l0_0.length : Int) := ode
         obtain ⟨ad212, A212_0, c212_0, e212, hx212_0, hl212_0, hi212_0⟩ := at_T74 HR0_0.out x4_2 p212 q212
         cases e212
         try replace hx212_0 := (HB.out.cell (World.block_lt_of_cell? w _ hx212_0)).trans hx212_0
         have HR212_0 := Aside0.mk hi212_0
         have HC212_0 := Aside0.mk hl212_0
         clear hi212_0 hl212_0
         replace p212 := eq_true p212
         replace q212 := eq_true q212
         go_wp2_with (first | ((with_reducible refine gate_callee (f := 43) rfl ?_); refine gL 37 Tryd.func43 #[.agg #[.slice A212_0 ((rd_T74 l0_0 x4_2).f0).length c212_0]] ?_; (with_reducible refine (spec_l03Is.calls k2 _ _ ((rd_T74 l0_0 x4_2).f0) true _ ?side1 ?side2 A12.out).mono ?_); (case side1 => exact kc HR212_0); (case side2 => exact HC212_0.out); rintro e w17 ⟨rfl, hb⟩; refine ⟨_, rfl, ?_⟩; replace BK211 := Aside0.mk (blk_below (g := gb211) (o := .cells #[.slice (some ad212) l0_0.length c0_0, .slice A0_1 l0_1.length c0_1] 31 (0, 0)) (bk BK211) hb); replace HB := Aside0.mk (below_step bq hb); (try clear hb); have hcz18_0 := bc0 BK211; have hcz18_1 := bc1 BK211; have hfz18_0 := blk_frozen BK211.out 0; have hfz18_1 := blk_frozen BK211.out 1; have p214 : 0 ≤ (x4_2 : Int) := ode; have q214 : x4_2 < (l0_1.length : Int) := ode; obtain ⟨ad214, A214_0, c214_0, e214, hx214_0, hl214_0, hi214_0⟩ := at_L1 HR0_1.out x4_2 p214 q214; cases e214; replace hx214_0 := (HB.out.cell (World.block_lt_of_cell? w _ hx214_0)).trans hx214_0; have HR214_0 := Aside0.mk hi214_0; have HC214_0 := Aside0.mk hl214_0; clear hi214_0 hl214_0; replace p214 := eq_true p214; replace q214 := eq_true q214))
         go_roundg k2
         case measure => have := HJ1.out; have := HK2.out; omega
         case rel => exact ⟨(wrap64 (x4_2 + 1)), (by first | rfl | (simp; done) | (simp [*]; done)), H', ⟨by have := HJ1.out; have := HK2.out; omega⟩, ⟨bk BK211⟩, ⟨bq⟩⟩
        ·rw [if_neg c15] at H
         have c15b0 : (((rd_L1 l0_1 x4_2).length : Int) == (l0_0.length : Int)) = false := beq_eq_false_iff_ne.mpr c15
         have c15b1 : (((rd_L1 l0_1 x4_2).length : Int) != (l0_0.length : Int)) = true := bne_iff_ne.mpr c15
         have c15b2 : ((rd_L1 l0_1 x4_2).length == l0_0.length) = false := by first | simpa using c15 | (simp at c15 ⊢; omega)
         obtain rfl := Option.some.inj H
         have hcz19_0 := bc0 BK211
         have hcz19_1 := bc1 BK211
         have hfz19_0 := blk_frozen BK211.out 0
         have hfz19_1 := blk_frozen BK211.out 1
         have p212 : 0 ≤ (x4_2 : Int) := ode
         have q212 : x4_2 < (l0_0.length : Int) := ode
         obtain ⟨ad212, A212_0, c212_0, e212, hx212_0, hl212_0, hi212_0⟩ := at_T74 HR0_0.out x4_2 p212 q212
         cases e212
         try replace hx212_0 := (HB.out.cell (World.block_lt_of_cell? w _ hx212_0)).trans hx212_0
         have HR212_0 := Aside0.mk hi212_0
         have HC212_0 := Aside0.mk hl212_0
         clear hi212_0 hl212_0
         replace p212 := eq_true p212
         replace q212 := eq_true q212
         go_wp2_with (first | ((with_reducible refine gate_callee (f := 43) rfl ?_); refine gL 37 Tryd.func43 #[.agg #[.slice A212_0 ((rd_T74 l0_0 x4_2).f0).length c212_0]] ?_; (with_reducible refine (spec_l03Is.calls k2 _ _ ((rd_T74 l0_0 x4_2).f0) true _ ?side1 ?side2 A12.out).mono ?_); (case side1 => exact kc HR212_0); (case side2 => exact HC212_0.out); rintro e w20 ⟨rfl, hb⟩; refine ⟨_, rfl, ?_⟩; replace BK211 := Aside0.mk (blk_below (g := gb211) (o := .cells #[.slice (some ad212) l0_0.length c0_0, .slice A0_1 l0_1.length c0_1] 31 (0, 0)) (bk BK211) hb); replace HB := Aside0.mk (below_step bq hb); (try clear hb); have hcz21_0 := bc0 BK211; have hcz21_1 := bc1 BK211; have hfz21_0 := blk_frozen BK211.out 0; have hfz21_1 := blk_frozen BK211.out 1; have p214 : 0 ≤ (x4_2 : Int) := ode; have q214 : x4_2 < (l0_1.length : Int) := ode; obtain ⟨ad214, A214_0, c214_0, e214, hx214_0, hl214_0, hi214_0⟩ := at_L1 HR0_1.out x4_2 p214 q214; cases e214; replace hx214_0 := (HB.out.cell (World.block_lt_of_cell? w _ hx214_0)).trans hx214_0; have HR214_0 := Aside0.mk hi214_0; have HC214_0 := Aside0.mk hl214_0; clear hi214_0 hl214_0; replace p214 := eq_true p214; replace q214 := eq_true q214))
         go_ret
         exact ⟨eq_, bq⟩
       ·replace c13 := Bool.eq_false_iff.mpr c13
        subst c13
        have H1 : (some false) = some r := by rw [if_neg (show ¬ (false = true) by decide)] at H; exact H
        clear H
        have H := H1
        clear H1
        obtain rfl := Option.some.inj H
        have hcz22_0 := bc0 BK211
        have hcz22_1 := bc1 BK211
        have hfz22_0 := blk_frozen BK211.out 0
        have hfz22_1 := blk_frozen BK211.out 1
        have p212 : 0 ≤ (x4_2 : Int) := ode
        have q212 : x4_2 < (l0_0.length : Int) := ode
        obtain ⟨ad212, A212_0, c212_0, e212, hx212_0, hl212_0, hi212_0⟩ := at_T74 HR0_0.out x4_2 p212 q212
        cases e212
        try replace hx212_0 := (HB.out.cell (World.block_lt_of_cell? w _ hx212_0)).trans hx212_0
        have HR212_0 := Aside0.mk hi212_0
        have HC212_0 := Aside0.mk hl212_0
        clear hi212_0 hl212_0
        replace p212 := eq_true p212
        replace q212 := eq_true q212
        go_wp2_with (first | ((with_reducible refine gate_callee (f := 43) rfl ?_); refine gL 37 Tryd.func43 #[.agg #[.slice A212_0 ((rd_T74 l0_0 x4_2).f0).length c212_0]] ?_; (with_reducible refine (spec_l03Is.calls k2 _ _ ((rd_T74 l0_0 x4_2).f0) false _ ?side1 ?side2 A12.out).mono ?_); (case side1 => exact kc HR212_0); (case side2 => exact HC212_0.out); rintro e w23 ⟨rfl, hb⟩; refine ⟨_, rfl, ?_⟩; replace BK211 := Aside0.mk (blk_below (g := gb211) (o := .cells #[.slice (some ad212) l0_0.length c0_0, .slice A0_1 l0_1.length c0_1] 31 (0, 0)) (bk BK211) hb); replace HB := Aside0.mk (below_step bq hb); (try clear hb)))
        go_ret
        exact ⟨eq_, bq⟩
      ·rw [if_neg c9] at H
       have c9b0 : decide (x4_2 < (l0_0.length : Int)) = false := decide_eq_false c9
       clear c9
       have H' := Aside0.mk H
       clear H
       go_wp2
       go_loopg [5] k2 (fun kq v5 w' => ∃ (x5_3 : Int), v5 = .int .i64 x5_3 ∧ Aside0 (spec_l09Is.l1 kq (l0_0.length : Int) x5_3 l0_0 l0_1 = some r) ∧ Aside0 (kq ≤ k2) ∧ Aside0 (w'.heap[gb211]? = some (.cells #[(.slice A0_0 l0_0.length c0_0), (.slice A0_1 l0_1.length c0_1)] 31 (0, 0))) ∧ Aside0 (Below w.heap.size w w'))
       case atStart => exact ⟨(0), (by first | rfl | (simp; done) | (simp [*]; done)), H', ⟨Nat.le_refl _⟩, ⟨bk BK211⟩, ⟨bq⟩⟩
       case round =>
        clear H'
        try clear c1
        try clear c2
        try clear p2
        try clear q2
        try clear hx2
        try clear c4
        try clear c5
        try clear c5b0
        try clear c5b1
        try clear c6
        try clear c6b0
        try clear c6b1
        try clear p6
        try clear c8
        try clear c9
        try clear c9b0
        try clear c10
        try clear c10b0
        try clear c11
        try clear c11b0
        try clear c13
        try clear c14
        try clear c14b0
        try clear c15
        try clear c15b0
        try clear c15b1
        try clear c15b2
        try clear c17
        try clear c21
        try clear p21
        try clear q21
        try clear hx21
        try clear hcz16_0
        try clear hcz16_1
        try clear hcz18_0
        try clear hcz18_1
        try clear hcz19_0
        try clear hcz19_1
        try clear hcz21_0
        try clear hcz21_1
        try clear hcz22_0
        try clear hcz22_1
        try clear hcz4_0
        try clear hcz4_1
        try clear hcz7_0
        try clear hcz7_1
        try clear hfz16_0
        try clear hfz16_1
        try clear hfz18_0
        try clear hfz18_1
        try clear hfz19_0
        try clear hfz19_1
        try clear hfz21_0
        try clear hfz21_1
        try clear hfz22_0
        try clear hfz22_1
        try clear hfz4_0
        try clear hfz4_1
        try clear hfz7_0
        try clear hfz7_1
        try clear hx212_0
        try clear hx214_0
        try clear p2
        try clear p212
        try clear p214
        try clear q212
        try clear q214
        obtain ⟨x5_3, rfl, HA, HK3, BK211, HB⟩ := hrel
        cases gk with
        | zero => exact absurd HA.out (by simp [spec_l09Is.l1])
        | succ k3 =>
         have H := HA.out
         clear HA
         simp only [spec_l09Is.l1] at H
         by_cases c24 : x5_3 < (l0_0.length : Int)
         ·rw [if_pos c24] at H
          have c24b0 : decide (x5_3 < (l0_0.length : Int)) = true := decide_eq_true c24
          clear c24
          have H' := Aside0.mk H
          clear H
          go_wp2
          go_loopg [6] k3 (fun kq v6 w' => ∃ (x6_4 : Int), v6 = .int .i64 x6_4 ∧ Aside0 (spec_l09Is.l2 kq (l0_0.length : Int) x5_3 x6_4 l0_0 l0_1 = some r) ∧ Aside0 (kq ≤ k3) ∧ Aside0 (w'.heap[gb211]? = some (.cells #[(.slice A0_0 l0_0.length c0_0), (.slice A0_1 l0_1.length c0_1)] 31 (0, 0))) ∧ Aside0 (Below w.heap.size w w'))
          case atStart => exact ⟨(0), (by first | rfl | (simp; done) | (simp [*]; done)), H', ⟨Nat.le_refl _⟩, ⟨bk BK211⟩, ⟨bq⟩⟩
          case round =>
           clear H'
           try clear c1
           try clear c2
           try clear p2
           try clear q2
           try clear hx2
           try clear c4
           try clear c5
           try clear c5b0
           try clear c5b1
           try clear c6
           try clear c6b0
           try clear c6b1
           try clear p6
           try clear c8
           try clear c9
           try clear c9b0
           try clear c10
           try clear c10b0
           try clear c11
           try clear c11b0
           try clear c13
           try clear c14
           try clear c14b0
           try clear c15
           try clear c15b0
           try clear c15b1
           try clear c15b2
           try clear c17
           try clear c21
           try clear p21
           try clear q21
           try clear hx21
           try clear c24
           try clear c24b0
           try clear hcz16_0
           try clear hcz16_1
           try clear hcz18_0
           try clear hcz18_1
           try clear hcz19_0
           try clear hcz19_1
           try clear hcz21_0
           try clear hcz21_1
           try clear hcz22_0
           try clear hcz22_1
           try clear hcz4_0
           try clear hcz4_1
           try clear hcz7_0
           try clear hcz7_1
           try clear hfz16_0
           try clear hfz16_1
           try clear hfz18_0
           try clear hfz18_1
           try clear hfz19_0
           try clear hfz19_1
           try clear hfz21_0
           try clear hfz21_1
           try clear hfz22_0
           try clear hfz22_1
           try clear hfz4_0
           try clear hfz4_1
           try clear hfz7_0
           try clear hfz7_1
           try clear hx212_0
           try clear hx214_0
           try clear p2
           try clear p21
           try clear p212
           try clear p214
           try clear p6
           try clear q2
           try clear q21
           try clear q212
           try clear q214
           obtain ⟨x6_4, rfl, HA, HK4, BK211, HB⟩ := hrel
           cases gk with
           | zero => exact absurd HA.out (by simp [spec_l09Is.l2])
           | succ k4 =>
            have H := HA.out
            clear HA
            simp only [spec_l09Is.l2] at H
            by_cases c25 : x6_4 < (l0_0.length : Int)
            ·rw [if_pos c25] at H
             have c25b0 : decide (x6_4 < (l0_0.length : Int)) = true := decide_eq_true c25
             clear c25
             revert H
             refine ifr fun c26 H => ?_
             have c26b0 : decide (0 ≤ x5_3) = true := decide_eq_true c26
             clear c26
             revert H
             refine ifr fun c27 H => ?_
             have c27b0 : decide (x5_3 < (l0_1.length : Int)) = true := decide_eq_true c27
             clear c27
             revert H
             refine ifr fun c28 H => ?_
             have c28b0 : decide (0 ≤ x6_4) = true := decide_eq_true c28
             clear c28
             revert H
             refine ifr fun c29 H => ?_
             have c29b0 : decide (x6_4 < ((rd_L1 l0_1 x5_3).length : Int)) = true := decide_eq_true c29
             clear c29
             by_cases c30 : x5_3 = x6_4
             ·rw [if_pos c30] at H
              have c30b0 : (x5_3 == x6_4) = true := beq_iff_eq.mpr c30
              have c30b1 : (x5_3 != x6_4) = false := bne_eq_false_iff_eq.mpr c30
              clear c30
              by_cases c31 : (rd (rd_L1 l0_1 x5_3) x6_4) = 0
              ·rw [if_pos c31] at H
               have c31b0 : ((rd (rd_L1 l0_1 x5_3) x6_4) == 0) = true := beq_iff_eq.mpr c31
               have c31b1 : ((rd (rd_L1 l0_1 x5_3) x6_4) != 0) = false := bne_eq_false_iff_eq.mpr c31
               clear c31
               have H' := Aside0.mk H
               clear H
               have hcz32_0 := bc0 BK211
               have hcz32_1 := bc1 BK211
               have hfz32_0 := blk_frozen BK211.out 0
               have hfz32_1 := blk_frozen BK211.out 1
               have p215 : 0 ≤ (x5_3 : Int) := ode
               have q215 : x5_3 < (l0_1.length : Int) := ode
               obtain ⟨ad215, A215_0, c215_0, e215, hx215_0, hl215_0, hi215_0⟩ := at_L1 HR0_1.out x5_3 p215 q215
               cases e215
               try replace hx215_0 := (HB.out.cell (World.block_lt_of_cell? w _ hx215_0)).trans hx215_0
               have HR215_0 := Aside0.mk hi215_0
               have HC215_0 := Aside0.mk hl215_0
               clear hi215_0 hl215_0
               replace p215 := eq_true p215
               replace q215 := eq_true q215
               have p216 : 0 ≤ (x6_4 : Int) := ode
               have q216 : x6_4 < ((rd_L1 l0_1 x5_3).length : Int) := ode
               obtain ⟨ad216, e216, hx216_0⟩ := Kd.at_int HR215_0.out x6_4 p216 q216
               cases e216
               try replace hx216_0 := (HB.out.cell (World.block_lt_of_cell? w _ hx216_0)).trans hx216_0
               replace p216 := eq_true p216
               replace q216 := eq_true q216
               go_wp2
               go_roundg k4
               case measure => have := HJ1.out; have := HK2.out; have := HK3.out; have := HK4.out; omega
               case rel => exact ⟨(wrap64 (x6_4 + 1)), (by first | rfl | (simp; done) | (simp [*]; done)), H', ⟨by have := HJ1.out; have := HK2.out; have := HK3.out; have := HK4.out; omega⟩, ⟨bk BK211⟩, ⟨bq⟩⟩
              ·rw [if_neg c31] at H
               have c31b0 : ((rd (rd_L1 l0_1 x5_3) x6_4) == 0) = false := beq_eq_false_iff_ne.mpr c31
               have c31b1 : ((rd (rd_L1 l0_1 x5_3) x6_4) != 0) = true := bne_iff_ne.mpr c31
               obtain rfl := Option.some.inj H
               have hcz33_0 := bc0 BK211
               have hcz33_1 := bc1 BK211
               have hfz33_0 := blk_frozen BK211.out 0
               have hfz33_1 := blk_frozen BK211.out 1
               have p215 : 0 ≤ (x5_3 : Int) := ode
               have q215 : x5_3 < (l0_1.length : Int) := ode
               obtain ⟨ad215, A215_0, c215_0, e215, hx215_0, hl215_0, hi215_0⟩ := at_L1 HR0_1.out x5_3 p215 q215
               cases e215
               try replace hx215_0 := (HB.out.cell (World.block_lt_of_cell? w _ hx215_0)).trans hx215_0
               have HR215_0 := Aside0.mk hi215_0
               have HC215_0 := Aside0.mk hl215_0
               clear hi215_0 hl215_0
               replace p215 := eq_true p215
               replace q215 := eq_true q215
               have p216 : 0 ≤ (x6_4 : Int) := ode
               have q216 : x6_4 < ((rd_L1 l0_1 x5_3).length : Int) := ode
               obtain ⟨ad216, e216, hx216_0⟩ := Kd.at_int HR215_0.out x6_4 p216 q216
               cases e216
               try replace hx216_0 := (HB.out.cell (World.block_lt_of_cell? w _ hx216_0)).trans hx216_0
               replace p216 := eq_true p216
               replace q216 := eq_true q216
               go_wp2
               go_ret
               exact ⟨eq_, bq⟩
             ·rw [if_neg c30] at H
              have c30b0 : (x5_3 == x6_4) = false := beq_eq_false_iff_ne.mpr c30
              have c30b1 : (x5_3 != x6_4) = true := bne_iff_ne.mpr c30
              have HC34 := Aside0.mk H
              clear H
              have hcz35_0 := bc0 BK211
              have hcz35_1 := bc1 BK211
              have hfz35_0 := blk_frozen BK211.out 0
              have hfz35_1 := blk_frozen BK211.out 1
              have p215 : 0 ≤ (x5_3 : Int) := ode
              have q215 : x5_3 < (l0_1.length : Int) := ode
              obtain ⟨ad215, A215_0, c215_0, e215, hx215_0, hl215_0, hi215_0⟩ := at_L1 HR0_1.out x5_3 p215 q215
              cases e215
              try replace hx215_0 := (HB.out.cell (World.block_lt_of_cell? w _ hx215_0)).trans hx215_0
              have HR215_0 := Aside0.mk hi215_0
              have HC215_0 := Aside0.mk hl215_0
              clear hi215_0 hl215_0
              replace p215 := eq_true p215
              replace q215 := eq_true q215
              have p216 : 0 ≤ (x6_4 : Int) := ode
              have q216 : x6_4 < ((rd_L1 l0_1 x5_3).length : Int) := ode
              obtain ⟨ad216, e216, hx216_0⟩ := Kd.at_int HR215_0.out x6_4 p216 q216
              cases e216
              try replace hx216_0 := (HB.out.cell (World.block_lt_of_cell? w _ hx216_0)).trans hx216_0
              replace p216 := eq_true p216
              replace q216 := eq_true q216
              go_upto_region 19 with (fail)
              go_cut [73] (fun v73 wc => ∃ (kq : Nat) (x73_33 : Bool), v73 = .bool x73_33 ∧ Aside0 (spec_l09Is.j4 kq (l0_0.length : Int) x5_3 x6_4 (rd (rd_L1 l0_1 x5_3) x6_4) x73_33 l0_0 l0_1 = some r) ∧ Aside0 (kq ≤ k4) ∧ Aside0 (wc.heap[gb211]? = some (.cells #[(.slice A0_0 l0_0.length c0_0), (.slice (some ad215) l0_1.length c0_1)] 31 (0, 0))) ∧ Aside0 (Below w.heap.size w wc))
              case first =>
               have H := HC34.out
               clear HC34
               replace H := Option.bind_eq_some_iff.mp H
               obtain ⟨t217, A360, H⟩ := H
               replace H : (if t217 = true then (if x6_4 < (l0_1.length : Int) then (if x5_3 < ((rd_L1 l0_1 x6_4).length : Int) then (spec_l09Is.j4 k4 (l0_0.length : Int) x5_3 x6_4 (rd (rd_L1 l0_1 x5_3) x6_4) ((rd (rd_L1 l0_1 x5_3) x6_4) != (rd (rd_L1 l0_1 x6_4) x5_3)) l0_0 l0_1) else (none)) else (none)) else (spec_l09Is.j4 k4 (l0_0.length : Int) x5_3 x6_4 (rd (rd_L1 l0_1 x5_3) x6_4) true l0_0 l0_1)) = some r := H
               have A36 := Aside0.mk A360
               clear A360
               by_cases c37 : t217 = true
               ·subst c37
                have H1 : (if x6_4 < (l0_1.length : Int) then (if x5_3 < ((rd_L1 l0_1 x6_4).length : Int) then (spec_l09Is.j4 k4 (l0_0.length : Int) x5_3 x6_4 (rd (rd_L1 l0_1 x5_3) x6_4) ((rd (rd_L1 l0_1 x5_3) x6_4) != (rd (rd_L1 l0_1 x6_4) x5_3)) l0_0 l0_1) else (none)) else (none)) = some r := by rw [if_pos rfl] at H; exact H
                clear H
                have H := H1
                clear H1
                revert H
                refine ifr fun c38 H => ?_
                have c38b0 : decide (x6_4 < (l0_1.length : Int)) = true := decide_eq_true c38
                clear c38
                (first | rw [c38b0] | (simp only [i64_w, i32_w]; rw [c38b0]) | skip)
                revert H
                refine ifr fun c39 H => ?_
                have c39b0 : decide (x5_3 < ((rd_L1 l0_1 x6_4).length : Int)) = true := decide_eq_true c39
                clear c39
                have H' := Aside0.mk H
                clear H
                go_wp2_with (first | ((with_reducible refine gate_callee (f := 44) rfl ?_); refine gL 75 Tryd.func44 #[.int .i64 (rd (rd_L1 l0_1 x5_3) x6_4), .int .i64 1, .int .i64 200] ?_; (with_reducible refine (spec_l01In.calls (rd (rd_L1 l0_1 x5_3) x6_4) 1 200 true _ A36.out).mono ?_); rintro e w' ⟨rfl, ⟨nd, rfl⟩⟩; refine ⟨_, rfl, ?_⟩; have hcz40_0 := bc0 BK211; have hcz40_1 := bc1 BK211; have hfz40_0 := blk_frozen BK211.out 0; have hfz40_1 := blk_frozen BK211.out 1; have p218 : 0 ≤ (x6_4 : Int) := ode; have q218 : x6_4 < (l0_1.length : Int) := ode; obtain ⟨ad218, A218_0, c218_0, e218, hx218_0, hl218_0, hi218_0⟩ := at_L1 HR0_1.out x6_4 p218 q218; obtain rfl : ad215 = ad218 := (by injection e218); replace hx218_0 := (HB.out.cell (World.block_lt_of_cell? w _ hx218_0)).trans hx218_0; have HR218_0 := Aside0.mk hi218_0; have HC218_0 := Aside0.mk hl218_0; clear hi218_0 hl218_0; replace p218 := eq_true p218; replace q218 := eq_true q218; have p219 : 0 ≤ (x5_3 : Int) := ode; have q219 : x5_3 < ((rd_L1 l0_1 x6_4).length : Int) := ode; obtain ⟨ad219, e219, hx219_0⟩ := Kd.at_int HR218_0.out x5_3 p219 q219; cases e219; replace hx219_0 := (HB.out.cell (World.block_lt_of_cell? w _ hx219_0)).trans hx219_0; replace p219 := eq_true p219; replace q219 := eq_true q219))
                go_meet
                case rel => exact ⟨_, (((rd (rd_L1 l0_1 x5_3) x6_4) != (rd (rd_L1 l0_1 x6_4) x5_3))), (by first | rfl | (simp; done) | (simp [*]; done)), H', ⟨by have := HJ1.out; have := HK2.out; have := HK3.out; have := HK4.out; first | omega | exact Nat.le_refl _⟩, ⟨bk BK211⟩, ⟨bq⟩⟩
               ·replace c37 := Bool.eq_false_iff.mpr c37
                subst c37
                have H1 : (spec_l09Is.j4 k4 (l0_0.length : Int) x5_3 x6_4 (rd (rd_L1 l0_1 x5_3) x6_4) true l0_0 l0_1) = some r := by rw [if_neg (show ¬ (false = true) by decide)] at H; exact H
                clear H
                have H := H1
                clear H1
                have H' := Aside0.mk H
                clear H
                go_wp2_with (first | ((with_reducible refine gate_callee (f := 44) rfl ?_); refine gL 75 Tryd.func44 #[.int .i64 (rd (rd_L1 l0_1 x5_3) x6_4), .int .i64 1, .int .i64 200] ?_; (with_reducible refine (spec_l01In.calls (rd (rd_L1 l0_1 x5_3) x6_4) 1 200 false _ A36.out).mono ?_); rintro e w' ⟨rfl, ⟨nd, rfl⟩⟩; refine ⟨_, rfl, ?_⟩))
                go_meet
                case rel => exact ⟨_, (true), (by first | rfl | (simp; done) | (simp [*]; done)), H', ⟨by have := HJ1.out; have := HK2.out; have := HK3.out; have := HK4.out; first | omega | exact Nat.le_refl _⟩, ⟨bk BK211⟩, ⟨bq⟩⟩
              case rest =>
               clear HC34
               try clear c1
               try clear c2
               try clear p2
               try clear q2
               try clear hx2
               try clear c3
               try clear c4
               try clear c5
               try clear c5b0
               try clear c5b1
               try clear c6
               try clear c6b0
               try clear c6b1
               try clear p6
               try clear c8
               try clear c9
               try clear c9b0
               try clear c10
               try clear c10b0
               try clear c11
               try clear c11b0
               try clear c13
               try clear c14
               try clear c14b0
               try clear c15
               try clear c15b0
               try clear c15b1
               try clear c15b2
               try clear c17
               try clear c21
               try clear p21
               try clear q21
               try clear hx21
               try clear c24
               try clear c24b0
               try clear c25
               try clear c25b0
               try clear c26
               try clear c26b0
               try clear c27
               try clear c27b0
               try clear c28
               try clear c28b0
               try clear c29
               try clear c29b0
               try clear c30
               try clear c30b0
               try clear c30b1
               try clear c31
               try clear c31b0
               try clear c31b1
               try clear c37
               try clear c38
               try clear c38b0
               try clear c39
               try clear c39b0
               try clear hcz16_0
               try clear hcz16_1
               try clear hcz18_0
               try clear hcz18_1
               try clear hcz19_0
               try clear hcz19_1
               try clear hcz21_0
               try clear hcz21_1
               try clear hcz22_0
               try clear hcz22_1
               try clear hcz32_0
               try clear hcz32_1
               try clear hcz33_0
               try clear hcz33_1
               try clear hcz35_0
               try clear hcz35_1
               try clear hcz40_0
               try clear hcz40_1
               try clear hcz4_0
               try clear hcz4_1
               try clear hcz7_0
               try clear hcz7_1
               try clear hfz16_0
               try clear hfz16_1
               try clear hfz18_0
               try clear hfz18_1
               try clear hfz19_0
               try clear hfz19_1
               try clear hfz21_0
               try clear hfz21_1
               try clear hfz22_0
               try clear hfz22_1
               try clear hfz32_0
               try clear hfz32_1
               try clear hfz33_0
               try clear hfz33_1
               try clear hfz35_0
               try clear hfz35_1
               try clear hfz40_0
               try clear hfz40_1
               try clear hfz4_0
               try clear hfz4_1
               try clear hfz7_0
               try clear hfz7_1
               try clear hx212_0
               try clear hx214_0
               try clear hx215_0
               try clear hx216_0
               try clear hx218_0
               try clear hx219_0
               try clear p2
               try clear p21
               try clear p212
               try clear p214
               try clear p215
               try clear p216
               try clear p218
               try clear p219
               try clear p6
               try clear q2
               try clear q21
               try clear q212
               try clear q214
               try clear q215
               try clear q216
               try clear q218
               try clear q219
               obtain ⟨kq, x73_33, rfl, HA, HJ33, BK211, HB⟩ := hcut
               cases kq with
               | zero => exact absurd HA.out (by simp [spec_l09Is.j4])
               | succ kj33 =>
                have H := HA.out
                clear HA
                simp only [spec_l09Is.j4] at H
                by_cases c41 : x73_33 = true
                ·subst c41
                 have H1 : (some false) = some r := by rw [if_pos rfl] at H; exact H
                 clear H
                 have H := H1
                 clear H1
                 obtain rfl := Option.some.inj H
                 go_wp2
                 go_ret
                 exact ⟨eq_, bq⟩
                ·replace c41 := Bool.eq_false_iff.mpr c41
                 subst c41
                 have H1 : (if x5_3 < x6_4 then (if 0 ≤ x5_3 then (if x5_3 < (l0_0.length : Int) then (if 0 ≤ x6_4 then (if x6_4 < (l0_0.length : Int) then ((spec_l09Pair.f kj33 ((rd_T74 l0_0 x5_3).f0) ((rd_T74 l0_0 x6_4).f0) (rd (rd_L1 l0_1 x5_3) x6_4)).bind fun t222 => (if t222 = true then (spec_l09Is.l2 kj33 (l0_0.length : Int) x5_3 (wrap64 (x6_4 + 1)) l0_0 l0_1) else (some false))) else (none)) else (none)) else (none)) else (none)) else (spec_l09Is.l2 kj33 (l0_0.length : Int) x5_3 (wrap64 (x6_4 + 1)) l0_0 l0_1)) = some r := by rw [if_neg (show ¬ (false = true) by decide)] at H; exact H
                 clear H
                 have H := H1
                 clear H1
                 by_cases c42 : x5_3 < x6_4
                 ·rw [if_pos c42] at H
                  have c42b0 : decide (x5_3 < x6_4) = true := decide_eq_true c42
                  clear c42
                  revert H
                  refine ifr fun c43 H => ?_
                  have c43b0 : decide (0 ≤ x5_3) = true := decide_eq_true c43
                  clear c43
                  revert H
                  refine ifr fun c44 H => ?_
                  have c44b0 : decide (x5_3 < (l0_0.length : Int)) = true := decide_eq_true c44
                  clear c44
                  revert H
                  refine ifr fun c45 H => ?_
                  have c45b0 : decide (0 ≤ x6_4) = true := decide_eq_true c45
                  clear c45
                  revert H
                  refine ifr fun c46 H => ?_
                  have c46b0 : decide (x6_4 < (l0_0.length : Int)) = true := decide_eq_true c46
                  clear c46
                  replace H := Option.bind_eq_some_iff.mp H
                  obtain ⟨t222, A470, H⟩ := H
                  replace H : (if t222 = true then (spec_l09Is.l2 kj33 (l0_0.length : Int) x5_3 (wrap64 (x6_4 + 1)) l0_0 l0_1) else (some false)) = some r := H
                  have A47 := Aside0.mk A470
                  clear A470
                  by_cases c48 : t222 = true
                  ·subst c48
                   have H1 : (spec_l09Is.l2 kj33 (l0_0.length : Int) x5_3 (wrap64 (x6_4 + 1)) l0_0 l0_1) = some r := by rw [if_pos rfl] at H; exact H
                   clear H
                   have H := H1
                   clear H1
                   have H' := Aside0.mk H
                   clear H
                   try go_wp2
                   have n0_ := Aside0.mk (blk_drew BK211.out)
                   have n1_ := Aside0.mk (below_drew1 HB.out)
                   clear BK211
                   clear HB
                   have BK211 := n0_
                   have HB := n1_
                   clear n0_ n1_
                   have p220 : 0 ≤ (x5_3 : Int) := ode
                   have q220 : x5_3 < (l0_0.length : Int) := ode
                   obtain ⟨ad220, A220_0, c220_0, e220, hx220_0, hl220_0, hi220_0⟩ := at_T74 HR0_0.out x5_3 p220 q220
                   have hw220_0 := hx220_0
                   cases e220
                   try replace hx220_0 := (HB.out.cell (World.block_lt_of_cell? w _ hx220_0)).trans hx220_0
                   have HR220_0 := Aside0.mk hi220_0
                   have HC220_0 := Aside0.mk hl220_0
                   clear hi220_0 hl220_0
                   replace p220 := eq_true p220
                   replace q220 := eq_true q220
                   have p221 : 0 ≤ (x6_4 : Int) := ode
                   have q221 : x6_4 < (l0_0.length : Int) := ode
                   obtain ⟨ad221, A221_0, c221_0, e221, hx221_0, hl221_0, hi221_0⟩ := at_T74 HR0_0.out x6_4 p221 q221
                   have hw221_0 := hx221_0
                   obtain rfl : ad220 = ad221 := (by injection e221)
                   try replace hx221_0 := (HB.out.cell (World.block_lt_of_cell? w _ hx221_0)).trans hx221_0
                   have HR221_0 := Aside0.mk hi221_0
                   have HC221_0 := Aside0.mk hl221_0
                   clear hi221_0 hl221_0
                   replace p221 := eq_true p221
                   replace q221 := eq_true q221
                   refine start_ (n := 19) (S := fun w' => w'.cell? ⟨gb211, 0, none⟩ = some (.slice (some ad220) l0_0.length c0_0) ∧ w'.cell? ⟨gb211, 1, none⟩ = some (.slice (some ad215) l0_1.length c0_1) ∧ w'.cell? (ad220.add (x5_3).toNat) = some (.slice A220_0 ((rd_T74 l0_0 x5_3).f0).length c220_0) ∧ w'.cell? (ad220.add (x6_4).toNat) = some (.slice A221_0 ((rd_T74 l0_0 x6_4).f0).length c221_0)) (ds := []) (bA 19 0) (by kernel_rfl) rfl (by kernel_rfl) ⟨(blk_cell BK211.out 0).trans rfl, (blk_cell BK211.out 1).trans rfl, ((HB.out.cell (World.block_lt_of_cell? w _ hw220_0)).trans hw220_0), ((HB.out.cell (World.block_lt_of_cell? w _ hw221_0)).trans hw221_0)⟩ (fun hHeld => ?_); refine with_tabW spec_l09Is.tab21 spec_l09Is.bits21 (fun HT_ HW_ => ?_)
                   generalize wc.drew = w49 at BK211 HB HR220_0 HR221_0 hx220_0 hx221_0 hHeld ⊢
                   refine pu HT_ 0 90 1 ?_
                   refine pu HT_ 1 91 3 ?_
                   refine pu HT_ 2 92 7 ?_
                   refine pu HT_ 3 93 15 ?_
                   refine pu HT_ 4 94 31 ?_
                   refine pu HT_ 6 96 95 ?_
                   refine pu HT_ 9 99 607 ?_
                   refine pu HT_ 11 101 2655 ?_
                   refine pu HT_ 14 104 19039 ?_
                   refine tk4 HT_ HW_ hHeld 5 95 19071 ?_
                   refine pu HT_ 7 97 19199 ?_
                   refine tk4 HT_ HW_ hHeld 8 98 19455 ?_
                   refine tk4 HT_ HW_ hHeld 10 100 20479 ?_
                   refine pu HT_ 12 102 24575 ?_
                   refine tk4 HT_ HW_ hHeld 13 103 32767 ?_
                   refine one_ (i := 15) (N := some 105) (bA 19 65535) rfl rfl (one_of HT_.out (by kernel_rfl)) (by decide) (fun K hK => ?_)
                   refine goes_ Tryd.func45 (by kernel_rfl) rfl #[.agg #[.slice A220_0 ((rd_T74 l0_0 x5_3).f0).length c220_0], .agg #[.slice A221_0 ((rd_T74 l0_0 x6_4).f0).length c221_0], .int .i64 (rd (rd_L1 l0_1 x5_3) x6_4)] (by rfl) rfl rfl (by (try simp only [List.map_toArray, List.map_cons, List.map_nil]); first | done | rfl | (simp only [List.length_drop, List.length_take]; rfl)) ?_
                   with_reducible refine (spec_l09Pair.calls kj33 _ _ ((rd_T74 l0_0 x5_3).f0) _ _ ((rd_T74 l0_0 x6_4).f0) (rd (rd_L1 l0_1 x5_3) x6_4) true _ ?side1 ?side2 ?side3 ?side4 A47.out).mono ?_
                   (case side1 => exact kc HR220_0)
                   (case side2 => exact HC220_0.out)
                   (case side3 => exact kc HR221_0)
                   (case side4 => exact HC221_0.out)
                   rintro e w50 ⟨rfl, hb⟩
                   refine ⟨_, rfl, ?_⟩
                   have n0_ := Aside0.mk (blk_below (g := gb211) (o := .cells #[.slice (some ad220) l0_0.length c0_0, .slice (some ad215) l0_1.length c0_1] 31 (0, 0)) (bk BK211) hb)
                   have n1_ := Aside0.mk (below_step bq hb)
                   clear BK211
                   clear HB
                   have BK211 := n0_
                   have HB := n1_
                   clear n0_ n1_
                   
                   
                   
                   
                   refine hK.out _ _ ⟨(blk_cell BK211.out 0).trans rfl, (blk_cell BK211.out 1).trans rfl, ((HB.out.cell (World.block_lt_of_cell? w _ hw220_0)).trans hw220_0), ((HB.out.cell (World.block_lt_of_cell? w _ hw221_0)).trans hw221_0)⟩ (fun hHeld => ?_)
                   clear hK K
                   refine norm_ (a' := ?_) ?_ ?_
                   rotate_left
                   ·show Act.put _ (some 105) _ = _
                    simp only [Act.put, List.setIfInBounds_toArray, List.set_cons_zero, List.set_cons_succ, i64_w, i32_w]
                    rfl
                   refine pu HT_ 16 106 131071 ?_
                   refine pu HT_ 17 107 262143 ?_
                   refine pu HT_ 18 89 524287 ?_
                   refine done_ (done_of HT_.out (by kernel_rfl)) ?_
                   try go_wp2
                   go_roundg kj33
                   case measure => have := HJ1.out; have := HK2.out; have := HK3.out; have := HK4.out; have := HJ33.out; omega
                   case rel => exact ⟨(wrap64 (x6_4 + 1)), (by first | rfl | (simp; done) | (simp [*]; done)), H', ⟨by have := HJ1.out; have := HK2.out; have := HK3.out; have := HK4.out; have := HJ33.out; omega⟩, ⟨bk BK211⟩, ⟨bq⟩⟩
                  ·replace c48 := Bool.eq_false_iff.mpr c48
                   subst c48
                   have H1 : (some false) = some r := by rw [if_neg (show ¬ (false = true) by decide)] at H; exact H
                   clear H
                   have H := H1
                   clear H1
                   obtain rfl := Option.some.inj H
                   try go_wp2
                   have n0_ := Aside0.mk (blk_drew BK211.out)
                   have n1_ := Aside0.mk (below_drew1 HB.out)
                   clear BK211
                   clear HB
                   have BK211 := n0_
                   have HB := n1_
                   clear n0_ n1_
                   have p220 : 0 ≤ (x5_3 : Int) := ode
                   have q220 : x5_3 < (l0_0.length : Int) := ode
                   obtain ⟨ad220, A220_0, c220_0, e220, hx220_0, hl220_0, hi220_0⟩ := at_T74 HR0_0.out x5_3 p220 q220
                   have hw220_0 := hx220_0
                   cases e220
                   try replace hx220_0 := (HB.out.cell (World.block_lt_of_cell? w _ hx220_0)).trans hx220_0
                   have HR220_0 := Aside0.mk hi220_0
                   have HC220_0 := Aside0.mk hl220_0
                   clear hi220_0 hl220_0
                   replace p220 := eq_true p220
                   replace q220 := eq_true q220
                   have p221 : 0 ≤ (x6_4 : Int) := ode
                   have q221 : x6_4 < (l0_0.length : Int) := ode
                   obtain ⟨ad221, A221_0, c221_0, e221, hx221_0, hl221_0, hi221_0⟩ := at_T74 HR0_0.out x6_4 p221 q221
                   have hw221_0 := hx221_0
                   obtain rfl : ad220 = ad221 := (by injection e221)
                   try replace hx221_0 := (HB.out.cell (World.block_lt_of_cell? w _ hx221_0)).trans hx221_0
                   have HR221_0 := Aside0.mk hi221_0
                   have HC221_0 := Aside0.mk hl221_0
                   clear hi221_0 hl221_0
                   replace p221 := eq_true p221
                   replace q221 := eq_true q221
                   refine start_ (n := 19) (S := fun w' => w'.cell? ⟨gb211, 0, none⟩ = some (.slice (some ad220) l0_0.length c0_0) ∧ w'.cell? ⟨gb211, 1, none⟩ = some (.slice (some ad215) l0_1.length c0_1) ∧ w'.cell? (ad220.add (x5_3).toNat) = some (.slice A220_0 ((rd_T74 l0_0 x5_3).f0).length c220_0) ∧ w'.cell? (ad220.add (x6_4).toNat) = some (.slice A221_0 ((rd_T74 l0_0 x6_4).f0).length c221_0)) (ds := []) (bA 19 0) (by kernel_rfl) rfl (by kernel_rfl) ⟨(blk_cell BK211.out 0).trans rfl, (blk_cell BK211.out 1).trans rfl, ((HB.out.cell (World.block_lt_of_cell? w _ hw220_0)).trans hw220_0), ((HB.out.cell (World.block_lt_of_cell? w _ hw221_0)).trans hw221_0)⟩ (fun hHeld => ?_); refine with_tabW spec_l09Is.tab21 spec_l09Is.bits21 (fun HT_ HW_ => ?_)
                   generalize wc.drew = w51 at BK211 HB HR220_0 HR221_0 hx220_0 hx221_0 hHeld ⊢
                   refine pu HT_ 0 90 1 ?_
                   refine pu HT_ 1 91 3 ?_
                   refine pu HT_ 2 92 7 ?_
                   refine pu HT_ 3 93 15 ?_
                   refine pu HT_ 4 94 31 ?_
                   refine pu HT_ 6 96 95 ?_
                   refine pu HT_ 9 99 607 ?_
                   refine pu HT_ 11 101 2655 ?_
                   refine pu HT_ 14 104 19039 ?_
                   refine tk4 HT_ HW_ hHeld 5 95 19071 ?_
                   refine pu HT_ 7 97 19199 ?_
                   refine tk4 HT_ HW_ hHeld 8 98 19455 ?_
                   refine tk4 HT_ HW_ hHeld 10 100 20479 ?_
                   refine pu HT_ 12 102 24575 ?_
                   refine tk4 HT_ HW_ hHeld 13 103 32767 ?_
                   refine one_ (i := 15) (N := some 105) (bA 19 65535) rfl rfl (one_of HT_.out (by kernel_rfl)) (by decide) (fun K hK => ?_)
                   refine goes_ Tryd.func45 (by kernel_rfl) rfl #[.agg #[.slice A220_0 ((rd_T74 l0_0 x5_3).f0).length c220_0], .agg #[.slice A221_0 ((rd_T74 l0_0 x6_4).f0).length c221_0], .int .i64 (rd (rd_L1 l0_1 x5_3) x6_4)] (by rfl) rfl rfl (by (try simp only [List.map_toArray, List.map_cons, List.map_nil]); first | done | rfl | (simp only [List.length_drop, List.length_take]; rfl)) ?_
                   with_reducible refine (spec_l09Pair.calls kj33 _ _ ((rd_T74 l0_0 x5_3).f0) _ _ ((rd_T74 l0_0 x6_4).f0) (rd (rd_L1 l0_1 x5_3) x6_4) false _ ?side1 ?side2 ?side3 ?side4 A47.out).mono ?_
                   (case side1 => exact kc HR220_0)
                   (case side2 => exact HC220_0.out)
                   (case side3 => exact kc HR221_0)
                   (case side4 => exact HC221_0.out)
                   rintro e w52 ⟨rfl, hb⟩
                   refine ⟨_, rfl, ?_⟩
                   have n0_ := Aside0.mk (blk_below (g := gb211) (o := .cells #[.slice (some ad220) l0_0.length c0_0, .slice (some ad215) l0_1.length c0_1] 31 (0, 0)) (bk BK211) hb)
                   have n1_ := Aside0.mk (below_step bq hb)
                   clear BK211
                   clear HB
                   have BK211 := n0_
                   have HB := n1_
                   clear n0_ n1_
                   
                   
                   
                   
                   refine hK.out _ _ ⟨(blk_cell BK211.out 0).trans rfl, (blk_cell BK211.out 1).trans rfl, ((HB.out.cell (World.block_lt_of_cell? w _ hw220_0)).trans hw220_0), ((HB.out.cell (World.block_lt_of_cell? w _ hw221_0)).trans hw221_0)⟩ (fun hHeld => ?_)
                   clear hK K
                   refine norm_ (a' := ?_) ?_ ?_
                   rotate_left
                   ·show Act.put _ (some 105) _ = _
                    simp only [Act.put, List.setIfInBounds_toArray, List.set_cons_zero, List.set_cons_succ, i64_w, i32_w]
                    rfl
                   refine pu HT_ 16 106 131071 ?_
                   refine pu HT_ 17 107 262143 ?_
                   refine pu HT_ 18 89 524287 ?_
                   refine done_ (done_of HT_.out (by kernel_rfl)) ?_
                   try go_wp2
                   go_ret
                   exact ⟨eq_, bq⟩
                 ·rw [if_neg c42] at H
                  have c42b0 : decide (x5_3 < x6_4) = false := decide_eq_false c42
                  clear c42
                  have H' := Aside0.mk H
                  clear H
                  try go_wp2
                  have n0_ := Aside0.mk (blk_drew BK211.out)
                  have n1_ := Aside0.mk (below_drew1 HB.out)
                  clear BK211
                  clear HB
                  have BK211 := n0_
                  have HB := n1_
                  clear n0_ n1_
                  refine start_ (n := 19) (S := fun w' => True) (ds := []) (bA 19 0) (by kernel_rfl) rfl (by kernel_rfl) trivial (fun hHeld => ?_); refine with_tabW spec_l09Is.tab21 spec_l09Is.bits21 (fun HT_ HW_ => ?_)
                  generalize wc.drew = w53 at BK211 HB hHeld ⊢
                  refine pu HT_ 0 90 1 ?_
                  refine pu HT_ 1 91 3 ?_
                  refine pu HT_ 2 92 7 ?_
                  refine pu HT_ 3 93 15 ?_
                  refine un HT_ 4 94 31 ?_
                  refine un HT_ 5 95 63 ?_
                  refine un HT_ 6 96 127 ?_
                  refine un HT_ 7 97 255 ?_
                  refine un HT_ 8 98 511 ?_
                  refine un HT_ 9 99 1023 ?_
                  refine un HT_ 10 100 2047 ?_
                  refine un HT_ 11 101 4095 ?_
                  refine un HT_ 12 102 8191 ?_
                  refine un HT_ 13 103 16383 ?_
                  refine un HT_ 14 104 32767 ?_
                  refine un HT_ 15 105 65535 ?_
                  refine un HT_ 16 106 131071 ?_
                  refine pu HT_ 17 107 262143 ?_
                  refine pu HT_ 18 89 524287 ?_
                  refine done_ (done_of HT_.out (by kernel_rfl)) ?_
                  try go_wp2
                  go_roundg kj33
                  case measure => have := HJ1.out; have := HK2.out; have := HK3.out; have := HK4.out; have := HJ33.out; omega
                  case rel => exact ⟨(wrap64 (x6_4 + 1)), (by first | rfl | (simp; done) | (simp [*]; done)), H', ⟨by have := HJ1.out; have := HK2.out; have := HK3.out; have := HK4.out; have := HJ33.out; omega⟩, ⟨bk BK211⟩, ⟨bq⟩⟩
            ·rw [if_neg c25] at H
             have c25b0 : decide (x6_4 < (l0_0.length : Int)) = false := decide_eq_false c25
             clear c25
             have H' := Aside0.mk H
             clear H
             go_wp2
             go_roundg k4
             case measure => have := HJ1.out; have := HK2.out; have := HK3.out; have := HK4.out; omega
             case rel => exact ⟨(wrap64 (x5_3 + 1)), (by first | rfl | (simp; done) | (simp [*]; done)), H', ⟨by have := HJ1.out; have := HK2.out; have := HK3.out; have := HK4.out; omega⟩, ⟨bk BK211⟩, ⟨bq⟩⟩
         ·rw [if_neg c24] at H
          have c24b0 : decide (x5_3 < (l0_0.length : Int)) = false := decide_eq_false c24
          clear c24
          have H' := Aside0.mk H
          clear H
          go_wp2
          go_loopg [8] k3 (fun kq v8 w' => ∃ (x8_4 : Int), v8 = .int .i64 x8_4 ∧ Aside0 (spec_l09Is.l3 kq (l0_0.length : Int) x8_4 l0_0 l0_1 = some r) ∧ Aside0 (kq ≤ k3) ∧ Aside0 (w'.heap[gb211]? = some (.cells #[(.slice A0_0 l0_0.length c0_0), (.slice A0_1 l0_1.length c0_1)] 31 (0, 0))) ∧ Aside0 (Below w.heap.size w w'))
          case atStart => exact ⟨(0), (by first | rfl | (simp; done) | (simp [*]; done)), H', ⟨Nat.le_refl _⟩, ⟨bk BK211⟩, ⟨bq⟩⟩
          case round =>
           clear H'
           try clear c2
           try clear p2
           try clear q2
           try clear hx2
           try clear c4
           try clear p6
           try clear c22
           try clear p22
           try clear q22
           try clear hx22
           try clear c24
           try clear c24b0
           try clear c25
           try clear c25b0
           try clear c26
           try clear c27
           try clear c28
           try clear c29
           try clear c42
           try clear c42b0
           try clear c43
           try clear c44
           try clear c44b0
           try clear c45
           try clear c45b0
           try clear c46
           try clear c46b0
           try clear c48
           try clear hx220_0
           try clear hx221_0
           try clear p220
           try clear p221
           try clear q220
           try clear q221
           obtain ⟨x8_4, rfl, HA, HK4, BK211, HB⟩ := hrel
           cases gk with
           | zero => exact absurd HA.out (by simp [spec_l09Is.l3])
           | succ k4 =>
            have H := HA.out
            clear HA
            simp only [spec_l09Is.l3] at H
            by_cases c54 : x8_4 < (l0_0.length : Int)
            ·rw [if_pos c54] at H
             have c54b0 : decide (x8_4 < (l0_0.length : Int)) = true := decide_eq_true c54
             clear c54
             have H' := Aside0.mk H
             clear H
             go_wp2
             go_loopg [9] k4 (fun kq v9 w' => ∃ (x9_5 : Int), v9 = .int .i64 x9_5 ∧ Aside0 (spec_l09Is.l4 kq (l0_0.length : Int) x8_4 x9_5 l0_0 l0_1 = some r) ∧ Aside0 (kq ≤ k4) ∧ Aside0 (w'.heap[gb211]? = some (.cells #[(.slice A0_0 l0_0.length c0_0), (.slice A0_1 l0_1.length c0_1)] 31 (0, 0))) ∧ Aside0 (Below w.heap.size w w'))
             case atStart => exact ⟨(0), (by first | rfl | (simp; done) | (simp [*]; done)), H', ⟨Nat.le_refl _⟩, ⟨bk BK211⟩, ⟨bq⟩⟩
             case round =>
              clear H'
              try clear c2
              try clear p2
              try clear q2
              try clear hx2
              try clear c4
              try clear c5
              try clear p6
              try clear c22
              try clear p22
              try clear q22
              try clear hx22
              try clear c24
              try clear c24b0
              try clear c25
              try clear c25b0
              try clear c26
              try clear c27
              try clear c28
              try clear c29
              try clear c42
              try clear c42b0
              try clear c43
              try clear c44
              try clear c44b0
              try clear c45
              try clear c45b0
              try clear c46
              try clear c46b0
              try clear c48
              try clear c54
              try clear c54b0
              try clear hx220_0
              try clear hx221_0
              try clear p2
              try clear p22
              try clear p220
              try clear p221
              try clear p6
              try clear q2
              try clear q22
              try clear q220
              try clear q221
              obtain ⟨x9_5, rfl, HA, HK5, BK211, HB⟩ := hrel
              cases gk with
              | zero => exact absurd HA.out (by simp [spec_l09Is.l4])
              | succ k5 =>
               have H := HA.out
               clear HA
               simp only [spec_l09Is.l4] at H
               by_cases c55 : x9_5 < (l0_0.length : Int)
               ·rw [if_pos c55] at H
                have c55b0 : decide (x9_5 < (l0_0.length : Int)) = true := decide_eq_true c55
                clear c55
                have H' := Aside0.mk H
                clear H
                go_wp2
                go_loopg [10] k5 (fun kq v10 w' => ∃ (x10_6 : Int), v10 = .int .i64 x10_6 ∧ Aside0 (spec_l09Is.l5 kq (l0_0.length : Int) x8_4 x9_5 x10_6 l0_0 l0_1 = some r) ∧ Aside0 (kq ≤ k5) ∧ Aside0 (w'.heap[gb211]? = some (.cells #[(.slice A0_0 l0_0.length c0_0), (.slice A0_1 l0_1.length c0_1)] 31 (0, 0))) ∧ Aside0 (Below w.heap.size w w'))
                case atStart => exact ⟨(0), (by first | rfl | (simp; done) | (simp [*]; done)), H', ⟨Nat.le_refl _⟩, ⟨bk BK211⟩, ⟨bq⟩⟩
                case round =>
                 clear H'
                 try clear c2
                 try clear p2
                 try clear q2
                 try clear hx2
                 try clear c4
                 try clear c5
                 try clear p6
                 try clear c22
                 try clear p22
                 try clear q22
                 try clear hx22
                 try clear c24
                 try clear c24b0
                 try clear c25
                 try clear c25b0
                 try clear c26
                 try clear c27
                 try clear c28
                 try clear c29
                 try clear c42
                 try clear c42b0
                 try clear c43
                 try clear c44
                 try clear c44b0
                 try clear c45
                 try clear c45b0
                 try clear c46
                 try clear c46b0
                 try clear c48
                 try clear c54
                 try clear c54b0
                 try clear c55
                 try clear c55b0
                 try clear hx220_0
                 try clear hx221_0
                 try clear p2
                 try clear p22
                 try clear p220
                 try clear p221
                 try clear p6
                 try clear q2
                 try clear q22
                 try clear q220
                 try clear q221
                 obtain ⟨x10_6, rfl, HA, HK6, BK211, HB⟩ := hrel
                 cases gk with
                 | zero => exact absurd HA.out (by simp [spec_l09Is.l5])
                 | succ k6 =>
                  have H := HA.out
                  clear HA
                  simp only [spec_l09Is.l5] at H
                  by_cases c56 : x10_6 < (l0_0.length : Int)
                  ·rw [if_pos c56] at H
                   have c56b0 : decide (x10_6 < (l0_0.length : Int)) = true := decide_eq_true c56
                   clear c56
                   by_cases c57 : x8_4 = x9_5
                   ·rw [if_pos c57] at H
                    have c57b0 : (x8_4 == x9_5) = true := beq_iff_eq.mpr c57
                    have c57b1 : (x8_4 != x9_5) = false := bne_eq_false_iff_eq.mpr c57
                    clear c57
                    have H' := Aside0.mk H
                    clear H
                    try go_wp2
                    have n0_ := Aside0.mk (blk_drew BK211.out)
                    have n1_ := Aside0.mk (below_drew1 HB.out)
                    clear BK211
                    clear HB
                    have BK211 := n0_
                    have HB := n1_
                    clear n0_ n1_
                    refine start_ (n := 41) (S := fun w' => True) (ds := []) (bA 41 0) (by kernel_rfl) rfl (by kernel_rfl) trivial (fun hHeld => ?_); refine with_tabW spec_l09Is.tab32 spec_l09Is.bits32 (fun HT_ HW_ => ?_)
                    generalize wr.drew = w58 at BK211 HB hHeld ⊢
                    refine pu HT_ 0 123 1 ?_
                    refine pu HT_ 1 124 3 ?_
                    refine pu HT_ 2 125 7 ?_
                    refine pu HT_ 3 126 15 ?_
                    refine un HT_ 4 127 31 ?_
                    refine un HT_ 5 128 63 ?_
                    refine un HT_ 6 129 127 ?_
                    refine pu HT_ 7 130 255 ?_
                    refine pu HT_ 8 131 511 ?_
                    refine un HT_ 9 132 1023 ?_
                    refine un HT_ 10 133 2047 ?_
                    refine un HT_ 11 134 4095 ?_
                    refine pu HT_ 12 135 8191 ?_
                    refine pu HT_ 13 136 16383 ?_
                    refine un HT_ 14 137 32767 ?_
                    refine un HT_ 15 138 65535 ?_
                    refine un HT_ 16 139 131071 ?_
                    refine un HT_ 17 140 262143 ?_
                    refine un HT_ 18 141 524287 ?_
                    refine un HT_ 19 142 1048575 ?_
                    refine un HT_ 20 143 2097151 ?_
                    refine un HT_ 21 144 4194303 ?_
                    refine un HT_ 22 145 8388607 ?_
                    refine un HT_ 23 146 16777215 ?_
                    refine un HT_ 24 147 33554431 ?_
                    refine un HT_ 25 148 67108863 ?_
                    refine un HT_ 26 149 134217727 ?_
                    refine un HT_ 27 150 268435455 ?_
                    refine un HT_ 28 151 536870911 ?_
                    refine un HT_ 29 152 1073741823 ?_
                    refine un HT_ 30 153 2147483647 ?_
                    refine un HT_ 31 154 4294967295 ?_
                    refine un HT_ 32 155 8589934591 ?_
                    refine un HT_ 33 156 17179869183 ?_
                    refine un HT_ 34 157 34359738367 ?_
                    refine un HT_ 35 158 68719476735 ?_
                    refine un HT_ 36 159 137438953471 ?_
                    refine un HT_ 37 160 274877906943 ?_
                    refine un HT_ 38 161 549755813887 ?_
                    refine un HT_ 39 162 1099511627775 ?_
                    refine pu HT_ 40 163 2199023255551 ?_
                    refine done_ (done_of HT_.out (by kernel_rfl)) ?_
                    try go_wp2
                    go_roundg k6
                    case measure => have := HJ1.out; have := HK2.out; have := HK3.out; have := HK4.out; have := HK5.out; have := HK6.out; omega
                    case rel => exact ⟨(wrap64 (x10_6 + 1)), (by first | rfl | (simp; done) | (simp [*]; done)), H', ⟨by have := HJ1.out; have := HK2.out; have := HK3.out; have := HK4.out; have := HK5.out; have := HK6.out; omega⟩, ⟨bk BK211⟩, ⟨bq⟩⟩
                   ·rw [if_neg c57] at H
                    have c57b0 : (x8_4 == x9_5) = false := beq_eq_false_iff_ne.mpr c57
                    have c57b1 : (x8_4 != x9_5) = true := bne_iff_ne.mpr c57
                    by_cases c59 : x8_4 = x10_6
                    ·rw [if_pos c59] at H
                     have c59b0 : (x8_4 == x10_6) = true := beq_iff_eq.mpr c59
                     have c59b1 : (x8_4 != x10_6) = false := bne_eq_false_iff_eq.mpr c59
                     clear c59
                     have H' := Aside0.mk H
                     clear H
                     try go_wp2
                     have n0_ := Aside0.mk (blk_drew BK211.out)
                     have n1_ := Aside0.mk (below_drew1 HB.out)
                     clear BK211
                     clear HB
                     have BK211 := n0_
                     have HB := n1_
                     clear n0_ n1_
                     refine start_ (n := 41) (S := fun w' => True) (ds := []) (bA 41 0) (by kernel_rfl) rfl (by kernel_rfl) trivial (fun hHeld => ?_); refine with_tabW spec_l09Is.tab32 spec_l09Is.bits32 (fun HT_ HW_ => ?_)
                     generalize wr.drew = w60 at BK211 HB hHeld ⊢
                     refine pu HT_ 0 123 1 ?_
                     refine pu HT_ 1 124 3 ?_
                     refine pu HT_ 2 125 7 ?_
                     refine pu HT_ 3 126 15 ?_
                     refine pu HT_ 4 127 31 ?_
                     refine pu HT_ 5 128 63 ?_
                     refine pu HT_ 6 129 127 ?_
                     refine pu HT_ 7 130 255 ?_
                     refine pu HT_ 8 131 511 ?_
                     refine un HT_ 9 132 1023 ?_
                     refine un HT_ 10 133 2047 ?_
                     refine un HT_ 11 134 4095 ?_
                     refine pu HT_ 12 135 8191 ?_
                     refine pu HT_ 13 136 16383 ?_
                     refine un HT_ 14 137 32767 ?_
                     refine un HT_ 15 138 65535 ?_
                     refine un HT_ 16 139 131071 ?_
                     refine un HT_ 17 140 262143 ?_
                     refine un HT_ 18 141 524287 ?_
                     refine un HT_ 19 142 1048575 ?_
                     refine un HT_ 20 143 2097151 ?_
                     refine un HT_ 21 144 4194303 ?_
                     refine un HT_ 22 145 8388607 ?_
                     refine un HT_ 23 146 16777215 ?_
                     refine un HT_ 24 147 33554431 ?_
                     refine un HT_ 25 148 67108863 ?_
                     refine un HT_ 26 149 134217727 ?_
                     refine un HT_ 27 150 268435455 ?_
                     refine un HT_ 28 151 536870911 ?_
                     refine un HT_ 29 152 1073741823 ?_
                     refine un HT_ 30 153 2147483647 ?_
                     refine un HT_ 31 154 4294967295 ?_
                     refine un HT_ 32 155 8589934591 ?_
                     refine un HT_ 33 156 17179869183 ?_
                     refine un HT_ 34 157 34359738367 ?_
                     refine un HT_ 35 158 68719476735 ?_
                     refine un HT_ 36 159 137438953471 ?_
                     refine un HT_ 37 160 274877906943 ?_
                     refine un HT_ 38 161 549755813887 ?_
                     refine un HT_ 39 162 1099511627775 ?_
                     refine pu HT_ 40 163 2199023255551 ?_
                     refine done_ (done_of HT_.out (by kernel_rfl)) ?_
                     try go_wp2
                     go_roundg k6
                     case measure => have := HJ1.out; have := HK2.out; have := HK3.out; have := HK4.out; have := HK5.out; have := HK6.out; omega
                     case rel => exact ⟨(wrap64 (x10_6 + 1)), (by first | rfl | (simp; done) | (simp [*]; done)), H', ⟨by have := HJ1.out; have := HK2.out; have := HK3.out; have := HK4.out; have := HK5.out; have := HK6.out; omega⟩, ⟨bk BK211⟩, ⟨bq⟩⟩
                    ·rw [if_neg c59] at H
                     have c59b0 : (x8_4 == x10_6) = false := beq_eq_false_iff_ne.mpr c59
                     have c59b1 : (x8_4 != x10_6) = true := bne_iff_ne.mpr c59
                     by_cases c61 : x10_6 = x9_5
                     ·rw [if_pos c61] at H
                      have c61b0 : (x10_6 == x9_5) = true := beq_iff_eq.mpr c61
                      have c61b1 : (x10_6 != x9_5) = false := bne_eq_false_iff_eq.mpr c61
                      clear c61
                      have H' := Aside0.mk H
                      clear H
                      try go_wp2
                      have n0_ := Aside0.mk (blk_drew BK211.out)
                      have n1_ := Aside0.mk (below_drew1 HB.out)
                      clear BK211
                      clear HB
                      have BK211 := n0_
                      have HB := n1_
                      clear n0_ n1_
                      refine start_ (n := 41) (S := fun w' => True) (ds := []) (bA 41 0) (by kernel_rfl) rfl (by kernel_rfl) trivial (fun hHeld => ?_); refine with_tabW spec_l09Is.tab32 spec_l09Is.bits32 (fun HT_ HW_ => ?_)
                      generalize wr.drew = w62 at BK211 HB hHeld ⊢
                      refine pu HT_ 0 123 1 ?_
                      refine pu HT_ 1 124 3 ?_
                      refine pu HT_ 2 125 7 ?_
                      refine pu HT_ 3 126 15 ?_
                      refine pu HT_ 4 127 31 ?_
                      refine pu HT_ 5 128 63 ?_
                      refine pu HT_ 6 129 127 ?_
                      refine pu HT_ 7 130 255 ?_
                      refine pu HT_ 8 131 511 ?_
                      refine pu HT_ 9 132 1023 ?_
                      refine pu HT_ 10 133 2047 ?_
                      refine pu HT_ 11 134 4095 ?_
                      refine pu HT_ 12 135 8191 ?_
                      refine pu HT_ 13 136 16383 ?_
                      refine un HT_ 14 137 32767 ?_
                      refine un HT_ 15 138 65535 ?_
                      refine un HT_ 16 139 131071 ?_
                      refine un HT_ 17 140 262143 ?_
                      refine un HT_ 18 141 524287 ?_
                      refine un HT_ 19 142 1048575 ?_
                      refine un HT_ 20 143 2097151 ?_
                      refine un HT_ 21 144 4194303 ?_
                      refine un HT_ 22 145 8388607 ?_
                      refine un HT_ 23 146 16777215 ?_
                      refine un HT_ 24 147 33554431 ?_
                      refine un HT_ 25 148 67108863 ?_
                      refine un HT_ 26 149 134217727 ?_
                      refine un HT_ 27 150 268435455 ?_
                      refine un HT_ 28 151 536870911 ?_
                      refine un HT_ 29 152 1073741823 ?_
                      refine un HT_ 30 153 2147483647 ?_
                      refine un HT_ 31 154 4294967295 ?_
                      refine un HT_ 32 155 8589934591 ?_
                      refine un HT_ 33 156 17179869183 ?_
                      refine un HT_ 34 157 34359738367 ?_
                      refine un HT_ 35 158 68719476735 ?_
                      refine un HT_ 36 159 137438953471 ?_
                      refine un HT_ 37 160 274877906943 ?_
                      refine un HT_ 38 161 549755813887 ?_
                      refine un HT_ 39 162 1099511627775 ?_
                      refine pu HT_ 40 163 2199023255551 ?_
                      refine done_ (done_of HT_.out (by kernel_rfl)) ?_
                      try go_wp2
                      go_roundg k6
                      case measure => have := HJ1.out; have := HK2.out; have := HK3.out; have := HK4.out; have := HK5.out; have := HK6.out; omega
                      case rel => exact ⟨(wrap64 (x10_6 + 1)), (by first | rfl | (simp; done) | (simp [*]; done)), H', ⟨by have := HJ1.out; have := HK2.out; have := HK3.out; have := HK4.out; have := HK5.out; have := HK6.out; omega⟩, ⟨bk BK211⟩, ⟨bq⟩⟩
                     ·rw [if_neg c61] at H
                      have c61b0 : (x10_6 == x9_5) = false := beq_eq_false_iff_ne.mpr c61
                      have c61b1 : (x10_6 != x9_5) = true := bne_iff_ne.mpr c61
                      revert H
                      refine ifr fun c63 H => ?_
                      have c63b0 : decide (0 ≤ x8_4) = true := decide_eq_true c63
                      clear c63
                      revert H
                      refine ifr fun c64 H => ?_
                      have c64b0 : decide (x8_4 < (l0_1.length : Int)) = true := decide_eq_true c64
                      clear c64
                      revert H
                      refine ifr fun c65 H => ?_
                      have c65b0 : decide (0 ≤ x9_5) = true := decide_eq_true c65
                      clear c65
                      revert H
                      refine ifr fun c66 H => ?_
                      have c66b0 : decide (x9_5 < ((rd_L1 l0_1 x8_4).length : Int)) = true := decide_eq_true c66
                      clear c66
                      revert H
                      refine ifr fun c67 H => ?_
                      have c67b0 : decide (0 ≤ x10_6) = true := decide_eq_true c67
                      clear c67
                      revert H
                      refine ifr fun c68 H => ?_
                      have c68b0 : decide (x10_6 < ((rd_L1 l0_1 x8_4).length : Int)) = true := decide_eq_true c68
                      clear c68
                      revert H
                      refine ifr fun c69 H => ?_
                      have c69b0 : decide (x10_6 < (l0_1.length : Int)) = true := decide_eq_true c69
                      clear c69
                      revert H
                      refine ifr fun c70 H => ?_
                      have c70b0 : decide (x9_5 < ((rd_L1 l0_1 x10_6).length : Int)) = true := decide_eq_true c70
                      clear c70
                      obtain ⟨ji71, hji71⟩ : ∃ j_ : Int, (mn (rd (rd_L1 l0_1 x8_4) x10_6) (rd (rd_L1 l0_1 x10_6) x9_5)) = j_ := ⟨_, rfl⟩
                      replace H : (if (rd (rd_L1 l0_1 x8_4) x9_5) < (ji71) then (some false) else (spec_l09Is.l5 k6 (l0_0.length : Int) x8_4 x9_5 (wrap64 (x10_6 + 1)) l0_0 l0_1)) = some r := by first | (rw [hji71] at H; exact H) | (simp only [hji71] at H ⊢; exact H)
                      have hji71_ : (if (rd (rd_L1 l0_1 x10_6) x9_5) < (rd (rd_L1 l0_1 x8_4) x10_6) then (rd (rd_L1 l0_1 x10_6) x9_5) else (rd (rd_L1 l0_1 x8_4) x10_6)) = ji71 := hji71
                      by_cases c72 : (rd (rd_L1 l0_1 x8_4) x9_5) < (ji71)
                      ·rw [if_pos c72] at H
                       have c72b0 : decide ((rd (rd_L1 l0_1 x8_4) x9_5) < (ji71)) = true := decide_eq_true c72
                       clear c72
                       obtain rfl := Option.some.inj H
                       try go_wp2
                       have n0_ := Aside0.mk (blk_drew BK211.out)
                       have n1_ := Aside0.mk (below_drew1 HB.out)
                       clear BK211
                       clear HB
                       have BK211 := n0_
                       have HB := n1_
                       clear n0_ n1_
                       have p223 : 0 ≤ (x8_4 : Int) := ode
                       have q223 : x8_4 < (l0_1.length : Int) := ode
                       obtain ⟨ad223, A223_0, c223_0, e223, hx223_0, hl223_0, hi223_0⟩ := at_L1 HR0_1.out x8_4 p223 q223
                       have hw223_0 := hx223_0
                       cases e223
                       try replace hx223_0 := (HB.out.cell (World.block_lt_of_cell? w _ hx223_0)).trans hx223_0
                       have HR223_0 := Aside0.mk hi223_0
                       have HC223_0 := Aside0.mk hl223_0
                       clear hi223_0 hl223_0
                       replace p223 := eq_true p223
                       replace q223 := eq_true q223
                       have p224 : 0 ≤ (x9_5 : Int) := ode
                       have q224 : x9_5 < ((rd_L1 l0_1 x8_4).length : Int) := ode
                       obtain ⟨ad224, e224, hx224_0⟩ := Kd.at_int HR223_0.out x9_5 p224 q224
                       have hw224_0 := hx224_0
                       cases e224
                       try replace hx224_0 := (HB.out.cell (World.block_lt_of_cell? w _ hx224_0)).trans hx224_0
                       replace p224 := eq_true p224
                       replace q224 := eq_true q224
                       have p225 : 0 ≤ (x8_4 : Int) := ode
                       have q225 : x8_4 < (l0_1.length : Int) := ode
                       obtain ⟨ad225, A225_0, c225_0, e225, hx225_0, hl225_0, hi225_0⟩ := at_L1 HR0_1.out x8_4 p225 q225
                       have hw225_0 := hx225_0
                       obtain rfl : ad223 = ad225 := (by injection e225)
                       try replace hx225_0 := (HB.out.cell (World.block_lt_of_cell? w _ hx225_0)).trans hx225_0
                       have HR225_0 := Aside0.mk hi225_0
                       have HC225_0 := Aside0.mk hl225_0
                       clear hi225_0 hl225_0
                       replace p225 := eq_true p225
                       replace q225 := eq_true q225
                       have ea_ := Option.some.inj (hx223_0.symm.trans hx225_0)
                       injection ea_ with ea_ en_ ec_
                       subst ea_
                       subst ec_
                       clear en_
                       have p226 : 0 ≤ (x10_6 : Int) := ode
                       have q226 : x10_6 < ((rd_L1 l0_1 x8_4).length : Int) := ode
                       obtain ⟨ad226, e226, hx226_0⟩ := Kd.at_int HR225_0.out x10_6 p226 q226
                       have hw226_0 := hx226_0
                       cases e226
                       try replace hx226_0 := (HB.out.cell (World.block_lt_of_cell? w _ hx226_0)).trans hx226_0
                       replace p226 := eq_true p226
                       replace q226 := eq_true q226
                       have p227 : 0 ≤ (x10_6 : Int) := ode
                       have q227 : x10_6 < (l0_1.length : Int) := ode
                       obtain ⟨ad227, A227_0, c227_0, e227, hx227_0, hl227_0, hi227_0⟩ := at_L1 HR0_1.out x10_6 p227 q227
                       have hw227_0 := hx227_0
                       obtain rfl : ad223 = ad227 := (by injection e227)
                       try replace hx227_0 := (HB.out.cell (World.block_lt_of_cell? w _ hx227_0)).trans hx227_0
                       have HR227_0 := Aside0.mk hi227_0
                       have HC227_0 := Aside0.mk hl227_0
                       clear hi227_0 hl227_0
                       replace p227 := eq_true p227
                       replace q227 := eq_true q227
                       have p228 : 0 ≤ (x9_5 : Int) := ode
                       have q228 : x9_5 < ((rd_L1 l0_1 x10_6).length : Int) := ode
                       obtain ⟨ad228, e228, hx228_0⟩ := Kd.at_int HR227_0.out x9_5 p228 q228
                       have hw228_0 := hx228_0
                       cases e228
                       try replace hx228_0 := (HB.out.cell (World.block_lt_of_cell? w _ hx228_0)).trans hx228_0
                       replace p228 := eq_true p228
                       replace q228 := eq_true q228
                       refine start_ (n := 41) (S := fun w' => w'.cell? ⟨gb211, 0, none⟩ = some (.slice A0_0 l0_0.length c0_0) ∧ w'.cell? ⟨gb211, 1, none⟩ = some (.slice (some ad223) l0_1.length c0_1) ∧ w'.cell? (ad223.add (x8_4).toNat) = some (.slice (some ad224) (rd_L1 l0_1 x8_4).length c223_0) ∧ w'.cell? (ad224.add (x9_5).toNat) = some (.int .i64 (rd (rd_L1 l0_1 x8_4) x9_5)) ∧ w'.cell? (ad223.add (x8_4).toNat) = some (.slice (some ad224) (rd_L1 l0_1 x8_4).length c223_0) ∧ w'.cell? (ad224.add (x10_6).toNat) = some (.int .i64 (rd (rd_L1 l0_1 x8_4) x10_6)) ∧ w'.cell? (ad223.add (x10_6).toNat) = some (.slice (some ad228) (rd_L1 l0_1 x10_6).length c227_0) ∧ w'.cell? (ad228.add (x9_5).toNat) = some (.int .i64 (rd (rd_L1 l0_1 x10_6) x9_5))) (ds := []) (bA 41 0) (by kernel_rfl) rfl (by kernel_rfl) ⟨(blk_cell BK211.out 0).trans rfl, (blk_cell BK211.out 1).trans rfl, ((HB.out.cell (World.block_lt_of_cell? w _ hw223_0)).trans hw223_0), ((HB.out.cell (World.block_lt_of_cell? w _ hw224_0)).trans hw224_0), ((HB.out.cell (World.block_lt_of_cell? w _ hw225_0)).trans hw225_0), ((HB.out.cell (World.block_lt_of_cell? w _ hw226_0)).trans hw226_0), ((HB.out.cell (World.block_lt_of_cell? w _ hw227_0)).trans hw227_0), ((HB.out.cell (World.block_lt_of_cell? w _ hw228_0)).trans hw228_0)⟩ (fun hHeld => ?_); refine with_tabW spec_l09Is.tab32 spec_l09Is.bits32 (fun HT_ HW_ => ?_)
                       generalize wr.drew = w73 at BK211 HB HR223_0 HR225_0 HR227_0 hx223_0 hx224_0 hx225_0 hx226_0 hx227_0 hx228_0 hHeld ⊢
                       refine pu HT_ 0 123 1 ?_
                       refine pu HT_ 1 124 3 ?_
                       refine pu HT_ 2 125 7 ?_
                       refine pu HT_ 3 126 15 ?_
                       refine pu HT_ 4 127 31 ?_
                       refine pu HT_ 5 128 63 ?_
                       refine pu HT_ 6 129 127 ?_
                       refine pu HT_ 7 130 255 ?_
                       refine pu HT_ 8 131 511 ?_
                       refine pu HT_ 9 132 1023 ?_
                       refine pu HT_ 10 133 2047 ?_
                       refine pu HT_ 11 134 4095 ?_
                       refine pu HT_ 12 135 8191 ?_
                       refine pu HT_ 13 136 16383 ?_
                       refine pu HT_ 14 137 32767 ?_
                       refine pu HT_ 16 139 98303 ?_
                       refine pu HT_ 19 142 622591 ?_
                       refine pu HT_ 22 145 4816895 ?_
                       refine pu HT_ 24 147 21594111 ?_
                       refine pu HT_ 27 150 155811839 ?_
                       refine pu HT_ 30 153 1229553663 ?_
                       refine pu HT_ 32 155 5524520959 ?_
                       refine pu HT_ 35 158 39884259327 ?_
                       refine tk8 HT_ HW_ hHeld 15 138 39884292095 ?_
                       refine pu HT_ 17 140 39884423167 ?_
                       refine tk8 HT_ HW_ hHeld 18 141 39884685311 ?_
                       refine pu HT_ 20 143 39885733887 ?_
                       refine tk8 HT_ HW_ hHeld 21 144 39887831039 ?_
                       refine tk8 HT_ HW_ hHeld 23 146 39896219647 ?_
                       refine pu HT_ 25 148 39929774079 ?_
                       refine tk8 HT_ HW_ hHeld 26 149 39996882943 ?_
                       refine pu HT_ 28 151 40265318399 ?_
                       refine tk8 HT_ HW_ hHeld 29 152 40802189311 ?_
                       refine tk8 HT_ HW_ hHeld 31 154 42949672959 ?_
                       refine pu HT_ 33 156 51539607551 ?_
                       refine tk8 HT_ HW_ hHeld 34 157 68719476735 ?_
                       refine pu HT_ 36 159 137438953471 ?_
                       refine tk8 HT_ HW_ hHeld 37 160 274877906943 ?_
                       refine pu HT_ 38 161 549755813887 ?_
                       refine pu HT_ 39 162 1099511627775 ?_
                       refine pu HT_ 40 163 2199023255551 ?_
                       refine done_ (done_of HT_.out (by kernel_rfl)) ?_
                       try go_wp2
                       go_ret
                       exact ⟨by first | rfl | (simp [errW_none, errW_some] <;> rfl) | (simp only [← hji71]; first | rfl | (simp [errW_none, errW_some] <;> rfl)) | (simp [*, errW_none, errW_some] <;> rfl), bq⟩
                      ·rw [if_neg c72] at H
                       have c72b0 : decide ((rd (rd_L1 l0_1 x8_4) x9_5) < (ji71)) = false := decide_eq_false c72
                       clear c72
                       have H' := Aside0.mk H
                       clear H
                       try go_wp2
                       have n0_ := Aside0.mk (blk_drew BK211.out)
                       have n1_ := Aside0.mk (below_drew1 HB.out)
                       clear BK211
                       clear HB
                       have BK211 := n0_
                       have HB := n1_
                       clear n0_ n1_
                       have p223 : 0 ≤ (x8_4 : Int) := ode
                       have q223 : x8_4 < (l0_1.length : Int) := ode
                       obtain ⟨ad223, A223_0, c223_0, e223, hx223_0, hl223_0, hi223_0⟩ := at_L1 HR0_1.out x8_4 p223 q223
                       have hw223_0 := hx223_0
                       cases e223
                       try replace hx223_0 := (HB.out.cell (World.block_lt_of_cell? w _ hx223_0)).trans hx223_0
                       have HR223_0 := Aside0.mk hi223_0
                       have HC223_0 := Aside0.mk hl223_0
                       clear hi223_0 hl223_0
                       replace p223 := eq_true p223
                       replace q223 := eq_true q223
                       have p224 : 0 ≤ (x9_5 : Int) := ode
                       have q224 : x9_5 < ((rd_L1 l0_1 x8_4).length : Int) := ode
                       obtain ⟨ad224, e224, hx224_0⟩ := Kd.at_int HR223_0.out x9_5 p224 q224
                       have hw224_0 := hx224_0
                       cases e224
                       try replace hx224_0 := (HB.out.cell (World.block_lt_of_cell? w _ hx224_0)).trans hx224_0
                       replace p224 := eq_true p224
                       replace q224 := eq_true q224
                       have p225 : 0 ≤ (x8_4 : Int) := ode
                       have q225 : x8_4 < (l0_1.length : Int) := ode
                       obtain ⟨ad225, A225_0, c225_0, e225, hx225_0, hl225_0, hi225_0⟩ := at_L1 HR0_1.out x8_4 p225 q225
                       have hw225_0 := hx225_0
                       obtain rfl : ad223 = ad225 := (by injection e225)
                       try replace hx225_0 := (HB.out.cell (World.block_lt_of_cell? w _ hx225_0)).trans hx225_0
                       have HR225_0 := Aside0.mk hi225_0
                       have HC225_0 := Aside0.mk hl225_0
                       clear hi225_0 hl225_0
                       replace p225 := eq_true p225
                       replace q225 := eq_true q225
                       have ea_ := Option.some.inj (hx223_0.symm.trans hx225_0)
                       injection ea_ with ea_ en_ ec_
                       subst ea_
                       subst ec_
                       clear en_
                       have p226 : 0 ≤ (x10_6 : Int) := ode
                       have q226 : x10_6 < ((rd_L1 l0_1 x8_4).length : Int) := ode
                       obtain ⟨ad226, e226, hx226_0⟩ := Kd.at_int HR225_0.out x10_6 p226 q226
                       have hw226_0 := hx226_0
                       cases e226
                       try replace hx226_0 := (HB.out.cell (World.block_lt_of_cell? w _ hx226_0)).trans hx226_0
                       replace p226 := eq_true p226
                       replace q226 := eq_true q226
                       have p227 : 0 ≤ (x10_6 : Int) := ode
                       have q227 : x10_6 < (l0_1.length : Int) := ode
                       obtain ⟨ad227, A227_0, c227_0, e227, hx227_0, hl227_0, hi227_0⟩ := at_L1 HR0_1.out x10_6 p227 q227
                       have hw227_0 := hx227_0
                       obtain rfl : ad223 = ad227 := (by injection e227)
                       try replace hx227_0 := (HB.out.cell (World.block_lt_of_cell? w _ hx227_0)).trans hx227_0
                       have HR227_0 := Aside0.mk hi227_0
                       have HC227_0 := Aside0.mk hl227_0
                       clear hi227_0 hl227_0
                       replace p227 := eq_true p227
                       replace q227 := eq_true q227
                       have p228 : 0 ≤ (x9_5 : Int) := ode
                       have q228 : x9_5 < ((rd_L1 l0_1 x10_6).length : Int) := ode
                       obtain ⟨ad228, e228, hx228_0⟩ := Kd.at_int HR227_0.out x9_5 p228 q228
                       have hw228_0 := hx228_0
                       cases e228
                       try replace hx228_0 := (HB.out.cell (World.block_lt_of_cell? w _ hx228_0)).trans hx228_0
                       replace p228 := eq_true p228
                       replace q228 := eq_true q228
                       refine start_ (n := 41) (S := fun w' => w'.cell? ⟨gb211, 0, none⟩ = some (.slice A0_0 l0_0.length c0_0) ∧ w'.cell? ⟨gb211, 1, none⟩ = some (.slice (some ad223) l0_1.length c0_1) ∧ w'.cell? (ad223.add (x8_4).toNat) = some (.slice (some ad224) (rd_L1 l0_1 x8_4).length c223_0) ∧ w'.cell? (ad224.add (x9_5).toNat) = some (.int .i64 (rd (rd_L1 l0_1 x8_4) x9_5)) ∧ w'.cell? (ad223.add (x8_4).toNat) = some (.slice (some ad224) (rd_L1 l0_1 x8_4).length c223_0) ∧ w'.cell? (ad224.add (x10_6).toNat) = some (.int .i64 (rd (rd_L1 l0_1 x8_4) x10_6)) ∧ w'.cell? (ad223.add (x10_6).toNat) = some (.slice (some ad228) (rd_L1 l0_1 x10_6).length c227_0) ∧ w'.cell? (ad228.add (x9_5).toNat) = some (.int .i64 (rd (rd_L1 l0_1 x10_6) x9_5))) (ds := []) (bA 41 0) (by kernel_rfl) rfl (by kernel_rfl) ⟨(blk_cell BK211.out 0).trans rfl, (blk_cell BK211.out 1).trans rfl, ((HB.out.cell (World.block_lt_of_cell? w _ hw223_0)).trans hw223_0), ((HB.out.cell (World.block_lt_of_cell? w _ hw224_0)).trans hw224_0), ((HB.out.cell (World.block_lt_of_cell? w _ hw225_0)).trans hw225_0), ((HB.out.cell (World.block_lt_of_cell? w _ hw226_0)).trans hw226_0), ((HB.out.cell (World.block_lt_of_cell? w _ hw227_0)).trans hw227_0), ((HB.out.cell (World.block_lt_of_cell? w _ hw228_0)).trans hw228_0)⟩ (fun hHeld => ?_); refine with_tabW spec_l09Is.tab32 spec_l09Is.bits32 (fun HT_ HW_ => ?_)
                       generalize wr.drew = w74 at BK211 HB HR223_0 HR225_0 HR227_0 hx223_0 hx224_0 hx225_0 hx226_0 hx227_0 hx228_0 hHeld ⊢
                       refine pu HT_ 0 123 1 ?_
                       refine pu HT_ 1 124 3 ?_
                       refine pu HT_ 2 125 7 ?_
                       refine pu HT_ 3 126 15 ?_
                       refine pu HT_ 4 127 31 ?_
                       refine pu HT_ 5 128 63 ?_
                       refine pu HT_ 6 129 127 ?_
                       refine pu HT_ 7 130 255 ?_
                       refine pu HT_ 8 131 511 ?_
                       refine pu HT_ 9 132 1023 ?_
                       refine pu HT_ 10 133 2047 ?_
                       refine pu HT_ 11 134 4095 ?_
                       refine pu HT_ 12 135 8191 ?_
                       refine pu HT_ 13 136 16383 ?_
                       refine pu HT_ 14 137 32767 ?_
                       refine pu HT_ 16 139 98303 ?_
                       refine pu HT_ 19 142 622591 ?_
                       refine pu HT_ 22 145 4816895 ?_
                       refine pu HT_ 24 147 21594111 ?_
                       refine pu HT_ 27 150 155811839 ?_
                       refine pu HT_ 30 153 1229553663 ?_
                       refine pu HT_ 32 155 5524520959 ?_
                       refine pu HT_ 35 158 39884259327 ?_
                       refine tk8 HT_ HW_ hHeld 15 138 39884292095 ?_
                       refine pu HT_ 17 140 39884423167 ?_
                       refine tk8 HT_ HW_ hHeld 18 141 39884685311 ?_
                       refine pu HT_ 20 143 39885733887 ?_
                       refine tk8 HT_ HW_ hHeld 21 144 39887831039 ?_
                       refine tk8 HT_ HW_ hHeld 23 146 39896219647 ?_
                       refine pu HT_ 25 148 39929774079 ?_
                       refine tk8 HT_ HW_ hHeld 26 149 39996882943 ?_
                       refine pu HT_ 28 151 40265318399 ?_
                       refine tk8 HT_ HW_ hHeld 29 152 40802189311 ?_
                       refine tk8 HT_ HW_ hHeld 31 154 42949672959 ?_
                       refine pu HT_ 33 156 51539607551 ?_
                       refine tk8 HT_ HW_ hHeld 34 157 68719476735 ?_
                       refine pu HT_ 36 159 137438953471 ?_
                       refine tk8 HT_ HW_ hHeld 37 160 274877906943 ?_
                       refine pu HT_ 38 161 549755813887 ?_
                       refine pu HT_ 39 162 1099511627775 ?_
                       refine pu HT_ 40 163 2199023255551 ?_
                       refine done_ (done_of HT_.out (by kernel_rfl)) ?_
                       try go_wp2
                       go_roundg k6
                       case measure => have := HJ1.out; have := HK2.out; have := HK3.out; have := HK4.out; have := HK5.out; have := HK6.out; omega
                       case rel => exact ⟨(wrap64 (x10_6 + 1)), (by first | rfl | (simp; done) | (simp [*]; done)), H', ⟨by have := HJ1.out; have := HK2.out; have := HK3.out; have := HK4.out; have := HK5.out; have := HK6.out; omega⟩, ⟨bk BK211⟩, ⟨bq⟩⟩
                  ·rw [if_neg c56] at H
                   have c56b0 : decide (x10_6 < (l0_0.length : Int)) = false := decide_eq_false c56
                   clear c56
                   have H' := Aside0.mk H
                   clear H
                   go_wp2
                   go_roundg k6
                   case measure => have := HJ1.out; have := HK2.out; have := HK3.out; have := HK4.out; have := HK5.out; have := HK6.out; omega
                   case rel => exact ⟨(wrap64 (x9_5 + 1)), (by first | rfl | (simp; done) | (simp [*]; done)), H', ⟨by have := HJ1.out; have := HK2.out; have := HK3.out; have := HK4.out; have := HK5.out; have := HK6.out; omega⟩, ⟨bk BK211⟩, ⟨bq⟩⟩
               ·rw [if_neg c55] at H
                have c55b0 : decide (x9_5 < (l0_0.length : Int)) = false := decide_eq_false c55
                clear c55
                have H' := Aside0.mk H
                clear H
                go_wp2
                go_roundg k5
                case measure => have := HJ1.out; have := HK2.out; have := HK3.out; have := HK4.out; have := HK5.out; omega
                case rel => exact ⟨(wrap64 (x8_4 + 1)), (by first | rfl | (simp; done) | (simp [*]; done)), H', ⟨by have := HJ1.out; have := HK2.out; have := HK3.out; have := HK4.out; have := HK5.out; omega⟩, ⟨bk BK211⟩, ⟨bq⟩⟩
            ·rw [if_neg c54] at H
             have c54b0 : decide (x8_4 < (l0_0.length : Int)) = false := decide_eq_false c54
             clear c54
             obtain rfl := Option.some.inj H
             go_wp2
             go_ret
             exact ⟨eq_, bq⟩
end Go.Proofs.YtkfdfpcdcabcoaaDoor.QName
