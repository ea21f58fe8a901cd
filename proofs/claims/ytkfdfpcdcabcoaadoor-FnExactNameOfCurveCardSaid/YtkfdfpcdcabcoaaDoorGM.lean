/- Walks: the printed functions, and that each call comes to them (13). -/
import Derived.Test.YtkfdfpcdcabcoaaDoorV
import Derived.Test.YtkfdfpcdcabcoaaDoorGA
import Derived.Test.YtkfdfpcdcabcoaaDoorGK
import Derived.Test.YtkfdfpcdcabcoaaDoorGL
namespace Go.Proofs.YtkfdfpcdcabcoaaDoor.QName
open Go.RowKit Go.Proofs.YtkfdfpcdcabcoaaDoorW.PrintWords Go.Proofs.YtkfdfpcdcabcoaaDoorW.PrintLast Go.Proofs.YtkfdfpcdcabcoaaDoorW.PrintMore
attribute [local go_sem] max2_int min2_int max_two min_two max_three min_three max_four min_four
set_option linter.unusedVariables false
set_option linter.unusedSimpArgs false

/-! ### impl_tangents: function 26 -/
mutual
def impl_tangents.l0 : Nat → List Int → Int → Int → Int → List (S74) → List (List Int) → Option (List Int)
 | 0, _, _, _, _, _, _ => none
 | k + 1, x3, x4, x11, x12, x511000, x511001 => if x12 < x11 then (impl_tangents.l1 k x3 x4 x12 x4 x11 x12 x12 0 x511000 x511001) else (some x3)
def impl_tangents.l1 : Nat → List Int → Int → Int → Int → Int → Int → Int → Int → List (S74) → List (List Int) → Option (List Int)
 | 0, _, _, _, _, _, _, _, _, _, _ => none
 | k + 1, x3, x4, x5, x6, x11, x12, x16, x17, x511000, x511001 => if x17 < x16 then (if 0 ≤ x5 then (if x5 < (x511001.length : Int) then (if 0 ≤ x17 then (if x17 < ((rd_L1 x511001 x5).length : Int) then (if (rd (rd_L1 x511001 x5) x17) ≥ 2 then (if x17 < (x3.length : Int) then (if (rd x3 x17) = x4 then (if x3.length < 17592186044416 then (impl_tangents.l0 k (x3 ++ [rd x3 x17]) (wrap64 (x4 + 1)) x11 (wrap64 (x12 + 1)) x511000 x511001) else (none)) else (if x3.length < 17592186044416 then (impl_tangents.l0 k (x3 ++ [rd x3 x17]) x4 x11 (wrap64 (x12 + 1)) x511000 x511001) else (none))) else (none)) else (impl_tangents.l1 k x3 x4 x5 x6 x11 x12 x16 (wrap64 (x17 + 1)) x511000 x511001)) else (none)) else (none)) else (none)) else (none)) else (if x6 = x4 then (if x3.length < 17592186044416 then (impl_tangents.l0 k (x3 ++ [x6]) (wrap64 (x4 + 1)) x11 (wrap64 (x12 + 1)) x511000 x511001) else (none)) else (if x3.length < 17592186044416 then (impl_tangents.l0 k (x3 ++ [x6]) x4 x11 (wrap64 (x12 + 1)) x511000 x511001) else (none)))
end
def impl_tangents.f (k : Nat) (l0_0 : List (S74)) (l0_1 : List (List Int)) : Option (List Int) := impl_tangents.l0 k (([] : List Int)) 0 (l0_0.length : Int) 0 l0_0 l0_1
set_option maxHeartbeats 8000000 in
set_option maxRecDepth 100000 in
theorem impl_tangents.calls (k : Nat) (A0_0 : Option Addr) (c0_0 : Nat) (l0_0 : List (S74)) (A0_1 : Option Addr) (c0_1 : Nat) (l0_1 : List (List Int)) (r : List Int) (w : World) (hr0_0 : Kd.C k74 w A0_0 l0_0.length l0_0) (hc0_0 : l0_0.length ≤ c0_0) (hr0_1 : Kd.C (Kd.slice 2 (Kd.int .i64)) w A0_1 l0_1.length l0_1) (hc0_1 : l0_1.length ≤ c0_1) (h : impl_tangents.f k l0_0 l0_1 = some r) :
  Calls Tryd.prog 26 #[.agg #[.slice A0_0 l0_0.length c0_0, .slice A0_1 l0_1.length c0_1]] w fun e w' => ∃ v0_ : Value, e = .returned (v0_) ∧ Kd.R (Kd.int .i64) 2 w' w.heap.size (fun _ => True) v0_ r ∧ Below w.heap.size w w' := by
 have hu31 := Tryd.underlying31
 have HR0_0 := Aside0.mk hr0_0
 have HC0_0 := Aside0.mk hc0_0
 clear hr0_0 hc0_0
 have HR0_1 := Aside0.mk hr0_1
 have HC0_1 := Aside0.mk hc0_1
 clear hr0_1 hc0_1
 have HB := Aside0.mk (Below.refl w.heap.size w)
 have H : (impl_tangents.l0 k (([] : List Int)) 0 (l0_0.length : Int) 0 l0_0 l0_1) = some r := h
 clear h
 obtain ⟨y511, hy511⟩ : ∃ y_ : List Int, y_ = (([] : List Int)) := ⟨_, rfl⟩
 replace H : (impl_tangents.l0 k y511 0 (l0_0.length : Int) 0 l0_0 l0_1) = some r := by first | (rw [hy511]; with_reducible exact H) | (have H2_ := (Option.bind_some _ _).symm.trans H; rw [hy511]; with_reducible exact H2_) | (have H2_ := (Option.bind_some _ _).symm.trans H; with_reducible exact H2_) | with_reducible exact H | (rw [hy511]; exact H) | exact H
 have Ny511 := Aside0.mk hy511
 clear hy511
 have H' := Aside0.mk H
 clear H
 go_enter Tryd.func26, Tryd.ntmps26
 go_wp2_with (first | ((with_reducible refine gate_dst (N := 1) rfl ?_); refine box_event ?hg (N := 1) ?hd (cs := #[.slice A0_0 l0_0.length c0_0, .slice A0_1 l0_1.length c0_1]) (t := 31) ?hr ?_; (case hd => rfl); (case hg => rfl); (case hr => first | (go_simp; done) | (go_simp; rfl)); intro gb510 hg w2 hbox hb; have BK510 := Aside0.mk (hbox); have GW510 := Aside0.mk ((by rw [hg]; exact (below_size bq) : w.heap.size ≤ gb510)); have GE510 := Aside0.mk ((by rw [hg]; exact (below_size bq) : w.heap.size ≤ gb510)); replace HB := Aside0.mk (below_step bq hb); clear hb hbox hg) | ((with_reducible refine gate_dst (N := 8) rfl ?_); refine Kd.R_lit (Kd.int .i64) _ 2 ?hg (N := 8) ?hd (xs := ([] : List Int)) (inner := []) (ok := fun _ => True) (okp := fun _ => True) ?hr ?hp (fun _ hk => hk) trivial (Below.refl _ _) (Nat.le_refl _) (by simp) ?_; (case hd => rfl); (case hg => rfl); (case hr => first | (go_simp; done) | (go_simp; rfl)); (case hp => exact (Reps.none _ _)); intro v512 w3 ho4 hb hg_ hnew_; clear hg_ hnew_; (first | rw [← Ny511.out] at ho4 | (simp only [Int.reduceToNat] at ho4; rw [← Ny511.out] at ho4)); have HO513 := Aside0.mk (Kd.R_lower ho4 (below_size bq)); replace BK510 := Aside0.mk (blk_below (g := gb510) (o := .cells #[.slice A0_0 l0_0.length c0_0, .slice A0_1 l0_1.length c0_1] 31 (0, 0)) (bk BK510) hb); replace HB := Aside0.mk (below_step bq hb); clear hb ho4; have hcz5_0 := bc0 BK510; have hcz5_1 := bc1 BK510; have hfz5_0 := blk_frozen BK510.out 0; have hfz5_1 := blk_frozen BK510.out 1))
 go_loopg [3, 4, 12] k (fun kq v3 v4 v12 w' => ∃ (x3_1 : List Int) (x4_1 : Int) (x12_1 : Int), v4 = .int .i64 x4_1 ∧ v12 = .int .i64 x12_1 ∧ Aside0 (impl_tangents.l0 kq x3_1 x4_1 (l0_0.length : Int) x12_1 l0_0 l0_1 = some r) ∧ Aside0 (kq ≤ k) ∧ Aside0 (Kd.R (Kd.int .i64) 2 w' w.heap.size (fun _ => True) v3 x3_1) ∧ Aside0 (w'.heap[gb510]? = some (.cells #[(.slice A0_0 l0_0.length c0_0), (.slice A0_1 l0_1.length c0_1)] 31 (0, 0))) ∧ Aside0 (Below w.heap.size w w'))
 case atStart => exact ⟨(y511), (0), (0), (by first | rfl | (simp; done) | (simp [*]; done)), (by first | rfl | (simp; done) | (simp [*]; done)), H', ⟨Nat.le_refl _⟩, ⟨by (with_reducible repeat (first | apply Kd.R_alloc | apply Kd.R_drewN | apply Kd.R_drew)); exact HO513.out⟩, ⟨bk BK510⟩, ⟨bq⟩⟩
 case round =>
  clear H'
  try clear c2
  try clear p2
  try clear hcz5_0
  try clear hcz5_1
  try clear hfz5_0
  try clear hfz5_1
  obtain ⟨x3_1, x4_1, x12_1, rfl, rfl, HA, HK1, HO_3, BK510, HB⟩ := hrel
  cases gk with
  | zero => exact absurd HA.out (by simp [impl_tangents.l0])
  | succ k1 =>
   have H := HA.out
   clear HA
   simp only [impl_tangents.l0] at H
   by_cases c6 : x12_1 < (l0_0.length : Int)
   ·rw [if_pos c6] at H
    have c6b0 : decide (x12_1 < (l0_0.length : Int)) = true := decide_eq_true c6
    clear c6
    have H' := Aside0.mk H
    clear H
    go_wp2
    go_loopg [6, 17] k1 (fun kq v6 v17 w' => ∃ (x6_2 : Int) (x17_2 : Int), v6 = .int .i64 x6_2 ∧ v17 = .int .i64 x17_2 ∧ Aside0 (impl_tangents.l1 kq x3_1 x4_1 x12_1 x6_2 (l0_0.length : Int) x12_1 x12_1 x17_2 l0_0 l0_1 = some r) ∧ Aside0 (kq ≤ k1) ∧ Aside0 (Kd.R (Kd.int .i64) 2 w' w.heap.size (fun _ => True) u3 x3_1) ∧ Aside0 (w'.heap[gb510]? = some (.cells #[(.slice A0_0 l0_0.length c0_0), (.slice A0_1 l0_1.length c0_1)] 31 (0, 0))) ∧ Aside0 (Below w.heap.size w w'))
    case atStart => exact ⟨(x4_1), (0), (by first | rfl | (simp; done) | (simp [*]; done)), (by first | rfl | (simp; done) | (simp [*]; done)), H', ⟨Nat.le_refl _⟩, ⟨by (with_reducible repeat (first | apply Kd.R_alloc | apply Kd.R_drewN | apply Kd.R_drew)); exact HO_3.out⟩, ⟨bk BK510⟩, ⟨bq⟩⟩
    case round =>
     clear H'
     try clear c2
     try clear p2
     try clear c6
     try clear c6b0
     try clear hcz5_0
     try clear hcz5_1
     try clear hfz5_0
     try clear hfz5_1
     try clear p2
     obtain ⟨x6_2, x17_2, rfl, rfl, HA, HK2, HO_3, BK510, HB⟩ := hrel
     cases gk with
     | zero => exact absurd HA.out (by simp [impl_tangents.l1])
     | succ k2 =>
      have H := HA.out
      clear HA
      simp only [impl_tangents.l1] at H
      by_cases c7 : x17_2 < x12_1
      ·rw [if_pos c7] at H
       have c7b0 : decide (x17_2 < x12_1) = true := decide_eq_true c7
       clear c7
       revert H
       refine ifr fun c8 H => ?_
       have c8b0 : decide (0 ≤ x12_1) = true := decide_eq_true c8
       clear c8
       revert H
       refine ifr fun c9 H => ?_
       have c9b0 : decide (x12_1 < (l0_1.length : Int)) = true := decide_eq_true c9
       clear c9
       revert H
       refine ifr fun c10 H => ?_
       have c10b0 : decide (0 ≤ x17_2) = true := decide_eq_true c10
       clear c10
       revert H
       refine ifr fun c11 H => ?_
       have c11b0 : decide (x17_2 < ((rd_L1 l0_1 x12_1).length : Int)) = true := decide_eq_true c11
       clear c11
       by_cases c12 : (rd (rd_L1 l0_1 x12_1) x17_2) ≥ 2
       ·rw [if_pos c12] at H
        have c12b0 : decide (2 ≤ (rd (rd_L1 l0_1 x12_1) x17_2)) = true := decide_eq_true c12
        clear c12
        revert H
        refine ifr fun c13 H => ?_
        have c13b0 : decide (x17_2 < (x3_1.length : Int)) = true := decide_eq_true c13
        clear c13
        by_cases c14 : (rd x3_1 x17_2) = x4_1
        ·rw [if_pos c14] at H
         have c14b0 : ((rd x3_1 x17_2) == x4_1) = true := beq_iff_eq.mpr c14
         have c14b1 : ((rd x3_1 x17_2) != x4_1) = false := bne_eq_false_iff_eq.mpr c14
         clear c14
         revert H
         refine ifr fun c15 H => ?_
         have LMc15 := Aside0.mk c15
         clear c15
         obtain ⟨y517, hy517⟩ : ∃ y_ : List Int, y_ = (x3_1 ++ [rd x3_1 x17_2]) := ⟨_, rfl⟩
         replace H : (impl_tangents.l0 k2 y517 (wrap64 (x4_1 + 1)) (l0_0.length : Int) (wrap64 (x12_1 + 1)) l0_0 l0_1) = some r := by first | (rw [hy517]; with_reducible exact H) | (have H2_ := (Option.bind_some _ _).symm.trans H; rw [hy517]; with_reducible exact H2_) | (have H2_ := (Option.bind_some _ _).symm.trans H; with_reducible exact H2_) | with_reducible exact H | (rw [hy517]; exact H) | exact H
         have Ny517 := Aside0.mk hy517
         clear hy517
         have H' := Aside0.mk H
         clear H
         have hcz16_0 := bc0 BK510
         have hcz16_1 := bc1 BK510
         have hfz16_0 := blk_frozen BK510.out 0
         have hfz16_1 := blk_frozen BK510.out 1
         have p514 : 0 ≤ (x12_1 : Int) := ode
         have q514 : x12_1 < (l0_1.length : Int) := ode
         obtain ⟨ad514, A514_0, c514_0, e514, hx514_0, hl514_0, hi514_0⟩ := at_L1 HR0_1.out x12_1 p514 q514
         cases e514
         try replace hx514_0 := (HB.out.cell (World.block_lt_of_cell? w _ hx514_0)).trans hx514_0
         have HR514_0 := Aside0.mk hi514_0
         have HC514_0 := Aside0.mk hl514_0
         clear hi514_0 hl514_0
         replace p514 := eq_true p514
         replace q514 := eq_true q514
         have p515 : 0 ≤ (x17_2 : Int) := ode
         have q515 : x17_2 < ((rd_L1 l0_1 x12_1).length : Int) := ode
         obtain ⟨ad515, e515, hx515_0⟩ := Kd.at_int HR514_0.out x17_2 p515 q515
         cases e515
         try replace hx515_0 := (HB.out.cell (World.block_lt_of_cell? w _ hx515_0)).trans hx515_0
         replace p515 := eq_true p515
         replace q515 := eq_true q515
         obtain ⟨Ao17, co17, eo17⟩ := Kd.R_slice HO_3.out
         subst eo17
         have p516 : 0 ≤ (x17_2 : Int) := ode
         have q516 : x17_2 < (x3_1.length : Int) := ode
         obtain ⟨ad516, e516, hx516_0⟩ := Kd.at_int (Kd.R_reads' HO_3.out).2.2 x17_2 p516 q516
         cases e516
         replace p516 := eq_true p516
         replace q516 := eq_true q516
         go_wp2_with (first | ((with_reducible refine gate_builtin (b := .append) (xs := #[.tmp 39, .tmp 41]) rfl ?_); at_builtin; refine Kd.R_append (Kd.int .i64) (w0 := w) w.heap.size rfl (.tmp 39) (.tmp 41) 35 2 (.int .i64 0) 8 rfl Tryd.underlying35 info2 rfl (by decide) (by omega) (.slice (some ad516) x3_1.length co17) x3_1 (rd x3_1 x17_2) [.int .i64 (rd x3_1 x17_2)] (fun _ => True) (fun _ => False) rfl rfl ?aP (fun _ hk => hk.elim) ?aF ?aO ?aB ?aS ?aL ?_; (case aP => exact rfl); (case aB => exact bq); (case aF => exact (fun _ _ => trivial)); (case aO => exact (by (with_reducible repeat (first | apply Kd.R_alloc | apply Kd.R_drewN | apply Kd.R_drew)); exact HO_3.out)); (case aS => exact (below_size bq)); (case aL => have := LMc15.out; omega); intro v518 w18 ho hb hg hat; rw [← Ny517.out] at ho; have n0_ := Aside0.mk (blk_grown (g := gb510) (o := .cells #[.slice A0_0 l0_0.length c0_0, .slice (some ad514) l0_1.length c0_1] 31 (0, 0)) (bk BK510) hg (Kd.R_ne HO_3.out BK510.out (by decide))); have n1_ := Aside0.mk (hb); have n2_ := Aside0.mk (ho); clear BK510; clear HB; clear HO_3; have BK510 := n0_; have HB := n1_; have HO519 := n2_; clear n0_ n1_ n2_; clear ho hb hg hat))
         go_roundg k2
         case measure => have := HK1.out; have := HK2.out; omega
         case rel => exact ⟨(y517), (wrap64 (x4_1 + 1)), (wrap64 (x12_1 + 1)), (by first | rfl | (simp; done) | (simp [*]; done)), (by first | rfl | (simp; done) | (simp [*]; done)), H', ⟨by have := HK1.out; have := HK2.out; omega⟩, ⟨by (with_reducible repeat (first | apply Kd.R_alloc | apply Kd.R_drewN | apply Kd.R_drew)); exact HO519.out⟩, ⟨bk BK510⟩, ⟨bq⟩⟩
        ·rw [if_neg c14] at H
         have c14b0 : ((rd x3_1 x17_2) == x4_1) = false := beq_eq_false_iff_ne.mpr c14
         have c14b1 : ((rd x3_1 x17_2) != x4_1) = true := bne_iff_ne.mpr c14
         revert H
         refine ifr fun c19 H => ?_
         have LMc19 := Aside0.mk c19
         clear c19
         obtain ⟨y520, hy520⟩ : ∃ y_ : List Int, y_ = (x3_1 ++ [rd x3_1 x17_2]) := ⟨_, rfl⟩
         replace H : (impl_tangents.l0 k2 y520 x4_1 (l0_0.length : Int) (wrap64 (x12_1 + 1)) l0_0 l0_1) = some r := by first | (rw [hy520]; with_reducible exact H) | (have H2_ := (Option.bind_some _ _).symm.trans H; rw [hy520]; with_reducible exact H2_) | (have H2_ := (Option.bind_some _ _).symm.trans H; with_reducible exact H2_) | with_reducible exact H | (rw [hy520]; exact H) | exact H
         have Ny520 := Aside0.mk hy520
         clear hy520
         have H' := Aside0.mk H
         clear H
         have hcz20_0 := bc0 BK510
         have hcz20_1 := bc1 BK510
         have hfz20_0 := blk_frozen BK510.out 0
         have hfz20_1 := blk_frozen BK510.out 1
         have p514 : 0 ≤ (x12_1 : Int) := ode
         have q514 : x12_1 < (l0_1.length : Int) := ode
         obtain ⟨ad514, A514_0, c514_0, e514, hx514_0, hl514_0, hi514_0⟩ := at_L1 HR0_1.out x12_1 p514 q514
         cases e514
         try replace hx514_0 := (HB.out.cell (World.block_lt_of_cell? w _ hx514_0)).trans hx514_0
         have HR514_0 := Aside0.mk hi514_0
         have HC514_0 := Aside0.mk hl514_0
         clear hi514_0 hl514_0
         replace p514 := eq_true p514
         replace q514 := eq_true q514
         have p515 : 0 ≤ (x17_2 : Int) := ode
         have q515 : x17_2 < ((rd_L1 l0_1 x12_1).length : Int) := ode
         obtain ⟨ad515, e515, hx515_0⟩ := Kd.at_int HR514_0.out x17_2 p515 q515
         cases e515
         try replace hx515_0 := (HB.out.cell (World.block_lt_of_cell? w _ hx515_0)).trans hx515_0
         replace p515 := eq_true p515
         replace q515 := eq_true q515
         obtain ⟨Ao21, co21, eo21⟩ := Kd.R_slice HO_3.out
         subst eo21
         have p516 : 0 ≤ (x17_2 : Int) := ode
         have q516 : x17_2 < (x3_1.length : Int) := ode
         obtain ⟨ad516, e516, hx516_0⟩ := Kd.at_int (Kd.R_reads' HO_3.out).2.2 x17_2 p516 q516
         cases e516
         replace p516 := eq_true p516
         replace q516 := eq_true q516
         go_wp2_with (first | ((with_reducible refine gate_builtin (b := .append) (xs := #[.tmp 39, .tmp 41]) rfl ?_); at_builtin; refine Kd.R_append (Kd.int .i64) (w0 := w) w.heap.size rfl (.tmp 39) (.tmp 41) 35 2 (.int .i64 0) 8 rfl Tryd.underlying35 info2 rfl (by decide) (by omega) (.slice (some ad516) x3_1.length co21) x3_1 (rd x3_1 x17_2) [.int .i64 (rd x3_1 x17_2)] (fun _ => True) (fun _ => False) rfl rfl ?aP (fun _ hk => hk.elim) ?aF ?aO ?aB ?aS ?aL ?_; (case aP => exact rfl); (case aB => exact bq); (case aF => exact (fun _ _ => trivial)); (case aO => exact (by (with_reducible repeat (first | apply Kd.R_alloc | apply Kd.R_drewN | apply Kd.R_drew)); exact HO_3.out)); (case aS => exact (below_size bq)); (case aL => have := LMc19.out; omega); intro v521 w22 ho hb hg hat; rw [← Ny520.out] at ho; have n0_ := Aside0.mk (blk_grown (g := gb510) (o := .cells #[.slice A0_0 l0_0.length c0_0, .slice (some ad514) l0_1.length c0_1] 31 (0, 0)) (bk BK510) hg (Kd.R_ne HO_3.out BK510.out (by decide))); have n1_ := Aside0.mk (hb); have n2_ := Aside0.mk (ho); clear BK510; clear HB; clear HO_3; have BK510 := n0_; have HB := n1_; have HO522 := n2_; clear n0_ n1_ n2_; clear ho hb hg hat))
         go_roundg k2
         case measure => have := HK1.out; have := HK2.out; omega
         case rel => exact ⟨(y520), (x4_1), (wrap64 (x12_1 + 1)), (by first | rfl | (simp; done) | (simp [*]; done)), (by first | rfl | (simp; done) | (simp [*]; done)), H', ⟨by have := HK1.out; have := HK2.out; omega⟩, ⟨by (with_reducible repeat (first | apply Kd.R_alloc | apply Kd.R_drewN | apply Kd.R_drew)); exact HO522.out⟩, ⟨bk BK510⟩, ⟨bq⟩⟩
       ·rw [if_neg c12] at H
        have c12b0 : decide (2 ≤ (rd (rd_L1 l0_1 x12_1) x17_2)) = false := decide_eq_false c12
        clear c12
        have H' := Aside0.mk H
        clear H
        have hcz23_0 := bc0 BK510
        have hcz23_1 := bc1 BK510
        have hfz23_0 := blk_frozen BK510.out 0
        have hfz23_1 := blk_frozen BK510.out 1
        have p514 : 0 ≤ (x12_1 : Int) := ode
        have q514 : x12_1 < (l0_1.length : Int) := ode
        obtain ⟨ad514, A514_0, c514_0, e514, hx514_0, hl514_0, hi514_0⟩ := at_L1 HR0_1.out x12_1 p514 q514
        cases e514
        try replace hx514_0 := (HB.out.cell (World.block_lt_of_cell? w _ hx514_0)).trans hx514_0
        have HR514_0 := Aside0.mk hi514_0
        have HC514_0 := Aside0.mk hl514_0
        clear hi514_0 hl514_0
        replace p514 := eq_true p514
        replace q514 := eq_true q514
        have p515 : 0 ≤ (x17_2 : Int) := ode
        have q515 : x17_2 < ((rd_L1 l0_1 x12_1).length : Int) := ode
        obtain ⟨ad515, e515, hx515_0⟩ := Kd.at_int HR514_0.out x17_2 p515 q515
        cases e515
        try replace hx515_0 := (HB.out.cell (World.block_lt_of_cell? w _ hx515_0)).trans hx515_0
        replace p515 := eq_true p515
        replace q515 := eq_true q515
        go_wp2
        go_roundg k2
        case measure => have := HK1.out; have := HK2.out; omega
        case rel => exact ⟨(x6_2), (wrap64 (x17_2 + 1)), (by first | rfl | (simp; done) | (simp [*]; done)), (by first | rfl | (simp; done) | (simp [*]; done)), H', ⟨by have := HK1.out; have := HK2.out; omega⟩, ⟨by (with_reducible repeat (first | apply Kd.R_alloc | apply Kd.R_drewN | apply Kd.R_drew)); exact HO_3.out⟩, ⟨bk BK510⟩, ⟨bq⟩⟩
      ·rw [if_neg c7] at H
       have c7b0 : decide (x17_2 < x12_1) = false := decide_eq_false c7
       clear c7
       by_cases c24 : x6_2 = x4_1
       ·rw [if_pos c24] at H
        have c24b0 : (x6_2 == x4_1) = true := beq_iff_eq.mpr c24
        have c24b1 : (x6_2 != x4_1) = false := bne_eq_false_iff_eq.mpr c24
        clear c24
        revert H
        refine ifr fun c25 H => ?_
        have LMc25 := Aside0.mk c25
        clear c25
        obtain ⟨y523, hy523⟩ : ∃ y_ : List Int, y_ = (x3_1 ++ [x6_2]) := ⟨_, rfl⟩
        replace H : (impl_tangents.l0 k2 y523 (wrap64 (x4_1 + 1)) (l0_0.length : Int) (wrap64 (x12_1 + 1)) l0_0 l0_1) = some r := by first | (rw [hy523]; with_reducible exact H) | (have H2_ := (Option.bind_some _ _).symm.trans H; rw [hy523]; with_reducible exact H2_) | (have H2_ := (Option.bind_some _ _).symm.trans H; with_reducible exact H2_) | with_reducible exact H | (rw [hy523]; exact H) | exact H
        have Ny523 := Aside0.mk hy523
        clear hy523
        have H' := Aside0.mk H
        clear H
        go_wp2_with (first | ((with_reducible refine gate_builtin (b := .append) (xs := #[.tmp 39, .tmp 41]) rfl ?_); at_builtin; refine Kd.R_append (Kd.int .i64) (w0 := w) w.heap.size rfl (.tmp 39) (.tmp 41) 35 2 (.int .i64 0) 8 rfl Tryd.underlying35 info2 rfl (by decide) (by omega) u3 x3_1 x6_2 [.int .i64 x6_2] (fun _ => True) (fun _ => False) rfl rfl ?aP (fun _ hk => hk.elim) ?aF ?aO ?aB ?aS ?aL ?_; (case aP => exact rfl); (case aB => exact bq); (case aF => exact (fun _ _ => trivial)); (case aO => exact (by (with_reducible repeat (first | apply Kd.R_alloc | apply Kd.R_drewN | apply Kd.R_drew)); exact HO_3.out)); (case aS => exact (below_size bq)); (case aL => have := LMc25.out; omega); intro v524 w26 ho hb hg hat; rw [← Ny523.out] at ho; have n0_ := Aside0.mk (blk_grown (g := gb510) (o := .cells #[.slice A0_0 l0_0.length c0_0, .slice A0_1 l0_1.length c0_1] 31 (0, 0)) (bk BK510) hg (Kd.R_ne HO_3.out BK510.out (by decide))); have n1_ := Aside0.mk (hb); have n2_ := Aside0.mk (ho); clear BK510; clear HB; clear HO_3; have BK510 := n0_; have HB := n1_; have HO525 := n2_; clear n0_ n1_ n2_; clear ho hb hg hat))
        go_roundg k2
        case measure => have := HK1.out; have := HK2.out; omega
        case rel => exact ⟨(y523), (wrap64 (x4_1 + 1)), (wrap64 (x12_1 + 1)), (by first | rfl | (simp; done) | (simp [*]; done)), (by first | rfl | (simp; done) | (simp [*]; done)), H', ⟨by have := HK1.out; have := HK2.out; omega⟩, ⟨by (with_reducible repeat (first | apply Kd.R_alloc | apply Kd.R_drewN | apply Kd.R_drew)); exact HO525.out⟩, ⟨bk BK510⟩, ⟨bq⟩⟩
       ·rw [if_neg c24] at H
        have c24b0 : (x6_2 == x4_1) = false := beq_eq_false_iff_ne.mpr c24
        have c24b1 : (x6_2 != x4_1) = true := bne_iff_ne.mpr c24
        revert H
        refine ifr fun c27 H => ?_
        have LMc27 := Aside0.mk c27
        clear c27
        obtain ⟨y526, hy526⟩ : ∃ y_ : List Int, y_ = (x3_1 ++ [x6_2]) := ⟨_, rfl⟩
        replace H : (impl_tangents.l0 k2 y526 x4_1 (l0_0.length : Int) (wrap64 (x12_1 + 1)) l0_0 l0_1) = some r := by first | (rw [hy526]; with_reducible exact H) | (have H2_ := (Option.bind_some _ _).symm.trans H; rw [hy526]; with_reducible exact H2_) | (have H2_ := (Option.bind_some _ _).symm.trans H; with_reducible exact H2_) | with_reducible exact H | (rw [hy526]; exact H) | exact H
        have Ny526 := Aside0.mk hy526
        clear hy526
        have H' := Aside0.mk H
        clear H
        go_wp2_with (first | ((with_reducible refine gate_builtin (b := .append) (xs := #[.tmp 39, .tmp 41]) rfl ?_); at_builtin; refine Kd.R_append (Kd.int .i64) (w0 := w) w.heap.size rfl (.tmp 39) (.tmp 41) 35 2 (.int .i64 0) 8 rfl Tryd.underlying35 info2 rfl (by decide) (by omega) u3 x3_1 x6_2 [.int .i64 x6_2] (fun _ => True) (fun _ => False) rfl rfl ?aP (fun _ hk => hk.elim) ?aF ?aO ?aB ?aS ?aL ?_; (case aP => exact rfl); (case aB => exact bq); (case aF => exact (fun _ _ => trivial)); (case aO => exact (by (with_reducible repeat (first | apply Kd.R_alloc | apply Kd.R_drewN | apply Kd.R_drew)); exact HO_3.out)); (case aS => exact (below_size bq)); (case aL => have := LMc27.out; omega); intro v527 w28 ho hb hg hat; rw [← Ny526.out] at ho; have n0_ := Aside0.mk (blk_grown (g := gb510) (o := .cells #[.slice A0_0 l0_0.length c0_0, .slice A0_1 l0_1.length c0_1] 31 (0, 0)) (bk BK510) hg (Kd.R_ne HO_3.out BK510.out (by decide))); have n1_ := Aside0.mk (hb); have n2_ := Aside0.mk (ho); clear BK510; clear HB; clear HO_3; have BK510 := n0_; have HB := n1_; have HO528 := n2_; clear n0_ n1_ n2_; clear ho hb hg hat))
        go_roundg k2
        case measure => have := HK1.out; have := HK2.out; omega
        case rel => exact ⟨(y526), (x4_1), (wrap64 (x12_1 + 1)), (by first | rfl | (simp; done) | (simp [*]; done)), (by first | rfl | (simp; done) | (simp [*]; done)), H', ⟨by have := HK1.out; have := HK2.out; omega⟩, ⟨by (with_reducible repeat (first | apply Kd.R_alloc | apply Kd.R_drewN | apply Kd.R_drew)); exact HO528.out⟩, ⟨bk BK510⟩, ⟨bq⟩⟩
   ·rw [if_neg c6] at H
    have c6b0 : decide (x12_1 < (l0_0.length : Int)) = false := decide_eq_false c6
    clear c6
    obtain rfl := Option.some.inj H
    go_wp2
    go_ret
    exact ⟨_, eq_, by (with_reducible repeat (first | apply Kd.R_alloc | apply Kd.R_drewN | apply Kd.R_drew)); exact HO_3.out, bq⟩

/-! ### impl_NameOfCurve: function 8 -/
def impl_NameOfCurve.j0 : Nat → Int → Bool → List (S74) → List (List Int) → Option (ByteArray × Int)
 | 0, _, _, _, _ => none
 | k + 1, x4, x17, x530000, x530001 => if x17 = true then ((impl_decimal.f x4).bind fun t539 => (if 1 + t539.size ≤ 9223372036854775807 then (some ((⟨#[68]⟩ : ByteArray) ++ t539, 0)) else (none))) else ((impl_multiplicity.f k x530000 x530001).bind fun t540 => (if t540 = 3 then (if x4 ≤ 8 then ((impl_decimal.f x4).bind fun t541 => (if 1 + t541.size ≤ 9223372036854775807 then (some ((⟨#[69]⟩ : ByteArray) ++ t541, 0)) else (none))) else (some ((⟨#[]⟩ : ByteArray), 4))) else (some ((⟨#[]⟩ : ByteArray), 4))))
def impl_NameOfCurve.f (k : Nat) (l0_0 : List (S74)) (l0_1 : List (List Int)) : Option (ByteArray × Int) := (impl_IsCurve.f k l0_0 l0_1).bind fun t530 => (if t530 = true then ((impl_curveMilnor.f k l0_0 l0_1).bind fun t531 => ((impl_multiplicity.f k l0_0 l0_1).bind fun t532 => (if t532 = 2 then ((impl_decimal.f t531).bind fun t533 => (if 1 + t533.size ≤ 9223372036854775807 then (some ((⟨#[65]⟩ : ByteArray) ++ t533, 0)) else (none))) else ((impl_multiplicity.f k l0_0 l0_1).bind fun t534 => (if t534 = 3 then ((impl_tangents.f k l0_0 l0_1).bind fun t535 => ((slices_Max_int64_int64.f k t535).bind fun t538 => (impl_NameOfCurve.j0 k t531 (decide (t538 > 0)) l0_0 l0_1))) else (impl_NameOfCurve.j0 k t531 false l0_0 l0_1)))))) else (some ((⟨#[]⟩ : ByteArray), 1)))
set_option maxHeartbeats 8000000 in
set_option maxRecDepth 100000 in
theorem impl_NameOfCurve.calls (k : Nat) (A0_0 : Option Addr) (c0_0 : Nat) (l0_0 : List (S74)) (A0_1 : Option Addr) (c0_1 : Nat) (l0_1 : List (List Int)) (r1 : ByteArray) (r2 : Int) (w : World) (hG : Lib.TabIs Tryd.prog w "internal/strconv.uint64pow10" .u64 Lib.pow10Tab) (hr0_0 : Kd.C k74 w A0_0 l0_0.length l0_0) (hc0_0 : l0_0.length ≤ c0_0) (hr0_1 : Kd.C (Kd.slice 2 (Kd.int .i64)) w A0_1 l0_1.length l0_1) (hc0_1 : l0_1.length ≤ c0_1) (h : impl_NameOfCurve.f k l0_0 l0_1 = some (r1, r2)) :
  Calls Tryd.prog 8 #[.agg #[.slice A0_0 l0_0.length c0_0, .slice A0_1 l0_1.length c0_1]] w fun e w' => e = .returned (.tuple #[.string r1, .int .i64 r2]) ∧ Below w.heap.size w w' := by
 have HG := Aside0.mk hG
 clear hG
 have hu31 := Tryd.underlying31
 have HR0_0 := Aside0.mk hr0_0
 have HC0_0 := Aside0.mk hc0_0
 clear hr0_0 hc0_0
 have HR0_1 := Aside0.mk hr0_1
 have HC0_1 := Aside0.mk hc0_1
 clear hr0_1 hc0_1
 have HB := Aside0.mk (Below.refl w.heap.size w)
 have H : ((impl_IsCurve.f k l0_0 l0_1).bind fun t530 => (if t530 = true then ((impl_curveMilnor.f k l0_0 l0_1).bind fun t531 => ((impl_multiplicity.f k l0_0 l0_1).bind fun t532 => (if t532 = 2 then ((impl_decimal.f t531).bind fun t533 => (if 1 + t533.size ≤ 9223372036854775807 then (some ((⟨#[65]⟩ : ByteArray) ++ t533, 0)) else (none))) else ((impl_multiplicity.f k l0_0 l0_1).bind fun t534 => (if t534 = 3 then ((impl_tangents.f k l0_0 l0_1).bind fun t535 => ((slices_Max_int64_int64.f k t535).bind fun t538 => (impl_NameOfCurve.j0 k t531 (decide (t538 > 0)) l0_0 l0_1))) else (impl_NameOfCurve.j0 k t531 false l0_0 l0_1)))))) else (some ((⟨#[]⟩ : ByteArray), 1)))) = some (r1, r2) := h
 clear h
 replace H := Option.bind_eq_some_iff.mp H
 obtain ⟨t530, A20, H⟩ := H
 replace H : (if t530 = true then ((impl_curveMilnor.f k l0_0 l0_1).bind fun t531 => ((impl_multiplicity.f k l0_0 l0_1).bind fun t532 => (if t532 = 2 then ((impl_decimal.f t531).bind fun t533 => (if 1 + t533.size ≤ 9223372036854775807 then (some ((⟨#[65]⟩ : ByteArray) ++ t533, 0)) else (none))) else ((impl_multiplicity.f k l0_0 l0_1).bind fun t534 => (if t534 = 3 then ((impl_tangents.f k l0_0 l0_1).bind fun t535 => ((slices_Max_int64_int64.f k t535).bind fun t538 => (impl_NameOfCurve.j0 k t531 (decide (t538 > 0)) l0_0 l0_1))) else (impl_NameOfCurve.j0 k t531 false l0_0 l0_1)))))) else (some ((⟨#[]⟩ : ByteArray), 1))) = some (r1, r2) := H
 have A2 := Aside0.mk A20
 clear A20
 by_cases c3 : t530 = true
 ·subst c3
  have H1 : ((impl_curveMilnor.f k l0_0 l0_1).bind fun t531 => ((impl_multiplicity.f k l0_0 l0_1).bind fun t532 => (if t532 = 2 then ((impl_decimal.f t531).bind fun t533 => (if 1 + t533.size ≤ 9223372036854775807 then (some ((⟨#[65]⟩ : ByteArray) ++ t533, 0)) else (none))) else ((impl_multiplicity.f k l0_0 l0_1).bind fun t534 => (if t534 = 3 then ((impl_tangents.f k l0_0 l0_1).bind fun t535 => ((slices_Max_int64_int64.f k t535).bind fun t538 => (impl_NameOfCurve.j0 k t531 (decide (t538 > 0)) l0_0 l0_1))) else (impl_NameOfCurve.j0 k t531 false l0_0 l0_1)))))) = some (r1, r2) := by rw [if_pos rfl] at H; exact H
  clear H
  have H := H1
  clear H1
  replace H := Option.bind_eq_some_iff.mp H
  obtain ⟨t531, A40, H⟩ := H
  replace H : ((impl_multiplicity.f k l0_0 l0_1).bind fun t532 => (if t532 = 2 then ((impl_decimal.f t531).bind fun t533 => (if 1 + t533.size ≤ 9223372036854775807 then (some ((⟨#[65]⟩ : ByteArray) ++ t533, 0)) else (none))) else ((impl_multiplicity.f k l0_0 l0_1).bind fun t534 => (if t534 = 3 then ((impl_tangents.f k l0_0 l0_1).bind fun t535 => ((slices_Max_int64_int64.f k t535).bind fun t538 => (impl_NameOfCurve.j0 k t531 (decide (t538 > 0)) l0_0 l0_1))) else (impl_NameOfCurve.j0 k t531 false l0_0 l0_1))))) = some (r1, r2) := H
  have A4 := Aside0.mk A40
  clear A40
  replace H := Option.bind_eq_some_iff.mp H
  obtain ⟨t532, A50, H⟩ := H
  replace H : (if t532 = 2 then ((impl_decimal.f t531).bind fun t533 => (if 1 + t533.size ≤ 9223372036854775807 then (some ((⟨#[65]⟩ : ByteArray) ++ t533, 0)) else (none))) else ((impl_multiplicity.f k l0_0 l0_1).bind fun t534 => (if t534 = 3 then ((impl_tangents.f k l0_0 l0_1).bind fun t535 => ((slices_Max_int64_int64.f k t535).bind fun t538 => (impl_NameOfCurve.j0 k t531 (decide (t538 > 0)) l0_0 l0_1))) else (impl_NameOfCurve.j0 k t531 false l0_0 l0_1)))) = some (r1, r2) := H
  have A5 := Aside0.mk A50
  clear A50
  by_cases c6 : t532 = 2
  ·rw [if_pos c6] at H
   have c6b0 : (t532 == 2) = true := beq_iff_eq.mpr c6
   have c6b1 : (t532 != 2) = false := bne_eq_false_iff_eq.mpr c6
   clear c6
   replace H := Option.bind_eq_some_iff.mp H
   obtain ⟨t533, A70, H⟩ := H
   replace H : (if 1 + t533.size ≤ 9223372036854775807 then (some ((⟨#[65]⟩ : ByteArray) ++ t533, 0)) else (none)) = some (r1, r2) := H
   have A7 := Aside0.mk A70
   clear A70
   revert H
   refine ifr fun c8 H => ?_
   have c8b0 := eq_true c8
   have c8b1 : decide (1 + t533.size ≤ 9223372036854775807) = true := decide_eq_true c8
   try have c8b2 : (9223372036854775807 < 1 + t533.size) = False := eq_false (Nat.not_lt.2 c8)
   simp only [Option.some.injEq, Prod.mk.injEq] at H
   obtain ⟨rfl, rfl⟩ := H
   go_enter Tryd.func8, Tryd.ntmps8
   go_wp2_with (first | ((with_reducible refine gate_dst (N := 1) rfl ?_); refine box_event ?hg (N := 1) ?hd (cs := #[.slice A0_0 l0_0.length c0_0, .slice A0_1 l0_1.length c0_1]) (t := 31) ?hr ?_; (case hd => rfl); (case hg => rfl); (case hr => first | (go_simp; done) | (go_simp; rfl)); intro gb529 hg w9 hbox hb; have BK529 := Aside0.mk (hbox); have GW529 := Aside0.mk ((by rw [hg]; exact (below_size bq) : w.heap.size ≤ gb529)); have GE529 := Aside0.mk ((by rw [hg]; exact (below_size bq) : w.heap.size ≤ gb529)); replace HB := Aside0.mk (below_step bq hb); clear hb hbox hg; have hcz10_0 := bc0 BK529; have hcz10_1 := bc1 BK529; have hfz10_0 := blk_frozen BK529.out 0; have hfz10_1 := blk_frozen BK529.out 1) | ((with_reducible refine gate_callee (f := 21) rfl ?_); refine gL 6 Tryd.func21 #[.agg #[.slice A0_0 l0_0.length c0_0, .slice A0_1 l0_1.length c0_1]] ?_; (with_reducible refine (impl_IsCurve.calls k _ _ l0_0 _ _ l0_1 true _ ?side1 ?side2 ?side3 ?side4 A2.out).mono ?_); (case side1 => exact kc HR0_0); (case side2 => exact HC0_0.out); (case side3 => exact kc HR0_1); (case side4 => exact HC0_1.out); rintro e w11 ⟨rfl, hb⟩; refine ⟨_, rfl, ?_⟩; replace BK529 := Aside0.mk (blk_below (g := gb529) (o := .cells #[.slice A0_0 l0_0.length c0_0, .slice A0_1 l0_1.length c0_1] 31 (0, 0)) (bk BK529) hb); replace HB := Aside0.mk (below_step bq hb); (try clear hb); have hcz12_0 := bc0 BK529; have hcz12_1 := bc1 BK529; have hfz12_0 := blk_frozen BK529.out 0; have hfz12_1 := blk_frozen BK529.out 1) | ((with_reducible refine gate_callee (f := 22) rfl ?_); refine gL 9 Tryd.func22 #[.agg #[.slice A0_0 l0_0.length c0_0, .slice A0_1 l0_1.length c0_1]] ?_; (with_reducible refine (impl_curveMilnor.calls k _ _ l0_0 _ _ l0_1 t531 _ ?side1 ?side2 ?side3 ?side4 A4.out).mono ?_); (case side1 => exact kc HR0_0); (case side2 => exact HC0_0.out); (case side3 => exact kc HR0_1); (case side4 => exact HC0_1.out); rintro e w13 ⟨rfl, hb⟩; refine ⟨_, rfl, ?_⟩; replace BK529 := Aside0.mk (blk_below (g := gb529) (o := .cells #[.slice A0_0 l0_0.length c0_0, .slice A0_1 l0_1.length c0_1] 31 (0, 0)) (bk BK529) hb); replace HB := Aside0.mk (below_step bq hb); (try clear hb); have hcz14_0 := bc0 BK529; have hcz14_1 := bc1 BK529; have hfz14_0 := blk_frozen BK529.out 0; have hfz14_1 := blk_frozen BK529.out 1) | ((with_reducible refine gate_callee (f := 23) rfl ?_); refine gL 12 Tryd.func23 #[.agg #[.slice A0_0 l0_0.length c0_0, .slice A0_1 l0_1.length c0_1]] ?_; (with_reducible refine (impl_multiplicity.calls k _ _ l0_0 _ _ l0_1 t532 _ ?side1 ?side2 ?side3 ?side4 A5.out).mono ?_); (case side1 => exact kc HR0_0); (case side2 => exact HC0_0.out); (case side3 => exact kc HR0_1); (case side4 => exact HC0_1.out); rintro e w15 ⟨rfl, hb⟩; refine ⟨_, rfl, ?_⟩; replace BK529 := Aside0.mk (blk_below (g := gb529) (o := .cells #[.slice A0_0 l0_0.length c0_0, .slice A0_1 l0_1.length c0_1] 31 (0, 0)) (bk BK529) hb); replace HB := Aside0.mk (below_step bq hb); (try clear hb)) | ((with_reducible refine gate_callee (f := 24) rfl ?_); refine gL 15 Tryd.func24 #[.int .i64 t531] ?_; (with_reducible refine (impl_decimal.calls t531 t533 _ ?sideG A7.out).mono ?_); (case sideG => exact tab_below HG.out bq); rintro e w16 ⟨rfl, hb⟩; refine ⟨_, rfl, ?_⟩; replace BK529 := Aside0.mk (blk_below (g := gb529) (o := .cells #[.slice A0_0 l0_0.length c0_0, .slice A0_1 l0_1.length c0_1] 31 (0, 0)) (bk BK529) hb); replace HB := Aside0.mk (below_step bq hb); (try clear hb)))
   go_ret2
   exact ⟨eq_, bq⟩
  ·rw [if_neg c6] at H
   have c6b0 : (t532 == 2) = false := beq_eq_false_iff_ne.mpr c6
   have c6b1 : (t532 != 2) = true := bne_iff_ne.mpr c6
   have HC17 := Aside0.mk H
   clear H
   go_enter Tryd.func8, Tryd.ntmps8
   go_upto_region 6 with (first | ((with_reducible refine gate_dst (N := 1) rfl ?_); refine box_event ?hg (N := 1) ?hd (cs := #[.slice A0_0 l0_0.length c0_0, .slice A0_1 l0_1.length c0_1]) (t := 31) ?hr ?_; (case hd => rfl); (case hg => rfl); (case hr => first | (go_simp; done) | (go_simp; rfl)); intro gb529 hg w18 hbox hb; have BK529 := Aside0.mk (hbox); have GW529 := Aside0.mk ((by rw [hg]; exact (below_size bq) : w.heap.size ≤ gb529)); have GE529 := Aside0.mk ((by rw [hg]; exact (below_size bq) : w.heap.size ≤ gb529)); replace HB := Aside0.mk (below_step bq hb); clear hb hbox hg; have hcz19_0 := bc0 BK529; have hcz19_1 := bc1 BK529; have hfz19_0 := blk_frozen BK529.out 0; have hfz19_1 := blk_frozen BK529.out 1) | ((with_reducible refine gate_callee (f := 21) rfl ?_); refine gL 6 Tryd.func21 #[.agg #[.slice A0_0 l0_0.length c0_0, .slice A0_1 l0_1.length c0_1]] ?_; (with_reducible refine (impl_IsCurve.calls k _ _ l0_0 _ _ l0_1 true _ ?side1 ?side2 ?side3 ?side4 A2.out).mono ?_); (case side1 => exact kc HR0_0); (case side2 => exact HC0_0.out); (case side3 => exact kc HR0_1); (case side4 => exact HC0_1.out); rintro e w20 ⟨rfl, hb⟩; refine ⟨_, rfl, ?_⟩; replace BK529 := Aside0.mk (blk_below (g := gb529) (o := .cells #[.slice A0_0 l0_0.length c0_0, .slice A0_1 l0_1.length c0_1] 31 (0, 0)) (bk BK529) hb); replace HB := Aside0.mk (below_step bq hb); (try clear hb); have hcz21_0 := bc0 BK529; have hcz21_1 := bc1 BK529; have hfz21_0 := blk_frozen BK529.out 0; have hfz21_1 := blk_frozen BK529.out 1) | ((with_reducible refine gate_callee (f := 22) rfl ?_); refine gL 9 Tryd.func22 #[.agg #[.slice A0_0 l0_0.length c0_0, .slice A0_1 l0_1.length c0_1]] ?_; (with_reducible refine (impl_curveMilnor.calls k _ _ l0_0 _ _ l0_1 t531 _ ?side1 ?side2 ?side3 ?side4 A4.out).mono ?_); (case side1 => exact kc HR0_0); (case side2 => exact HC0_0.out); (case side3 => exact kc HR0_1); (case side4 => exact HC0_1.out); rintro e w22 ⟨rfl, hb⟩; refine ⟨_, rfl, ?_⟩; replace BK529 := Aside0.mk (blk_below (g := gb529) (o := .cells #[.slice A0_0 l0_0.length c0_0, .slice A0_1 l0_1.length c0_1] 31 (0, 0)) (bk BK529) hb); replace HB := Aside0.mk (below_step bq hb); (try clear hb); have hcz23_0 := bc0 BK529; have hcz23_1 := bc1 BK529; have hfz23_0 := blk_frozen BK529.out 0; have hfz23_1 := blk_frozen BK529.out 1) | ((with_reducible refine gate_callee (f := 23) rfl ?_); refine gL 12 Tryd.func23 #[.agg #[.slice A0_0 l0_0.length c0_0, .slice A0_1 l0_1.length c0_1]] ?_; (with_reducible refine (impl_multiplicity.calls k _ _ l0_0 _ _ l0_1 t532 _ ?side1 ?side2 ?side3 ?side4 A5.out).mono ?_); (case side1 => exact kc HR0_0); (case side2 => exact HC0_0.out); (case side3 => exact kc HR0_1); (case side4 => exact HC0_1.out); rintro e w24 ⟨rfl, hb⟩; refine ⟨_, rfl, ?_⟩; replace BK529 := Aside0.mk (blk_below (g := gb529) (o := .cells #[.slice A0_0 l0_0.length c0_0, .slice A0_1 l0_1.length c0_1] 31 (0, 0)) (bk BK529) hb); replace HB := Aside0.mk (below_step bq hb); (try clear hb)))
   (try simp only [Act.put, List.setIfInBounds_toArray, List.set_cons_zero, List.set_cons_succ])
   go_cut [17] (fun v17 wc => ∃ (kq : Nat) (x17_16 : Bool), v17 = .bool x17_16 ∧ Aside0 (impl_NameOfCurve.j0 kq t531 x17_16 l0_0 l0_1 = some (r1, r2)) ∧ Aside0 (kq ≤ k) ∧ Aside0 (wc.heap[gb529]? = some (.cells #[(.slice A0_0 l0_0.length c0_0), (.slice A0_1 l0_1.length c0_1)] 31 (0, 0))) ∧ Aside0 (Below w.heap.size w wc))
   case first =>
    have H := HC17.out
    clear HC17
    replace H := Option.bind_eq_some_iff.mp H
    obtain ⟨t534, A250, H⟩ := H
    replace H : (if t534 = 3 then ((impl_tangents.f k l0_0 l0_1).bind fun t535 => ((slices_Max_int64_int64.f k t535).bind fun t538 => (impl_NameOfCurve.j0 k t531 (decide (t538 > 0)) l0_0 l0_1))) else (impl_NameOfCurve.j0 k t531 false l0_0 l0_1)) = some (r1, r2) := H
    have A25 := Aside0.mk A250
    clear A250
    by_cases c26 : t534 = 3
    ·rw [if_pos c26] at H
     have c26b0 : (t534 == 3) = true := beq_iff_eq.mpr c26
     have c26b1 : (t534 != 3) = false := bne_eq_false_iff_eq.mpr c26
     clear c26
     (first | rw [c26b0] | (simp only [i64_w, i32_w]; rw [c26b0]) | skip)
     replace H := Option.bind_eq_some_iff.mp H
     obtain ⟨t535, A270, H⟩ := H
     replace H : ((slices_Max_int64_int64.f k t535).bind fun t538 => (impl_NameOfCurve.j0 k t531 (decide (t538 > 0)) l0_0 l0_1)) = some (r1, r2) := H
     have A27 := Aside0.mk A270
     clear A270
     replace H := Option.bind_eq_some_iff.mp H
     obtain ⟨t538, A280, H⟩ := H
     replace H : (impl_NameOfCurve.j0 k t531 (decide (t538 > 0)) l0_0 l0_1) = some (r1, r2) := H
     have A28 := Aside0.mk A280
     clear A280
     have H' := Aside0.mk H
     clear H
     have hcz29_0 := bc0 BK529
     have hcz29_1 := bc1 BK529
     have hfz29_0 := blk_frozen BK529.out 0
     have hfz29_1 := blk_frozen BK529.out 1
     go_wp2_with (first | ((with_reducible refine gate_callee (f := 23) rfl ?_); refine gL 19 Tryd.func23 #[.agg #[.slice A0_0 l0_0.length c0_0, .slice A0_1 l0_1.length c0_1]] ?_; (with_reducible refine (impl_multiplicity.calls k _ _ l0_0 _ _ l0_1 t534 _ ?side1 ?side2 ?side3 ?side4 A25.out).mono ?_); (case side1 => exact kc HR0_0); (case side2 => exact HC0_0.out); (case side3 => exact kc HR0_1); (case side4 => exact HC0_1.out); rintro e w30 ⟨rfl, hb⟩; refine ⟨_, rfl, ?_⟩; replace BK529 := Aside0.mk (blk_below (g := gb529) (o := .cells #[.slice A0_0 l0_0.length c0_0, .slice A0_1 l0_1.length c0_1] 31 (0, 0)) (bk BK529) hb); replace HB := Aside0.mk (below_step bq hb); (try clear hb); have hcz31_0 := bc0 BK529; have hcz31_1 := bc1 BK529; have hfz31_0 := blk_frozen BK529.out 0; have hfz31_1 := blk_frozen BK529.out 1) | (go_at_call 26; (with_reducible refine (impl_tangents.calls k _ _ l0_0 _ _ l0_1 t535 _ ?side1 ?side2 ?side3 ?side4 A27.out).mono ?_); (case side1 => exact kc HR0_0); (case side2 => exact HC0_0.out); (case side3 => exact kc HR0_1); (case side4 => exact HC0_1.out); rintro e w32 ⟨v536, rfl, ho0, hb⟩; have HO537 := Aside0.mk (Kd.R_lower ho0 (below_size bq)); replace BK529 := Aside0.mk (blk_below (g := gb529) (o := .cells #[.slice A0_0 l0_0.length c0_0, .slice A0_1 l0_1.length c0_1] 31 (0, 0)) (bk BK529) hb); replace HB := Aside0.mk (below_step bq hb); (try clear hb); (try clear ho0); obtain ⟨Ao33, co33, eo33⟩ := Kd.R_slice HO537.out; subst eo33) | (go_at_call 25; (with_reducible refine (slices_Max_int64_int64.calls k _ _ t535 t538 _ ?side1 ?side2 A28.out).mono ?_); (case side1 => repeat (first | exact (Kd.R_reads' HO537.out).2.2 | (with_reducible refine Kd.C_alloc ?_ _) | (with_reducible refine Kd.C_drewN ?_ _) | (with_reducible refine Kd.C_drew ?_))); (case side2 => exact (Kd.R_reads' HO537.out).2.1); rintro e w34 ⟨rfl, hb⟩; replace HO537 := Aside0.mk (Kd.R_below (by (with_reducible repeat (first | apply Kd.R_alloc | apply Kd.R_drewN | apply Kd.R_drew)); exact HO537.out) hb); replace BK529 := Aside0.mk (blk_below (g := gb529) (o := .cells #[.slice A0_0 l0_0.length c0_0, .slice A0_1 l0_1.length c0_1] 31 (0, 0)) (bk BK529) hb); replace HB := Aside0.mk (below_step bq hb); (try clear hb)))
     go_meet
     case rel => exact ⟨_, (decide (t538 > 0)), (by first | rfl | (simp; done) | (simp [*]; done)), H', ⟨by first | omega | exact Nat.le_refl _⟩, ⟨bk BK529⟩, ⟨bq⟩⟩
    ·rw [if_neg c26] at H
     have c26b0 : (t534 == 3) = false := beq_eq_false_iff_ne.mpr c26
     have c26b1 : (t534 != 3) = true := bne_iff_ne.mpr c26
     (first | rw [c26b0] | (simp only [i64_w, i32_w]; rw [c26b0]) | skip)
     have H' := Aside0.mk H
     clear H
     have hcz35_0 := bc0 BK529
     have hcz35_1 := bc1 BK529
     have hfz35_0 := blk_frozen BK529.out 0
     have hfz35_1 := blk_frozen BK529.out 1
     go_wp2_with (first | ((with_reducible refine gate_callee (f := 23) rfl ?_); refine gL 19 Tryd.func23 #[.agg #[.slice A0_0 l0_0.length c0_0, .slice A0_1 l0_1.length c0_1]] ?_; (with_reducible refine (impl_multiplicity.calls k _ _ l0_0 _ _ l0_1 t534 _ ?side1 ?side2 ?side3 ?side4 A25.out).mono ?_); (case side1 => exact kc HR0_0); (case side2 => exact HC0_0.out); (case side3 => exact kc HR0_1); (case side4 => exact HC0_1.out); rintro e w36 ⟨rfl, hb⟩; refine ⟨_, rfl, ?_⟩; replace BK529 := Aside0.mk (blk_below (g := gb529) (o := .cells #[.slice A0_0 l0_0.length c0_0, .slice A0_1 l0_1.length c0_1] 31 (0, 0)) (bk BK529) hb); replace HB := Aside0.mk (below_step bq hb); (try clear hb)))
     go_meet
     case rel => exact ⟨_, (false), (by first | rfl | (simp; done) | (simp [*]; done)), H', ⟨by first | omega | exact Nat.le_refl _⟩, ⟨bk BK529⟩, ⟨bq⟩⟩
   case rest =>
    clear HC17
    try clear c2
    try clear p2
    try clear c3
    try clear c6
    try clear c6b0
    try clear c6b1
    try clear c8
    try clear c8b0
    try clear c8b1
    try clear c8b2
    try clear c21
    try clear c22
    try clear c23
    try clear c24
    try clear c26
    try clear c26b0
    try clear c26b1
    try clear hcz10_0
    try clear hcz10_1
    try clear hcz12_0
    try clear hcz12_1
    try clear hcz14_0
    try clear hcz14_1
    try clear hcz19_0
    try clear hcz19_1
    try clear hcz21_0
    try clear hcz21_1
    try clear hcz23_0
    try clear hcz23_1
    try clear hcz29_0
    try clear hcz29_1
    try clear hcz31_0
    try clear hcz31_1
    try clear hcz35_0
    try clear hcz35_1
    try clear hfz10_0
    try clear hfz10_1
    try clear hfz12_0
    try clear hfz12_1
    try clear hfz14_0
    try clear hfz14_1
    try clear hfz19_0
    try clear hfz19_1
    try clear hfz21_0
    try clear hfz21_1
    try clear hfz23_0
    try clear hfz23_1
    try clear hfz29_0
    try clear hfz29_1
    try clear hfz31_0
    try clear hfz31_1
    try clear hfz35_0
    try clear hfz35_1
    obtain ⟨kq, x17_16, rfl, HA, HJ16, BK529, HB⟩ := hcut
    cases kq with
    | zero => exact absurd HA.out (by simp [impl_NameOfCurve.j0])
    | succ kj16 =>
     have H := HA.out
     clear HA
     simp only [impl_NameOfCurve.j0] at H
     by_cases c37 : x17_16 = true
     ·subst c37
      have H1 : ((impl_decimal.f t531).bind fun t539 => (if 1 + t539.size ≤ 9223372036854775807 then (some ((⟨#[68]⟩ : ByteArray) ++ t539, 0)) else (none))) = some (r1, r2) := by rw [if_pos rfl] at H; exact H
      clear H
      have H := H1
      clear H1
      replace H := Option.bind_eq_some_iff.mp H
      obtain ⟨t539, A380, H⟩ := H
      replace H : (if 1 + t539.size ≤ 9223372036854775807 then (some ((⟨#[68]⟩ : ByteArray) ++ t539, 0)) else (none)) = some (r1, r2) := H
      have A38 := Aside0.mk A380
      clear A380
      revert H
      refine ifr fun c39 H => ?_
      have c39b0 := eq_true c39
      have c39b1 : decide (1 + t539.size ≤ 9223372036854775807) = true := decide_eq_true c39
      try have c39b2 : (9223372036854775807 < 1 + t539.size) = False := eq_false (Nat.not_lt.2 c39)
      simp only [Option.some.injEq, Prod.mk.injEq] at H
      obtain ⟨rfl, rfl⟩ := H
      go_wp2_with (first | ((with_reducible refine gate_callee (f := 24) rfl ?_); refine gL 28 Tryd.func24 #[.int .i64 t531] ?_; (with_reducible refine (impl_decimal.calls t531 t539 _ ?sideG A38.out).mono ?_); (case sideG => exact tab_below HG.out bq); rintro e w40 ⟨rfl, hb⟩; refine ⟨_, rfl, ?_⟩; replace BK529 := Aside0.mk (blk_below (g := gb529) (o := .cells #[.slice A0_0 l0_0.length c0_0, .slice A0_1 l0_1.length c0_1] 31 (0, 0)) (bk BK529) hb); replace HB := Aside0.mk (below_step bq hb); (try clear hb)))
      go_ret2
      exact ⟨eq_, bq⟩
     ·replace c37 := Bool.eq_false_iff.mpr c37
      subst c37
      have H1 : ((impl_multiplicity.f kj16 l0_0 l0_1).bind fun t540 => (if t540 = 3 then (if t531 ≤ 8 then ((impl_decimal.f t531).bind fun t541 => (if 1 + t541.size ≤ 9223372036854775807 then (some ((⟨#[69]⟩ : ByteArray) ++ t541, 0)) else (none))) else (some ((⟨#[]⟩ : ByteArray), 4))) else (some ((⟨#[]⟩ : ByteArray), 4)))) = some (r1, r2) := by rw [if_neg (show ¬ (false = true) by decide)] at H; exact H
      clear H
      have H := H1
      clear H1
      replace H := Option.bind_eq_some_iff.mp H
      obtain ⟨t540, A410, H⟩ := H
      replace H : (if t540 = 3 then (if t531 ≤ 8 then ((impl_decimal.f t531).bind fun t541 => (if 1 + t541.size ≤ 9223372036854775807 then (some ((⟨#[69]⟩ : ByteArray) ++ t541, 0)) else (none))) else (some ((⟨#[]⟩ : ByteArray), 4))) else (some ((⟨#[]⟩ : ByteArray), 4))) = some (r1, r2) := H
      have A41 := Aside0.mk A410
      clear A410
      by_cases c42 : t540 = 3
      ·rw [if_pos c42] at H
       have c42b0 : (t540 == 3) = true := beq_iff_eq.mpr c42
       have c42b1 : (t540 != 3) = false := bne_eq_false_iff_eq.mpr c42
       clear c42
       by_cases c43 : t531 ≤ 8
       ·rw [if_pos c43] at H
        have c43b0 : decide (t531 ≤ 8) = true := decide_eq_true c43
        clear c43
        replace H := Option.bind_eq_some_iff.mp H
        obtain ⟨t541, A440, H⟩ := H
        replace H : (if 1 + t541.size ≤ 9223372036854775807 then (some ((⟨#[69]⟩ : ByteArray) ++ t541, 0)) else (none)) = some (r1, r2) := H
        have A44 := Aside0.mk A440
        clear A440
        revert H
        refine ifr fun c45 H => ?_
        have c45b0 := eq_true c45
        have c45b1 : decide (1 + t541.size ≤ 9223372036854775807) = true := decide_eq_true c45
        try have c45b2 : (9223372036854775807 < 1 + t541.size) = False := eq_false (Nat.not_lt.2 c45)
        simp only [Option.some.injEq, Prod.mk.injEq] at H
        obtain ⟨rfl, rfl⟩ := H
        have hcz46_0 := bc0 BK529
        have hcz46_1 := bc1 BK529
        have hfz46_0 := blk_frozen BK529.out 0
        have hfz46_1 := blk_frozen BK529.out 1
        go_wp2_with (first | ((with_reducible refine gate_callee (f := 23) rfl ?_); refine gL 32 Tryd.func23 #[.agg #[.slice A0_0 l0_0.length c0_0, .slice A0_1 l0_1.length c0_1]] ?_; (with_reducible refine (impl_multiplicity.calls kj16 _ _ l0_0 _ _ l0_1 t540 _ ?side1 ?side2 ?side3 ?side4 A41.out).mono ?_); (case side1 => exact kc HR0_0); (case side2 => exact HC0_0.out); (case side3 => exact kc HR0_1); (case side4 => exact HC0_1.out); rintro e w47 ⟨rfl, hb⟩; refine ⟨_, rfl, ?_⟩; replace BK529 := Aside0.mk (blk_below (g := gb529) (o := .cells #[.slice A0_0 l0_0.length c0_0, .slice A0_1 l0_1.length c0_1] 31 (0, 0)) (bk BK529) hb); replace HB := Aside0.mk (below_step bq hb); (try clear hb)) | ((with_reducible refine gate_callee (f := 24) rfl ?_); refine gL 39 Tryd.func24 #[.int .i64 t531] ?_; (with_reducible refine (impl_decimal.calls t531 t541 _ ?sideG A44.out).mono ?_); (case sideG => exact tab_below HG.out bq); rintro e w48 ⟨rfl, hb⟩; refine ⟨_, rfl, ?_⟩; replace BK529 := Aside0.mk (blk_below (g := gb529) (o := .cells #[.slice A0_0 l0_0.length c0_0, .slice A0_1 l0_1.length c0_1] 31 (0, 0)) (bk BK529) hb); replace HB := Aside0.mk (below_step bq hb); (try clear hb)))
        go_ret2
        exact ⟨eq_, bq⟩
       ·rw [if_neg c43] at H
        have c43b0 : decide (t531 ≤ 8) = false := decide_eq_false c43
        clear c43
        simp only [Option.some.injEq, Prod.mk.injEq] at H
        obtain ⟨rfl, rfl⟩ := H
        have hcz49_0 := bc0 BK529
        have hcz49_1 := bc1 BK529
        have hfz49_0 := blk_frozen BK529.out 0
        have hfz49_1 := blk_frozen BK529.out 1
        go_wp2_with (first | ((with_reducible refine gate_callee (f := 23) rfl ?_); refine gL 32 Tryd.func23 #[.agg #[.slice A0_0 l0_0.length c0_0, .slice A0_1 l0_1.length c0_1]] ?_; (with_reducible refine (impl_multiplicity.calls kj16 _ _ l0_0 _ _ l0_1 t540 _ ?side1 ?side2 ?side3 ?side4 A41.out).mono ?_); (case side1 => exact kc HR0_0); (case side2 => exact HC0_0.out); (case side3 => exact kc HR0_1); (case side4 => exact HC0_1.out); rintro e w50 ⟨rfl, hb⟩; refine ⟨_, rfl, ?_⟩; replace BK529 := Aside0.mk (blk_below (g := gb529) (o := .cells #[.slice A0_0 l0_0.length c0_0, .slice A0_1 l0_1.length c0_1] 31 (0, 0)) (bk BK529) hb); replace HB := Aside0.mk (below_step bq hb); (try clear hb)))
        go_ret2
        exact ⟨eq_, bq⟩
      ·rw [if_neg c42] at H
       have c42b0 : (t540 == 3) = false := beq_eq_false_iff_ne.mpr c42
       have c42b1 : (t540 != 3) = true := bne_iff_ne.mpr c42
       simp only [Option.some.injEq, Prod.mk.injEq] at H
       obtain ⟨rfl, rfl⟩ := H
       have hcz51_0 := bc0 BK529
       have hcz51_1 := bc1 BK529
       have hfz51_0 := blk_frozen BK529.out 0
       have hfz51_1 := blk_frozen BK529.out 1
       go_wp2_with (first | ((with_reducible refine gate_callee (f := 23) rfl ?_); refine gL 32 Tryd.func23 #[.agg #[.slice A0_0 l0_0.length c0_0, .slice A0_1 l0_1.length c0_1]] ?_; (with_reducible refine (impl_multiplicity.calls kj16 _ _ l0_0 _ _ l0_1 t540 _ ?side1 ?side2 ?side3 ?side4 A41.out).mono ?_); (case side1 => exact kc HR0_0); (case side2 => exact HC0_0.out); (case side3 => exact kc HR0_1); (case side4 => exact HC0_1.out); rintro e w52 ⟨rfl, hb⟩; refine ⟨_, rfl, ?_⟩; replace BK529 := Aside0.mk (blk_below (g := gb529) (o := .cells #[.slice A0_0 l0_0.length c0_0, .slice A0_1 l0_1.length c0_1] 31 (0, 0)) (bk BK529) hb); replace HB := Aside0.mk (below_step bq hb); (try clear hb)))
       go_ret2
       exact ⟨eq_, bq⟩
 ·replace c3 := Bool.eq_false_iff.mpr c3
  subst c3
  have H1 : (some ((⟨#[]⟩ : ByteArray), 1)) = some (r1, r2) := by rw [if_neg (show ¬ (false = true) by decide)] at H; exact H
  clear H
  have H := H1
  clear H1
  simp only [Option.some.injEq, Prod.mk.injEq] at H
  obtain ⟨rfl, rfl⟩ := H
  go_enter Tryd.func8, Tryd.ntmps8
  go_wp2_with (first | ((with_reducible refine gate_dst (N := 1) rfl ?_); refine box_event ?hg (N := 1) ?hd (cs := #[.slice A0_0 l0_0.length c0_0, .slice A0_1 l0_1.length c0_1]) (t := 31) ?hr ?_; (case hd => rfl); (case hg => rfl); (case hr => first | (go_simp; done) | (go_simp; rfl)); intro gb529 hg w53 hbox hb; have BK529 := Aside0.mk (hbox); have GW529 := Aside0.mk ((by rw [hg]; exact (below_size bq) : w.heap.size ≤ gb529)); have GE529 := Aside0.mk ((by rw [hg]; exact (below_size bq) : w.heap.size ≤ gb529)); replace HB := Aside0.mk (below_step bq hb); clear hb hbox hg; have hcz54_0 := bc0 BK529; have hcz54_1 := bc1 BK529; have hfz54_0 := blk_frozen BK529.out 0; have hfz54_1 := blk_frozen BK529.out 1) | ((with_reducible refine gate_callee (f := 21) rfl ?_); refine gL 6 Tryd.func21 #[.agg #[.slice A0_0 l0_0.length c0_0, .slice A0_1 l0_1.length c0_1]] ?_; (with_reducible refine (impl_IsCurve.calls k _ _ l0_0 _ _ l0_1 false _ ?side1 ?side2 ?side3 ?side4 A2.out).mono ?_); (case side1 => exact kc HR0_0); (case side2 => exact HC0_0.out); (case side3 => exact kc HR0_1); (case side4 => exact HC0_1.out); rintro e w55 ⟨rfl, hb⟩; refine ⟨_, rfl, ?_⟩; replace BK529 := Aside0.mk (blk_below (g := gb529) (o := .cells #[.slice A0_0 l0_0.length c0_0, .slice A0_1 l0_1.length c0_1] 31 (0, 0)) (bk BK529) hb); replace HB := Aside0.mk (below_step bq hb); (try clear hb)))
  go_ret2
  exact ⟨eq_, bq⟩

/-! ### laws_eqInt64S: function 59 -/
def laws_eqInt64S.l0 : Nat → List Int → List Int → Int → Option (Bool)
 | 0, _, _, _ => none
 | k + 1, x0, x1, x5 => if x5 < (x0.length : Int) then (if 0 ≤ x5 then (if x5 < (x1.length : Int) then (if (rd x0 x5) = (rd x1 x5) then (laws_eqInt64S.l0 k x0 x1 (wrap64 (x5 + 1))) else (some false)) else (none)) else (none)) else (some true)
def laws_eqInt64S.f (k : Nat) (l0 : List Int) (l1 : List Int) : Option (Bool) := if (l0.length : Int) = (l1.length : Int) then (laws_eqInt64S.l0 k l0 l1 0) else (some false)
set_option maxHeartbeats 8000000 in
set_option maxRecDepth 100000 in
theorem laws_eqInt64S.calls (k : Nat) (A0 : Option Addr) (c0 : Nat) (l0 : List Int) (A1 : Option Addr) (c1 : Nat) (l1 : List Int) (r : Bool) (w : World) (hr0 : Kd.C (Kd.int .i64) w A0 l0.length l0) (hc0 : l0.length ≤ c0) (hr1 : Kd.C (Kd.int .i64) w A1 l1.length l1) (hc1 : l1.length ≤ c1) (h : laws_eqInt64S.f k l0 l1 = some r) :
  Calls Tryd.prog 59 #[.slice A0 l0.length c0, .slice A1 l1.length c1] w fun e w' => e = .returned (.bool r) ∧ Drawn0 w w' := by
 have HR0 := Aside0.mk hr0
 have HC0 := Aside0.mk hc0
 clear hr0 hc0
 have HR1 := Aside0.mk hr1
 have HC1 := Aside0.mk hc1
 clear hr1 hc1
 have H : (if (l0.length : Int) = (l1.length : Int) then (laws_eqInt64S.l0 k l0 l1 0) else (some false)) = some r := h
 clear h
 by_cases c3 : (l0.length : Int) = (l1.length : Int)
 ·rw [if_pos c3] at H
  have c3b0 : ((l0.length : Int) == (l1.length : Int)) = true := beq_iff_eq.mpr c3
  have c3b1 : ((l0.length : Int) != (l1.length : Int)) = false := bne_eq_false_iff_eq.mpr c3
  have c3b2 : (l0.length == l1.length) = true := by first | simpa using c3 | (simp at c3 ⊢; omega)
  clear c3
  have H' := Aside0.mk H
  clear H
  go_enter Tryd.func59, Tryd.ntmps59
  go_wp2
  repeat (go_quiet (fail); try go_wp2)
  go_loopg [5] k (fun kq v5 w' => ∃ (x5_1 : Int), v5 = .int .i64 x5_1 ∧ Aside0 (laws_eqInt64S.l0 kq l0 l1 x5_1 = some r) ∧ Aside0 (kq ≤ k) ∧ Drawn0 w w')
  case atStart => exact ⟨(0), (by first | rfl | (simp; done) | (simp [*]; done)), H', ⟨Nat.le_refl _⟩, by repeat (first | exact Drawn0.refl _ | apply Drawn0.step)⟩
  case round =>
   clear H'
   try clear c1
   try clear p2
   try clear c3
   try clear c3b0
   try clear c3b1
   try clear c3b2
   obtain ⟨x5_1, rfl, HA, HK1, ⟨m1, rfl⟩⟩ := hrel
   cases gk with
   | zero => exact absurd HA.out (by simp [laws_eqInt64S.l0])
   | succ k1 =>
    have H := HA.out
    clear HA
    simp only [laws_eqInt64S.l0] at H
    by_cases c4 : x5_1 < (l0.length : Int)
    ·rw [if_pos c4] at H
     have c4b0 : decide (x5_1 < (l0.length : Int)) = true := decide_eq_true c4
     clear c4
     revert H
     refine ifr fun c5 H => ?_
     have c5b0 : decide (0 ≤ x5_1) = true := decide_eq_true c5
     clear c5
     revert H
     refine ifr fun c6 H => ?_
     have c6b0 : decide (x5_1 < (l1.length : Int)) = true := decide_eq_true c6
     clear c6
     by_cases c7 : (rd l0 x5_1) = (rd l1 x5_1)
     ·rw [if_pos c7] at H
      have c7b0 : ((rd l0 x5_1) == (rd l1 x5_1)) = true := beq_iff_eq.mpr c7
      have c7b1 : ((rd l0 x5_1) != (rd l1 x5_1)) = false := bne_eq_false_iff_eq.mpr c7
      clear c7
      have H' := Aside0.mk H
      clear H
      have p542 : 0 ≤ (x5_1 : Int) := ode
      have q542 : x5_1 < (l0.length : Int) := ode
      obtain ⟨ad542, e542, hx542_0⟩ := Kd.at_int HR0.out x5_1 p542 q542
      cases e542
      replace p542 := eq_true p542
      replace q542 := eq_true q542
      have p543 : 0 ≤ (x5_1 : Int) := ode
      have q543 : x5_1 < (l1.length : Int) := ode
      obtain ⟨ad543, e543, hx543_0⟩ := Kd.at_int HR1.out x5_1 p543 q543
      cases e543
      replace p543 := eq_true p543
      replace q543 := eq_true q543
      go_wp2
      repeat (go_quiet (fail); try go_wp2)
      go_roundg k1
      case measure => have := HK1.out; omega
      case rel => exact ⟨(wrap64 (x5_1 + 1)), (by first | rfl | (simp; done) | (simp [*]; done)), H', ⟨by have := HK1.out; omega⟩, by repeat (first | exact Drawn0.refl _ | apply Drawn0.step)⟩
     ·rw [if_neg c7] at H
      have c7b0 : ((rd l0 x5_1) == (rd l1 x5_1)) = false := beq_eq_false_iff_ne.mpr c7
      have c7b1 : ((rd l0 x5_1) != (rd l1 x5_1)) = true := bne_iff_ne.mpr c7
      obtain rfl := Option.some.inj H
      have p542 : 0 ≤ (x5_1 : Int) := ode
      have q542 : x5_1 < (l0.length : Int) := ode
      obtain ⟨ad542, e542, hx542_0⟩ := Kd.at_int HR0.out x5_1 p542 q542
      cases e542
      replace p542 := eq_true p542
      replace q542 := eq_true q542
      have p543 : 0 ≤ (x5_1 : Int) := ode
      have q543 : x5_1 < (l1.length : Int) := ode
      obtain ⟨ad543, e543, hx543_0⟩ := Kd.at_int HR1.out x5_1 p543 q543
      cases e543
      replace p543 := eq_true p543
      replace q543 := eq_true q543
      go_wp2
      repeat (go_quiet (fail); try go_wp2)
      go_ret
      exact ⟨by first | rfl | (simp; done) | (simp [*]; done), by repeat (first | exact Drawn0.refl _ | apply Drawn0.step)⟩
    ·rw [if_neg c4] at H
     have c4b0 : decide (x5_1 < (l0.length : Int)) = false := decide_eq_false c4
     clear c4
     obtain rfl := Option.some.inj H
     go_wp2
     repeat (go_quiet (fail); try go_wp2)
     go_ret
     exact ⟨by first | rfl | (simp; done) | (simp [*]; done), by repeat (first | exact Drawn0.refl _ | apply Drawn0.step)⟩
 ·rw [if_neg c3] at H
  have c3b0 : ((l0.length : Int) == (l1.length : Int)) = false := beq_eq_false_iff_ne.mpr c3
  have c3b1 : ((l0.length : Int) != (l1.length : Int)) = true := bne_iff_ne.mpr c3
  have c3b2 : (l0.length == l1.length) = false := by first | simpa using c3 | (simp at c3 ⊢; omega)
  obtain rfl := Option.some.inj H
  go_enter Tryd.func59, Tryd.ntmps59
  go_wp2
  repeat (go_quiet (fail); try go_wp2)
  go_ret
  exact ⟨by first | rfl | (simp; done) | (simp [*]; done), by repeat (first | exact Drawn0.refl _ | apply Drawn0.step)⟩

/-! ### laws_eqBranch: function 58 -/
def laws_eqBranch.f (k : Nat) (l0_0 : List Int) (l1_0 : List Int) : Option (Bool) := (laws_eqInt64S.f k l0_0 l1_0).bind fun t546 => (if t546 = true then (some true) else (some false))
set_option maxHeartbeats 8000000 in
set_option maxRecDepth 100000 in
theorem laws_eqBranch.calls (k : Nat) (A0_0 : Option Addr) (c0_0 : Nat) (l0_0 : List Int) (A1_0 : Option Addr) (c1_0 : Nat) (l1_0 : List Int) (r : Bool) (w : World) (hr0_0 : Kd.C (Kd.int .i64) w A0_0 l0_0.length l0_0) (hc0_0 : l0_0.length ≤ c0_0) (hr1_0 : Kd.C (Kd.int .i64) w A1_0 l1_0.length l1_0) (hc1_0 : l1_0.length ≤ c1_0) (h : laws_eqBranch.f k l0_0 l1_0 = some r) :
  Calls Tryd.prog 58 #[.agg #[.slice A0_0 l0_0.length c0_0], .agg #[.slice A1_0 l1_0.length c1_0]] w fun e w' => e = .returned (.bool r) ∧ Below w.heap.size w w' := by
 have hu74 := Tryd.underlying74
 have HR0_0 := Aside0.mk hr0_0
 have HC0_0 := Aside0.mk hc0_0
 clear hr0_0 hc0_0
 have HR1_0 := Aside0.mk hr1_0
 have HC1_0 := Aside0.mk hc1_0
 clear hr1_0 hc1_0
 have HB := Aside0.mk (Below.refl w.heap.size w)
 have H : ((laws_eqInt64S.f k l0_0 l1_0).bind fun t546 => (if t546 = true then (some true) else (some false))) = some r := h
 clear h
 replace H := Option.bind_eq_some_iff.mp H
 obtain ⟨t546, A30, H⟩ := H
 replace H : (if t546 = true then (some true) else (some false)) = some r := H
 have A3 := Aside0.mk A30
 clear A30
 by_cases c4 : t546 = true
 ·subst c4
  have H1 : (some true) = some r := by rw [if_pos rfl] at H; exact H
  clear H
  have H := H1
  clear H1
  obtain rfl := Option.some.inj H
  go_enter Tryd.func58, Tryd.ntmps58
  go_wp2_with (first | ((with_reducible refine gate_dst (N := 2) rfl ?_); refine box_event ?hg (N := 2) ?hd (cs := #[.slice A0_0 l0_0.length c0_0]) (t := 74) ?hr ?_; (case hd => rfl); (case hg => rfl); (case hr => first | (go_simp; done) | (go_simp; rfl)); intro gb544 hg w5 hbox hb; have BK544 := Aside0.mk (hbox); have GW544 := Aside0.mk ((by rw [hg]; exact (below_size bq) : w.heap.size ≤ gb544)); have GE544 := Aside0.mk ((by rw [hg]; exact (below_size bq) : w.heap.size ≤ gb544)); replace HB := Aside0.mk (below_step bq hb); clear hb hbox hg) | ((with_reducible refine gate_dst (N := 3) rfl ?_); refine box_event ?hg (N := 3) ?hd (cs := #[.slice A1_0 l1_0.length c1_0]) (t := 74) ?hr ?_; (case hd => rfl); (case hg => rfl); (case hr => first | (go_simp; done) | (go_simp; rfl)); intro gb545 hg w6 hbox hb; have BK545 := Aside0.mk (hbox); have GW545 := Aside0.mk ((by rw [hg]; exact (below_size bq) : w.heap.size ≤ gb545)); have GE545 := Aside0.mk ((by rw [hg]; exact (below_size bq) : w.heap.size ≤ gb545)); replace HB := Aside0.mk (below_step bq hb); have NB544_545 := Aside0.mk ((by rw [hg]; exact Nat.ne_of_lt (blk_lt (g := gb544) (o := .cells #[.slice A0_0 l0_0.length c0_0] 74 (0, 0)) (bk BK544)) : gb544 ≠ gb545)); have NB545_544 := Aside0.mk ((by rw [hg]; exact Nat.ne_of_gt (blk_lt (g := gb544) (o := .cells #[.slice A0_0 l0_0.length c0_0] 74 (0, 0)) (bk BK544)) : gb545 ≠ gb544)); replace BK544 := Aside0.mk (blk_below (g := gb544) (o := .cells #[.slice A0_0 l0_0.length c0_0] 74 (0, 0)) (bk BK544) hb); clear hb hbox hg; have hnb7 := NB544_545.out; have hnc7 := NB545_544.out; have hcz8_0 := bc0 BK544; have hfz8_0 := blk_frozen BK544.out 0; have hcz9_0 := bc0 BK545; have hfz9_0 := blk_frozen BK545.out 0) | ((with_reducible refine gate_callee (f := 59) rfl ?_); refine gL 9 Tryd.func59 #[.slice A0_0 l0_0.length c0_0, .slice A1_0 l1_0.length c1_0] ?_; (with_reducible refine (laws_eqInt64S.calls k _ _ l0_0 _ _ l1_0 true _ ?side1 ?side2 ?side3 ?side4 A3.out).mono ?_); (case side1 => exact kc HR0_0); (case side2 => exact HC0_0.out); (case side3 => exact kc HR1_0); (case side4 => exact HC1_0.out); rintro e w' ⟨rfl, ⟨nd, rfl⟩⟩; refine ⟨_, rfl, ?_⟩))
  go_ret
  exact ⟨eq_, bq⟩
 ·replace c4 := Bool.eq_false_iff.mpr c4
  subst c4
  have H1 : (some false) = some r := by rw [if_neg (show ¬ (false = true) by decide)] at H; exact H
  clear H
  have H := H1
  clear H1
  obtain rfl := Option.some.inj H
  go_enter Tryd.func58, Tryd.ntmps58
  go_wp2_with (first | ((with_reducible refine gate_dst (N := 2) rfl ?_); refine box_event ?hg (N := 2) ?hd (cs := #[.slice A0_0 l0_0.length c0_0]) (t := 74) ?hr ?_; (case hd => rfl); (case hg => rfl); (case hr => first | (go_simp; done) | (go_simp; rfl)); intro gb544 hg w10 hbox hb; have BK544 := Aside0.mk (hbox); have GW544 := Aside0.mk ((by rw [hg]; exact (below_size bq) : w.heap.size ≤ gb544)); have GE544 := Aside0.mk ((by rw [hg]; exact (below_size bq) : w.heap.size ≤ gb544)); replace HB := Aside0.mk (below_step bq hb); clear hb hbox hg) | ((with_reducible refine gate_dst (N := 3) rfl ?_); refine box_event ?hg (N := 3) ?hd (cs := #[.slice A1_0 l1_0.length c1_0]) (t := 74) ?hr ?_; (case hd => rfl); (case hg => rfl); (case hr => first | (go_simp; done) | (go_simp; rfl)); intro gb545 hg w11 hbox hb; have BK545 := Aside0.mk (hbox); have GW545 := Aside0.mk ((by rw [hg]; exact (below_size bq) : w.heap.size ≤ gb545)); have GE545 := Aside0.mk ((by rw [hg]; exact (below_size bq) : w.heap.size ≤ gb545)); replace HB := Aside0.mk (below_step bq hb); have NB544_545 := Aside0.mk ((by rw [hg]; exact Nat.ne_of_lt (blk_lt (g := gb544) (o := .cells #[.slice A0_0 l0_0.length c0_0] 74 (0, 0)) (bk BK544)) : gb544 ≠ gb545)); have NB545_544 := Aside0.mk ((by rw [hg]; exact Nat.ne_of_gt (blk_lt (g := gb544) (o := .cells #[.slice A0_0 l0_0.length c0_0] 74 (0, 0)) (bk BK544)) : gb545 ≠ gb544)); replace BK544 := Aside0.mk (blk_below (g := gb544) (o := .cells #[.slice A0_0 l0_0.length c0_0] 74 (0, 0)) (bk BK544) hb); clear hb hbox hg; have hnb12 := NB544_545.out; have hnc12 := NB545_544.out; have hcz13_0 := bc0 BK544; have hfz13_0 := blk_frozen BK544.out 0; have hcz14_0 := bc0 BK545; have hfz14_0 := blk_frozen BK545.out 0) | ((with_reducible refine gate_callee (f := 59) rfl ?_); refine gL 9 Tryd.func59 #[.slice A0_0 l0_0.length c0_0, .slice A1_0 l1_0.length c1_0] ?_; (with_reducible refine (laws_eqInt64S.calls k _ _ l0_0 _ _ l1_0 false _ ?side1 ?side2 ?side3 ?side4 A3.out).mono ?_); (case side1 => exact kc HR0_0); (case side2 => exact HC0_0.out); (case side3 => exact kc HR1_0); (case side4 => exact HC1_0.out); rintro e w' ⟨rfl, ⟨nd, rfl⟩⟩; refine ⟨_, rfl, ?_⟩))
  go_ret
  exact ⟨eq_, bq⟩
end Go.Proofs.YtkfdfpcdcabcoaaDoor.QName
