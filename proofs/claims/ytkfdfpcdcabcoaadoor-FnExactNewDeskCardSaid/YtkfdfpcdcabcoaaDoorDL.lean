/- Walks: the printed functions, and that each call comes to them (12). -/
import Derived.Test.YtkfdfpcdcabcoaaDoorX
import Derived.Test.YtkfdfpcdcabcoaaDoorDA
import Derived.Test.YtkfdfpcdcabcoaaDoorDG
import Derived.Test.YtkfdfpcdcabcoaaDoorDJ
import Derived.Test.YtkfdfpcdcabcoaaDoorDK
namespace Go.Proofs.YtkfdfpcdcabcoaaDoor.QDesx
open Go.RowKit Go.Proofs.YtkfdfpcdcabcoaaDoorW.PrintWords Go.Proofs.YtkfdfpcdcabcoaaDoorW.PrintLast Go.Proofs.YtkfdfpcdcabcoaaDoorW.PrintMore
attribute [local go_sem] max2_int min2_int max_two min_two max_three min_three max_four min_four
set_option linter.unusedVariables false
set_option linter.unusedSimpArgs false

/-! ### impl_ParseCluster: function 31 -/
def impl_ParseCluster.l0 : Nat → List ByteArray → Int → Int → List Int → List Int → List Int → Option (List Int × List Int × List Int × Int)
 | 0, _, _, _, _, _, _ => none
 | k + 1, x13, x14, x15, x446000, x446001, x446002 => if x15 < x14 then (if 0 ≤ x15 then (if x15 < (x13.length : Int) then ((impl_pointOf.f k (rdOf ByteArray.empty x13 x15)).bind fun bt450 => (if bt450.2.2.2 = true then (if (x446002.length : Int) = 24 then (none) else (if x446002.length < 17592186044416 then (if x446000.length < 17592186044416 then (if x446001.length < 17592186044416 then (impl_ParseCluster.l0 k x13 x14 (wrap64 (x15 + 1)) (x446000 ++ [bt450.2.1]) (x446001 ++ [bt450.2.2.1]) (x446002 ++ [bt450.1])) else (none)) else (none)) else (none))) else (none))) else (none)) else (none)) else ((impl_IsCluster.f k x446000 x446001 x446002).bind fun t463 => (if t463 = true then (some (x446000, x446001, x446002, 0)) else (none)))
def impl_ParseCluster.f (k : Nat) (a0 : ByteArray) : Option (List Int × List Int × List Int × Int) := (impl_wordsOf.f k a0 32).bind fun t446 => (impl_ParseCluster.l0 k t446 (t446.length : Int) 0 ([] : List Int) ([] : List Int) ([] : List Int))
set_option maxHeartbeats 8000000 in
set_option maxRecDepth 100000 in
theorem impl_ParseCluster.calls (k : Nat) (a0 : ByteArray) (r1 : List Int) (r2 : List Int) (r3 : List Int) (r4 : Int) (w : World) (h : impl_ParseCluster.f k a0 = some (r1, r2, r3, r4)) :
  Calls Tryd.prog 31 #[.string a0] w fun e w' => ∃ v0_ v1_ v2_ : Value, e = .returned (.tuple #[.agg #[v0_, v1_, v2_], .int .i64 r4]) ∧ Kd.R (Kd.int .i64) 2 w' w.heap.size (fun k_ => some k_ ≠ (v1_ : Value).ownBlock ∧ some k_ ≠ (v2_ : Value).ownBlock) v0_ r1 ∧ Kd.R (Kd.int .i64) 2 w' w.heap.size (fun k_ => some k_ ≠ (v0_ : Value).ownBlock ∧ some k_ ≠ (v2_ : Value).ownBlock) v1_ r2 ∧ Kd.R (Kd.int .i64) 2 w' w.heap.size (fun k_ => some k_ ≠ (v0_ : Value).ownBlock ∧ some k_ ≠ (v1_ : Value).ownBlock) v2_ r3 ∧ Below w.heap.size w w' := by
 have hu37 := Tryd.underlying37
 have HB := Aside0.mk (Below.refl w.heap.size w)
 have H : ((impl_wordsOf.f k a0 32).bind fun t446 => (impl_ParseCluster.l0 k t446 (t446.length : Int) 0 ([] : List Int) ([] : List Int) ([] : List Int))) = some (r1, r2, r3, r4) := h
 clear h
 replace H := Option.bind_eq_some_iff.mp H
 obtain ⟨t446, A20, H⟩ := H
 replace H : (impl_ParseCluster.l0 k t446 (t446.length : Int) 0 ([] : List Int) ([] : List Int) ([] : List Int)) = some (r1, r2, r3, r4) := H
 have A2 := Aside0.mk A20
 clear A20
 have H' := Aside0.mk H
 clear H
 go_enter Tryd.func31, Tryd.ntmps31
 go_wp2_with (first | ((with_reducible refine gate_dst (N := 2) rfl ?_); (try (refine gate_guard (by rfl) ?_; dsimp only)); refine box_event ?hg (N := 2) ?hd (cs := #[.slice none 0 0, .slice none 0 0, .slice none 0 0]) (t := 37) ?hr ?_; (case hd => rfl); (case hg => rfl); (case hr => first | (go_simp; done) | (go_simp; rfl)); intro gb444 hg w3 hbox hb; have BK444 := Aside0.mk (hbox); have GW444 := Aside0.mk ((by rw [hg]; exact (below_size bq) : w.heap.size ≤ gb444)); have GE444 := Aside0.mk ((by rw [hg]; exact (below_size bq) : w.heap.size ≤ gb444)); replace HB := Aside0.mk (below_step bq hb); clear hb hbox hg) | ((with_reducible refine gate_dst (N := 4) rfl ?_); (try (refine gate_guard (by rfl) ?_; dsimp only)); refine box_event ?hg (N := 4) ?hd (cs := #[.slice none 0 0, .slice none 0 0, .slice none 0 0]) (t := 37) ?hr ?_; (case hd => rfl); (case hg => rfl); (case hr => first | (go_simp; done) | (go_simp; rfl)); intro gb445 hg w4 hbox hb; have BK445 := Aside0.mk (hbox); have GW445 := Aside0.mk ((by rw [hg]; exact (below_size bq) : w.heap.size ≤ gb445)); have GE445 := Aside0.mk ((by rw [hg]; exact (below_size bq) : w.heap.size ≤ gb445)); replace HB := Aside0.mk (below_step bq hb); have NB444_445 := Aside0.mk ((by rw [hg]; exact Nat.ne_of_lt (blk_lt (g := gb444) (o := .cells #[.slice none 0 0, .slice none 0 0, .slice none 0 0] 37 (0, 0)) (bk BK444)) : gb444 ≠ gb445)); have NB445_444 := Aside0.mk ((by rw [hg]; exact Nat.ne_of_gt (blk_lt (g := gb444) (o := .cells #[.slice none 0 0, .slice none 0 0, .slice none 0 0] 37 (0, 0)) (bk BK444)) : gb445 ≠ gb444)); replace BK444 := Aside0.mk (blk_below (g := gb444) (o := .cells #[.slice none 0 0, .slice none 0 0, .slice none 0 0] 37 (0, 0)) (bk BK444) hb); clear hb hbox hg; have hnb5 := NB445_444.out; have hnc5 := NB444_445.out; have hcz6_0 := bc0 BK445; have hcz6_1 := bc1 BK445; have hcz6_2 : w4.cell? ⟨gb445, 2, none⟩ = some (.slice none 0 0) := (blk_cell BK445.out 2).trans rfl; have hfz6_0 := blk_frozen BK445.out 0; have hfz6_1 := blk_frozen BK445.out 1; have hfz6_2 := blk_frozen BK445.out 2) | ((with_reducible refine gate_callee (f := 62) rfl ?_); refine gL 13 Tryd.func62 #[.string a0, .int .u8 32] ?_; (with_reducible refine (impl_wordsOf.calls k a0 32 t446 _ A2.out).mono ?_); rintro e w7 ⟨v447, rfl, ho0, hb⟩; refine ⟨_, rfl, ?_⟩; have HO448 := Aside0.mk (Kd.R_lower ho0 (below_size bq)); replace BK444 := Aside0.mk (blk_below (g := gb444) (o := .cells #[.slice none 0 0, .slice none 0 0, .slice none 0 0] 37 (0, 0)) (by (with_reducible repeat (first | refine blk_drewN ?_ _ | refine blk_drew ?_ | refine blk_alloc ?_ _)); refine blk_far ?_ NB444_445.out _; (with_reducible repeat (first | refine blk_drewN ?_ _ | refine blk_drew ?_ | refine blk_alloc ?_ _)); refine blk_far ?_ NB444_445.out _; (with_reducible repeat (first | refine blk_drewN ?_ _ | refine blk_drew ?_ | refine blk_alloc ?_ _)); refine blk_far ?_ NB444_445.out _; (with_reducible repeat (first | refine blk_drewN ?_ _ | refine blk_drew ?_ | refine blk_alloc ?_ _)); exact BK444.out) hb); replace BK445 := Aside0.mk (blk_below (g := gb445) (o := .cells #[.slice none 0 0, .slice none 0 0, .slice none 0 0] 37 (0, 0)) (by (with_reducible repeat (first | refine blk_drewN ?_ _ | refine blk_drew ?_ | refine blk_alloc ?_ _)); refine blk_put (cs := #[.slice none 0 0, .slice none 0 0, .slice none 0 0]) ?_ 2 _ rfl; (with_reducible repeat (first | refine blk_drewN ?_ _ | refine blk_drew ?_ | refine blk_alloc ?_ _)); refine blk_put (cs := #[.slice none 0 0, .slice none 0 0, .slice none 0 0]) ?_ 1 _ rfl; (with_reducible repeat (first | refine blk_drewN ?_ _ | refine blk_drew ?_ | refine blk_alloc ?_ _)); refine blk_put (cs := #[.slice none 0 0, .slice none 0 0, .slice none 0 0]) ?_ 0 _ rfl; (with_reducible repeat (first | refine blk_drewN ?_ _ | refine blk_drew ?_ | refine blk_alloc ?_ _)); exact BK445.out) hb); replace HB := Aside0.mk (below_step bq hb); (try clear hb); (try clear ho0); obtain ⟨Ao8, co8, eo8⟩ := Kd.R_slice HO448.out; subst eo8))
 go_loopg [15] k (fun kq v15 w' => ∃ (x15_1 : Int) (x446000_1 : List Int) (x446001_1 : List Int) (x446002_1 : List Int) (u446000 : Value) (u446001 : Value) (u446002 : Value), v15 = .int .i64 x15_1 ∧ Aside0 (impl_ParseCluster.l0 kq t446 (t446.length : Int) x15_1 x446000_1 x446001_1 x446002_1 = some (r1, r2, r3, r4)) ∧ Aside0 (kq ≤ k) ∧ Aside0 (Kd.R Kd.string 9 w' w.heap.size (fun _ => True) (.slice Ao8 t446.length co8) t446) ∧ Aside0 (Kd.R (Kd.int .i64) 2 w' w.heap.size (fun k_ => some k_ ≠ (u446001 : Value).ownBlock ∧ some k_ ≠ (u446002 : Value).ownBlock) u446000 x446000_1) ∧ Aside0 (Kd.R (Kd.int .i64) 2 w' w.heap.size (fun k_ => some k_ ≠ (u446000 : Value).ownBlock ∧ some k_ ≠ (u446002 : Value).ownBlock) u446001 x446001_1) ∧ Aside0 (Kd.R (Kd.int .i64) 2 w' w.heap.size (fun k_ => some k_ ≠ (u446000 : Value).ownBlock ∧ some k_ ≠ (u446001 : Value).ownBlock) u446002 x446002_1) ∧ Aside0 (w'.heap[gb444]? = some (.cells #[(.slice none 0 0), (.slice none 0 0), (.slice none 0 0)] 37 (0, 0))) ∧ Aside0 (w'.heap[gb445]? = some (.cells #[u446000, u446001, u446002] 37 (0, 0))) ∧ Aside0 (Below w.heap.size w w'))
 case atStart => exact ⟨(0), (([] : List Int)), (([] : List Int)), (([] : List Int)), (.slice none 0 0), (.slice none 0 0), (.slice none 0 0), (by first | rfl | (simp; done) | (simp [*]; done)), H', ⟨Nat.le_refl _⟩, ⟨by (with_reducible repeat (first | apply Kd.R_alloc | apply Kd.R_drewN | apply Kd.R_drew)); exact HO448.out⟩, ⟨by first | exact Kd.R_nil _ _ _ _ _ | exact Kd.N_nil _ _ _ _ _ | exact Kd.V_nil _ _ _ _ _ | exact Kd.Q_nil _ _ _ _ _ | exact Kd.S_nil _ _ _ _ _⟩, ⟨by first | exact Kd.R_nil _ _ _ _ _ | exact Kd.N_nil _ _ _ _ _ | exact Kd.V_nil _ _ _ _ _ | exact Kd.Q_nil _ _ _ _ _ | exact Kd.S_nil _ _ _ _ _⟩, ⟨by first | exact Kd.R_nil _ _ _ _ _ | exact Kd.N_nil _ _ _ _ _ | exact Kd.V_nil _ _ _ _ _ | exact Kd.Q_nil _ _ _ _ _ | exact Kd.S_nil _ _ _ _ _⟩, ⟨bk BK444⟩, ⟨bk BK445⟩, ⟨bq⟩⟩
 case round =>
  clear H'
  try clear p2
  try clear c3
  try clear c5
  try clear c6
  try clear hcz6_0
  try clear hcz6_1
  try clear hcz6_2
  try clear hfz6_0
  try clear hfz6_1
  try clear hfz6_2
  obtain ⟨x15_1, x446000_1, x446001_1, x446002_1, u446000, u446001, u446002, rfl, HA, HK1, HO_13, HO_446000, HO_446001, HO_446002, BK444, BK445, HB⟩ := hrel
  cases gk with
  | zero => exact absurd HA.out (by simp [impl_ParseCluster.l0])
  | succ k1 =>
   have H := HA.out
   clear HA
   simp only [impl_ParseCluster.l0] at H
   by_cases c9 : x15_1 < (t446.length : Int)
   ·rw [if_pos c9] at H
    have c9b0 : decide (x15_1 < (t446.length : Int)) = true := decide_eq_true c9
    clear c9
    revert H
    refine ifr fun c10 H => ?_
    have c10b0 : decide (0 ≤ x15_1) = true := decide_eq_true c10
    clear c10
    revert H
    refine ifr fun c11 H => ?_
    have c11b0 : decide (x15_1 < (t446.length : Int)) = true := decide_eq_true c11
    clear c11
    replace H := Option.bind_eq_some_iff.mp H
    obtain ⟨⟨t450, t451, t452, t453⟩, A120, H⟩ := H
    replace H : (if t453 = true then (if (x446002_1.length : Int) = 24 then (none) else (if x446002_1.length < 17592186044416 then (if x446000_1.length < 17592186044416 then (if x446001_1.length < 17592186044416 then (impl_ParseCluster.l0 k1 t446 (t446.length : Int) (wrap64 (x15_1 + 1)) (x446000_1 ++ [t451]) (x446001_1 ++ [t452]) (x446002_1 ++ [t450])) else (none)) else (none)) else (none))) else (none)) = some (r1, r2, r3, r4) := H
    have A12 := Aside0.mk A120
    clear A120
    by_cases c13 : t453 = true
    ·subst c13
     have H1 : (if (x446002_1.length : Int) = 24 then (none) else (if x446002_1.length < 17592186044416 then (if x446000_1.length < 17592186044416 then (if x446001_1.length < 17592186044416 then (impl_ParseCluster.l0 k1 t446 (t446.length : Int) (wrap64 (x15_1 + 1)) (x446000_1 ++ [t451]) (x446001_1 ++ [t452]) (x446002_1 ++ [t450])) else (none)) else (none)) else (none))) = some (r1, r2, r3, r4) := by rw [if_pos rfl] at H; exact H
     clear H
     have H := H1
     clear H1
     by_cases c14 : (x446002_1.length : Int) = 24
     ·rw [if_pos c14] at H
      exact absurd H (by simp)
     ·rw [if_neg c14] at H
      have c14b0 : ((x446002_1.length : Int) == 24) = false := beq_eq_false_iff_ne.mpr c14
      have c14b1 : ((x446002_1.length : Int) != 24) = true := bne_iff_ne.mpr c14
      revert H
      refine ifr fun c15 H => ?_
      have LMc15 := Aside0.mk c15
      clear c15
      obtain ⟨y454, hy454⟩ : ∃ y_ : List Int, y_ = (x446002_1 ++ [t450]) := ⟨_, rfl⟩
      replace H : (if x446000_1.length < 17592186044416 then (if x446001_1.length < 17592186044416 then (impl_ParseCluster.l0 k1 t446 (t446.length : Int) (wrap64 (x15_1 + 1)) (x446000_1 ++ [t451]) (x446001_1 ++ [t452]) y454) else (none)) else (none)) = some (r1, r2, r3, r4) := by first | (rw [hy454]; with_reducible exact H) | (have H2_ := (Option.bind_some _ _).symm.trans H; rw [hy454]; with_reducible exact H2_) | (have H2_ := (Option.bind_some _ _).symm.trans H; with_reducible exact H2_) | with_reducible exact H | (rw [hy454]; exact H) | exact H
      have Ny454 := Aside0.mk hy454
      clear hy454
      revert H
      refine ifr fun c16 H => ?_
      have LMc16 := Aside0.mk c16
      clear c16
      obtain ⟨y457, hy457⟩ : ∃ y_ : List Int, y_ = (x446000_1 ++ [t451]) := ⟨_, rfl⟩
      replace H : (if x446001_1.length < 17592186044416 then (impl_ParseCluster.l0 k1 t446 (t446.length : Int) (wrap64 (x15_1 + 1)) y457 (x446001_1 ++ [t452]) y454) else (none)) = some (r1, r2, r3, r4) := by first | (rw [hy457]; with_reducible exact H) | (have H2_ := (Option.bind_some _ _).symm.trans H; rw [hy457]; with_reducible exact H2_) | (have H2_ := (Option.bind_some _ _).symm.trans H; with_reducible exact H2_) | with_reducible exact H | (rw [hy457]; exact H) | exact H
      have Ny457 := Aside0.mk hy457
      clear hy457
      revert H
      refine ifr fun c17 H => ?_
      have LMc17 := Aside0.mk c17
      clear c17
      obtain ⟨y460, hy460⟩ : ∃ y_ : List Int, y_ = (x446001_1 ++ [t452]) := ⟨_, rfl⟩
      replace H : (impl_ParseCluster.l0 k1 t446 (t446.length : Int) (wrap64 (x15_1 + 1)) y457 y460 y454) = some (r1, r2, r3, r4) := by first | (rw [hy460]; with_reducible exact H) | (have H2_ := (Option.bind_some _ _).symm.trans H; rw [hy460]; with_reducible exact H2_) | (have H2_ := (Option.bind_some _ _).symm.trans H; with_reducible exact H2_) | with_reducible exact H | (rw [hy460]; exact H) | exact H
      have Ny460 := Aside0.mk hy460
      clear hy460
      have H' := Aside0.mk H
      clear H
      have p449 : 0 ≤ (x15_1 : Int) := ode
      have q449 : x15_1 < (t446.length : Int) := ode
      obtain ⟨ad449, e449, hx449_0⟩ := Kd.at_string (Kd.R_reads' HO_13.out).2.2 x15_1 p449 q449
      cases e449
      replace p449 := eq_true p449
      replace q449 := eq_true q449
      go_wp2_with (first | ((with_reducible refine gate_callee (f := 66) rfl ?_); refine gL 21 Tryd.func66 #[.string (rdOf ByteArray.empty t446 x15_1)] ?_; (with_reducible refine (impl_pointOf.calls k1 (rdOf ByteArray.empty t446 x15_1) t450 t451 t452 true _ A12.out).mono ?_); rintro e w' ⟨rfl, ⟨nd, rfl⟩⟩; refine ⟨_, rfl, ?_⟩; (try (rw [drewN_self wr]; generalize hq_ : World.drewN wr _ = wr; have n0_ : Aside0 (Kd.R Kd.string 9 wr w.heap.size (fun _ => True) (.slice (some ad449) t446.length co8) t446) := ⟨by rw [← hq_]; exact (by (with_reducible repeat (first | apply Kd.R_alloc | apply Kd.R_drewN | apply Kd.R_drew)); exact HO_13.out)⟩; have n1_ : Aside0 (Kd.R (Kd.int .i64) 2 wr w.heap.size (fun k_ => some k_ ≠ (u446001 : Value).ownBlock ∧ some k_ ≠ (u446002 : Value).ownBlock) u446000 x446000_1) := ⟨by rw [← hq_]; exact (by (with_reducible repeat (first | apply Kd.R_alloc | apply Kd.R_drewN | apply Kd.R_drew)); exact HO_446000.out)⟩; have n2_ : Aside0 (Kd.R (Kd.int .i64) 2 wr w.heap.size (fun k_ => some k_ ≠ (u446000 : Value).ownBlock ∧ some k_ ≠ (u446002 : Value).ownBlock) u446001 x446001_1) := ⟨by rw [← hq_]; exact (by (with_reducible repeat (first | apply Kd.R_alloc | apply Kd.R_drewN | apply Kd.R_drew)); exact HO_446001.out)⟩; have n3_ : Aside0 (Kd.R (Kd.int .i64) 2 wr w.heap.size (fun k_ => some k_ ≠ (u446000 : Value).ownBlock ∧ some k_ ≠ (u446001 : Value).ownBlock) u446002 x446002_1) := ⟨by rw [← hq_]; exact (by (with_reducible repeat (first | apply Kd.R_alloc | apply Kd.R_drewN | apply Kd.R_drew)); exact HO_446002.out)⟩; have n4_ : Aside0 (wr.heap[gb444]? = some (.cells #[.slice none 0 0, .slice none 0 0, .slice none 0 0] 37 (0, 0))) := ⟨by rw [← hq_]; exact (bk BK444)⟩; have n5_ : Aside0 (wr.heap[gb445]? = some (.cells #[u446000, u446001, u446002] 37 (0, 0))) := ⟨by rw [← hq_]; exact (bk BK445)⟩; have n6_ : Aside0 (Below w.heap.size w wr) := ⟨by rw [← hq_]; exact bq⟩; clear HO_13 HO_446000 HO_446001 HO_446002 BK444 BK445 HB hq_; have HO_13 := n0_; have HO_446000 := n1_; have HO_446001 := n2_; have HO_446002 := n3_; have BK444 := n4_; have BK445 := n5_; have HB := n6_; clear n0_ n1_ n2_ n3_ n4_ n5_ n6_)); have hnb18 := NB445_444.out; have hnc18 := NB444_445.out; have hcz19_0 := bc0 BK445; have hcz19_1 := bc1 BK445; have hcz19_2 : wr.cell? ⟨gb445, 2, none⟩ = some (u446002) := (blk_cell BK445.out 2).trans rfl; have hfz19_0 := blk_frozen BK445.out 0; have hfz19_1 := blk_frozen BK445.out 1; have hfz19_2 := blk_frozen BK445.out 2; obtain ⟨Ao20, co20, eo20⟩ := Kd.R_slice HO_446002.out; subst eo20) | ((with_reducible refine gate_builtin (b := .append) (xs := #[.tmp 36, .tmp 38]) rfl ?_); (try (refine gate_guard (by rfl) ?_; dsimp only)); at_builtin; refine Kd.R_append (Kd.int .i64) (w0 := w) w.heap.size rfl (.tmp 36) (.tmp 38) 35 2 (.int .i64 0) 8 rfl Tryd.underlying35 info2 rfl (by decide) (by omega) (.slice Ao20 x446002_1.length co20) x446002_1 t450 [.int .i64 t450] (fun k_ => some k_ ≠ (u446000 : Value).ownBlock ∧ some k_ ≠ (u446001 : Value).ownBlock) (fun _ => False) rfl rfl ?aP (fun _ hk => hk.elim) ?aF ?aO ?aB ?aS ?aL ?_; (case aP => exact rfl); (case aB => exact bq); (case aF => exact (fun k_ hk => ⟨Kd.fresh' (Kd.R_lt (by (with_reducible repeat (first | apply Kd.R_alloc | apply Kd.R_drewN | apply Kd.R_drew)); exact HO_446000.out)) k_ hk, Kd.fresh' (Kd.R_lt (by (with_reducible repeat (first | apply Kd.R_alloc | apply Kd.R_drewN | apply Kd.R_drew)); exact HO_446001.out)) k_ hk⟩)); (case aO => exact (by (with_reducible repeat (first | apply Kd.R_alloc | apply Kd.R_drewN | apply Kd.R_drew)); exact HO_446002.out)); (case aS => exact (below_size bq)); (case aL => have := LMc15.out; omega); intro v455 w21 ho hb hg hat; rw [← Ny454.out] at ho; have n0_ := Aside0.mk (Kd.R_over' (by (with_reducible repeat (first | apply Kd.R_alloc | apply Kd.R_drewN | apply Kd.R_drew)); exact HO_13.out) (Kd.R_typed (by (with_reducible repeat (first | apply Kd.R_alloc | apply Kd.R_drewN | apply Kd.R_drew)); exact HO_446002.out)) (by decide) hg); have n1_ := Aside0.mk (Kd.R_after (ok := (fun k_ => some k_ ≠ (u446001 : Value).ownBlock)) (by (with_reducible repeat (first | apply Kd.R_alloc | apply Kd.R_drewN | apply Kd.R_drew)); exact HO_446000.out) hg hat); have n2_ := Aside0.mk (Kd.R_after (ok := (fun k_ => some k_ ≠ (u446000 : Value).ownBlock)) (by (with_reducible repeat (first | apply Kd.R_alloc | apply Kd.R_drewN | apply Kd.R_drew)); exact HO_446001.out) hg hat); have n3_ := Aside0.mk (blk_grown (g := gb444) (o := .cells #[.slice none 0 0, .slice none 0 0, .slice none 0 0] 37 (0, 0)) (bk BK444) hg (Kd.R_ne HO_446002.out BK444.out (by decide))); have n4_ := Aside0.mk (blk_grown (g := gb445) (o := .cells #[u446000, u446001, .slice Ao20 x446002_1.length co20] 37 (0, 0)) (bk BK445) hg (Kd.R_ne HO_446002.out BK445.out (by decide))); have n5_ := Aside0.mk (hb); have n6_ := Aside0.mk (ho); clear HO_13; clear HO_446000; clear HO_446001; clear BK444; clear BK445; clear HB; clear HO_446002; have HO_13 := n0_; have HO_446000 := n1_; have HO_446001 := n2_; have BK444 := n3_; have BK445 := n4_; have HB := n5_; have HO456 := n6_; clear n0_ n1_ n2_ n3_ n4_ n5_ n6_; clear ho hb hg hat; obtain ⟨Ao22, co22, eo22⟩ := Kd.R_slice HO456.out; subst eo22; have hcz23_0 := bc0 BK445; have hcz23_1 := bc1 BK445; have hcz23_2 : w21.cell? ⟨gb445, 2, none⟩ = some (.slice Ao20 x446002_1.length co20) := (blk_cell BK445.out 2).trans rfl; have hfz23_0 := blk_frozen BK445.out 0; have hfz23_1 := blk_frozen BK445.out 1; have hfz23_2 := blk_frozen BK445.out 2) | ((with_reducible refine gate_builtin (b := .append) (xs := #[.tmp 42, .tmp 44]) rfl ?_); (try (refine gate_guard (by rfl) ?_; dsimp only)); at_builtin; refine Kd.R_append (Kd.int .i64) (w0 := w) w.heap.size rfl (.tmp 42) (.tmp 44) 35 2 (.int .i64 0) 8 rfl Tryd.underlying35 info2 rfl (by decide) (by omega) u446000 x446000_1 t451 [.int .i64 t451] (fun k_ => some k_ ≠ (u446001 : Value).ownBlock ∧ some k_ ≠ (.slice Ao22 y454.length co22 : Value).ownBlock) (fun _ => False) rfl (by first | (go_simp; done) | (go_simp; rfl)) ?aP (fun _ hk => hk.elim) ?aF ?aO ?aB ?aS ?aL ?_; (case aP => exact rfl); (case aB => exact bq); (case aF => exact (fun k_ hk => ⟨Kd.fresh' (Kd.R_lt (by (with_reducible repeat (first | apply Kd.R_alloc | apply Kd.R_drewN | apply Kd.R_drew)); exact (Kd.R_mono (Kd.R_far (p := ⟨gb445, 2, none⟩) (Kd.R_types HO_446001.out BK445.out (by decide)) (fun _ hk => hk.2) (.slice Ao22 y454.length co22)) (fun _ h_ => h_.1)))) k_ hk, Kd.fresh' (Kd.R_lt (by (with_reducible repeat (first | apply Kd.R_alloc | apply Kd.R_drewN | apply Kd.R_drew)); exact (Kd.R_mono (Kd.R_far (p := ⟨gb445, 2, none⟩) (Kd.R_types HO456.out BK445.out (by decide)) (fun _ hk => hk.2) (.slice Ao22 y454.length co22)) (fun _ h_ => h_.1)))) k_ hk⟩)); (case aO => exact (by (with_reducible repeat (first | apply Kd.R_alloc | apply Kd.R_drewN | apply Kd.R_drew)); exact Kd.R_mono (Kd.R_far (p := ⟨gb445, 2, none⟩) (Kd.R_types HO_446000.out BK445.out (by decide)) (fun _ hk => hk.2) (.slice Ao22 y454.length co22)) (fun _ hk => ⟨hk.1.1, hk.1.2⟩))); (case aS => exact (below_size bq)); (case aL => have := LMc16.out; omega); intro v458 w24 ho hb hg hat; rw [← Ny457.out] at ho; have n0_ := Aside0.mk (Kd.R_over' (by (with_reducible repeat (first | apply Kd.R_alloc | apply Kd.R_drewN | apply Kd.R_drew)); exact (Kd.R_mono (Kd.R_far (p := ⟨gb445, 2, none⟩) (Kd.R_types HO_13.out BK445.out (by decide)) (fun _ hk => hk.2) (.slice Ao22 y454.length co22)) (fun _ h_ => h_.1))) (Kd.R_typed (by (with_reducible repeat (first | apply Kd.R_alloc | apply Kd.R_drewN | apply Kd.R_drew)); exact (Kd.R_mono (Kd.R_far (p := ⟨gb445, 2, none⟩) (Kd.R_types HO_446000.out BK445.out (by decide)) (fun _ hk => hk.2) (.slice Ao22 y454.length co22)) (fun _ h_ => h_.1)))) (by decide) hg); have n1_ := Aside0.mk (Kd.R_after (ok := (fun k_ => some k_ ≠ (.slice Ao22 y454.length co22 : Value).ownBlock)) (by (with_reducible repeat (first | apply Kd.R_alloc | apply Kd.R_drewN | apply Kd.R_drew)); exact Kd.R_mono (Kd.R_far (p := ⟨gb445, 2, none⟩) (Kd.R_types HO_446001.out BK445.out (by decide)) (fun _ hk => hk.2) (.slice Ao22 y454.length co22)) (fun _ hk => ⟨hk.1.2, hk.1.1⟩)) hg hat); have n2_ := Aside0.mk (blk_grown (g := gb444) (o := .cells #[.slice none 0 0, .slice none 0 0, .slice none 0 0] 37 (0, 0)) (by (with_reducible repeat (first | refine blk_drewN ?_ _ | refine blk_drew ?_ | refine blk_alloc ?_ _)); refine blk_far ?_ NB444_445.out _; (with_reducible repeat (first | refine blk_drewN ?_ _ | refine blk_drew ?_ | refine blk_alloc ?_ _)); exact BK444.out) hg (Kd.R_ne HO_446000.out BK444.out (by decide))); have n3_ := Aside0.mk (blk_grown (g := gb445) (o := .cells #[u446000, u446001, .slice Ao22 y454.length co22] 37 (0, 0)) (by (with_reducible repeat (first | refine blk_drewN ?_ _ | refine blk_drew ?_ | refine blk_alloc ?_ _)); refine blk_put (cs := #[u446000, u446001, .slice Ao20 x446002_1.length co20]) ?_ 2 _ rfl; (with_reducible repeat (first | refine blk_drewN ?_ _ | refine blk_drew ?_ | refine blk_alloc ?_ _)); exact BK445.out) hg (Kd.R_ne HO_446000.out BK445.out (by decide))); have n4_ := Aside0.mk (Kd.R_after (ok := (fun k_ => some k_ ≠ (u446001 : Value).ownBlock)) (by (with_reducible repeat (first | apply Kd.R_alloc | apply Kd.R_drewN | apply Kd.R_drew)); exact Kd.R_mono (Kd.R_far (p := ⟨gb445, 2, none⟩) (Kd.R_types HO456.out BK445.out (by decide)) (fun _ hk => hk.2) (.slice Ao22 y454.length co22)) (fun _ hk => ⟨hk.1.2, hk.1.1⟩)) hg hat); have n5_ := Aside0.mk (hb); have n6_ := Aside0.mk (ho); clear HO_13; clear HO_446001; clear BK444; clear BK445; clear HO456; clear HB; clear HO_446000; have HO_13 := n0_; have HO_446001 := n1_; have BK444 := n2_; have BK445 := n3_; have HO456 := n4_; have HB := n5_; have HO459 := n6_; clear n0_ n1_ n2_ n3_ n4_ n5_ n6_; clear ho hb hg hat; obtain ⟨Ao25, co25, eo25⟩ := Kd.R_slice HO459.out; subst eo25; have hcz26_0 := bc0 BK445; have hcz26_1 := bc1 BK445; have hcz26_2 : w24.cell? ⟨gb445, 2, none⟩ = some (.slice Ao22 y454.length co22) := (blk_cell BK445.out 2).trans rfl; have hfz26_0 := blk_frozen BK445.out 0; have hfz26_1 := blk_frozen BK445.out 1; have hfz26_2 := blk_frozen BK445.out 2) | ((with_reducible refine gate_builtin (b := .append) (xs := #[.tmp 48, .tmp 50]) rfl ?_); (try (refine gate_guard (by rfl) ?_; dsimp only)); at_builtin; refine Kd.R_append (Kd.int .i64) (w0 := w) w.heap.size rfl (.tmp 48) (.tmp 50) 35 2 (.int .i64 0) 8 rfl Tryd.underlying35 info2 rfl (by decide) (by omega) u446001 x446001_1 t452 [.int .i64 t452] (fun k_ => some k_ ≠ (.slice Ao22 y454.length co22 : Value).ownBlock ∧ some k_ ≠ (.slice Ao25 y457.length co25 : Value).ownBlock) (fun _ => False) rfl (by first | (go_simp; done) | (go_simp; rfl)) ?aP (fun _ hk => hk.elim) ?aF ?aO ?aB ?aS ?aL ?_; (case aP => exact rfl); (case aB => exact bq); (case aF => exact (fun k_ hk => ⟨Kd.fresh' (Kd.R_lt (by (with_reducible repeat (first | apply Kd.R_alloc | apply Kd.R_drewN | apply Kd.R_drew)); exact (Kd.R_mono (Kd.R_far (p := ⟨gb445, 0, none⟩) (Kd.R_types HO456.out BK445.out (by decide)) (fun _ hk => hk.2) (.slice Ao25 y457.length co25)) (fun _ h_ => h_.1)))) k_ hk, Kd.fresh' (Kd.R_lt (by (with_reducible repeat (first | apply Kd.R_alloc | apply Kd.R_drewN | apply Kd.R_drew)); exact (Kd.R_mono (Kd.R_far (p := ⟨gb445, 0, none⟩) (Kd.R_types HO459.out BK445.out (by decide)) (fun _ hk => hk.2) (.slice Ao25 y457.length co25)) (fun _ h_ => h_.1)))) k_ hk⟩)); (case aO => exact (by (with_reducible repeat (first | apply Kd.R_alloc | apply Kd.R_drewN | apply Kd.R_drew)); exact Kd.R_mono (Kd.R_far (p := ⟨gb445, 0, none⟩) (Kd.R_types HO_446001.out BK445.out (by decide)) (fun _ hk => hk.2) (.slice Ao25 y457.length co25)) (fun _ hk => ⟨hk.1.1, hk.1.2⟩))); (case aS => exact (below_size bq)); (case aL => have := LMc17.out; omega); intro v461 w27 ho hb hg hat; rw [← Ny460.out] at ho; have n0_ := Aside0.mk (Kd.R_over' (by (with_reducible repeat (first | apply Kd.R_alloc | apply Kd.R_drewN | apply Kd.R_drew)); exact (Kd.R_mono (Kd.R_far (p := ⟨gb445, 0, none⟩) (Kd.R_types HO_13.out BK445.out (by decide)) (fun _ hk => hk.2) (.slice Ao25 y457.length co25)) (fun _ h_ => h_.1))) (Kd.R_typed (by (with_reducible repeat (first | apply Kd.R_alloc | apply Kd.R_drewN | apply Kd.R_drew)); exact (Kd.R_mono (Kd.R_far (p := ⟨gb445, 0, none⟩) (Kd.R_types HO_446001.out BK445.out (by decide)) (fun _ hk => hk.2) (.slice Ao25 y457.length co25)) (fun _ h_ => h_.1)))) (by decide) hg); have n1_ := Aside0.mk (blk_grown (g := gb444) (o := .cells #[.slice none 0 0, .slice none 0 0, .slice none 0 0] 37 (0, 0)) (by (with_reducible repeat (first | refine blk_drewN ?_ _ | refine blk_drew ?_ | refine blk_alloc ?_ _)); refine blk_far ?_ NB444_445.out _; (with_reducible repeat (first | refine blk_drewN ?_ _ | refine blk_drew ?_ | refine blk_alloc ?_ _)); exact BK444.out) hg (Kd.R_ne HO_446001.out BK444.out (by decide))); have n2_ := Aside0.mk (blk_grown (g := gb445) (o := .cells #[.slice Ao25 y457.length co25, u446001, .slice Ao22 y454.length co22] 37 (0, 0)) (by (with_reducible repeat (first | refine blk_drewN ?_ _ | refine blk_drew ?_ | refine blk_alloc ?_ _)); refine blk_put (cs := #[u446000, u446001, .slice Ao22 y454.length co22]) ?_ 0 _ rfl; (with_reducible repeat (first | refine blk_drewN ?_ _ | refine blk_drew ?_ | refine blk_alloc ?_ _)); exact BK445.out) hg (Kd.R_ne HO_446001.out BK445.out (by decide))); have n3_ := Aside0.mk (Kd.R_after (ok := (fun k_ => some k_ ≠ (.slice Ao25 y457.length co25 : Value).ownBlock)) (by (with_reducible repeat (first | apply Kd.R_alloc | apply Kd.R_drewN | apply Kd.R_drew)); exact Kd.R_mono (Kd.R_far (p := ⟨gb445, 0, none⟩) (Kd.R_types HO456.out BK445.out (by decide)) (fun _ hk => hk.2) (.slice Ao25 y457.length co25)) (fun _ hk => ⟨hk.1.2, hk.1.1⟩)) hg hat); have n4_ := Aside0.mk (Kd.R_after (ok := (fun k_ => some k_ ≠ (.slice Ao22 y454.length co22 : Value).ownBlock)) (by (with_reducible repeat (first | apply Kd.R_alloc | apply Kd.R_drewN | apply Kd.R_drew)); exact Kd.R_mono (Kd.R_far (p := ⟨gb445, 0, none⟩) (Kd.R_types HO459.out BK445.out (by decide)) (fun _ hk => hk.2) (.slice Ao25 y457.length co25)) (fun _ hk => ⟨hk.1.2, hk.1.1⟩)) hg hat); have n5_ := Aside0.mk (hb); have n6_ := Aside0.mk (ho); clear HO_13; clear BK444; clear BK445; clear HO456; clear HO459; clear HB; clear HO_446001; have HO_13 := n0_; have BK444 := n1_; have BK445 := n2_; have HO456 := n3_; have HO459 := n4_; have HB := n5_; have HO462 := n6_; clear n0_ n1_ n2_ n3_ n4_ n5_ n6_; clear ho hb hg hat; obtain ⟨Ao28, co28, eo28⟩ := Kd.R_slice HO462.out; subst eo28; have hcz29_0 := bc0 BK445; have hcz29_1 := bc1 BK445; have hcz29_2 : w27.cell? ⟨gb445, 2, none⟩ = some (.slice Ao22 y454.length co22) := (blk_cell BK445.out 2).trans rfl; have hfz29_0 := blk_frozen BK445.out 0; have hfz29_1 := blk_frozen BK445.out 1; have hfz29_2 := blk_frozen BK445.out 2))
      go_roundg k1
      case measure => have := HK1.out; omega
      case rel => exact ⟨(wrap64 (x15_1 + 1)), (y457), (y460), (y454), (.slice Ao25 y457.length co25), (.slice Ao28 y460.length co28), (.slice Ao22 y454.length co22), (by first | rfl | (simp; done) | (simp [*]; done)), H', ⟨by have := HK1.out; omega⟩, ⟨by (with_reducible repeat (first | apply Kd.R_alloc | apply Kd.R_drewN | apply Kd.R_drew)); exact Kd.R_mono (Kd.R_far (p := ⟨gb445, 1, none⟩) (Kd.R_types HO_13.out BK445.out (by decide)) (fun _ hk => hk.2) (.slice Ao28 y460.length co28)) (fun _ hk => trivial)⟩, ⟨by (with_reducible repeat (first | apply Kd.R_alloc | apply Kd.R_drewN | apply Kd.R_drew)); exact Kd.R_mono (Kd.R_far (p := ⟨gb445, 1, none⟩) (Kd.R_types HO459.out BK445.out (by decide)) (fun _ hk => hk.2) (.slice Ao28 y460.length co28)) (fun _ hk => ⟨hk.1.2, hk.1.1⟩)⟩, ⟨by (with_reducible repeat (first | apply Kd.R_alloc | apply Kd.R_drewN | apply Kd.R_drew)); exact Kd.R_mono (Kd.R_far (p := ⟨gb445, 1, none⟩) (Kd.R_types HO462.out BK445.out (by decide)) (fun _ hk => hk.2) (.slice Ao28 y460.length co28)) (fun _ hk => ⟨hk.1.2, hk.1.1⟩)⟩, ⟨by (with_reducible repeat (first | apply Kd.R_alloc | apply Kd.R_drewN | apply Kd.R_drew)); exact Kd.R_mono (Kd.R_far (p := ⟨gb445, 1, none⟩) (Kd.R_types HO456.out BK445.out (by decide)) (fun _ hk => hk.2) (.slice Ao28 y460.length co28)) (fun _ hk => ⟨hk.1.1, hk.1.2⟩)⟩, ⟨by (with_reducible repeat (first | refine blk_drewN ?_ _ | refine blk_drew ?_ | refine blk_alloc ?_ _)); refine blk_far ?_ NB444_445.out _; (with_reducible repeat (first | refine blk_drewN ?_ _ | refine blk_drew ?_ | refine blk_alloc ?_ _)); exact BK444.out⟩, ⟨by (with_reducible repeat (first | refine blk_drewN ?_ _ | refine blk_drew ?_ | refine blk_alloc ?_ _)); refine blk_put (cs := #[.slice Ao25 y457.length co25, u446001, .slice Ao22 y454.length co22]) ?_ 1 _ rfl; (with_reducible repeat (first | refine blk_drewN ?_ _ | refine blk_drew ?_ | refine blk_alloc ?_ _)); exact BK445.out⟩, ⟨bq⟩⟩
    ·replace c13 := Bool.eq_false_iff.mpr c13
     subst c13
     have H1 : (none) = some (r1, r2, r3, r4) := by rw [if_neg (show ¬ (false = true) by decide)] at H; exact H
     clear H
     have H := H1
     clear H1
     exact absurd H (by simp)
   ·rw [if_neg c9] at H
    have c9b0 : decide (x15_1 < (t446.length : Int)) = false := decide_eq_false c9
    clear c9
    replace H := Option.bind_eq_some_iff.mp H
    obtain ⟨t463, A300, H⟩ := H
    replace H : (if t463 = true then (some (x446000_1, x446001_1, x446002_1, 0)) else (none)) = some (r1, r2, r3, r4) := H
    have A30 := Aside0.mk A300
    clear A300
    by_cases c31 : t463 = true
    ·subst c31
     have H1 : (some (x446000_1, x446001_1, x446002_1, 0)) = some (r1, r2, r3, r4) := by rw [if_pos rfl] at H; exact H
     clear H
     have H := H1
     clear H1
     simp only [Option.some.injEq, Prod.mk.injEq] at H
     obtain ⟨rfl, rfl, rfl, rfl⟩ := H
     have hnb32 := NB445_444.out
     have hnc32 := NB444_445.out
     have hcz33_0 := bc0 BK445
     have hcz33_1 := bc1 BK445
     have hcz33_2 : wr.cell? ⟨gb445, 2, none⟩ = some (u446002) := (blk_cell BK445.out 2).trans rfl
     have hfz33_0 := blk_frozen BK445.out 0
     have hfz33_1 := blk_frozen BK445.out 1
     have hfz33_2 := blk_frozen BK445.out 2
     obtain ⟨Ao34, co34, eo34⟩ := Kd.R_slice HO_446000.out
     subst eo34
     obtain ⟨Ao35, co35, eo35⟩ := Kd.R_slice HO_446001.out
     subst eo35
     obtain ⟨Ao36, co36, eo36⟩ := Kd.R_slice HO_446002.out
     subst eo36
     go_wp2_with (first | ((with_reducible refine gate_callee (f := 67) rfl ?_); refine gL 55 Tryd.func67 #[.agg #[.slice Ao34 x446000_1.length co34, .slice Ao35 x446001_1.length co35, .slice Ao36 x446002_1.length co36]] ?_; (with_reducible refine (impl_IsCluster.calls k1 _ _ x446000_1 _ _ x446001_1 _ _ x446002_1 true _ ?side1 ?side2 ?side3 ?side4 ?side5 ?side6 A30.out).mono ?_); (case side1 => repeat (first | exact (Kd.R_reads' HO_446000.out).2.2 | (with_reducible refine Kd.C_alloc ?_ _) | (with_reducible refine Kd.C_drewN ?_ _) | (with_reducible refine Kd.C_drew ?_))); (case side2 => exact (Kd.R_reads' HO_446000.out).2.1); (case side3 => repeat (first | exact (Kd.R_reads' HO_446001.out).2.2 | (with_reducible refine Kd.C_alloc ?_ _) | (with_reducible refine Kd.C_drewN ?_ _) | (with_reducible refine Kd.C_drew ?_))); (case side4 => exact (Kd.R_reads' HO_446001.out).2.1); (case side5 => repeat (first | exact (Kd.R_reads' HO_446002.out).2.2 | (with_reducible refine Kd.C_alloc ?_ _) | (with_reducible refine Kd.C_drewN ?_ _) | (with_reducible refine Kd.C_drew ?_))); (case side6 => exact (Kd.R_reads' HO_446002.out).2.1); rintro e w37 ⟨rfl, hb⟩; refine ⟨_, rfl, ?_⟩; replace HO_13 := Aside0.mk (Kd.R_below (by (with_reducible repeat (first | apply Kd.R_alloc | apply Kd.R_drewN | apply Kd.R_drew)); exact HO_13.out) hb); replace HO_446000 := Aside0.mk (Kd.R_below (by (with_reducible repeat (first | apply Kd.R_alloc | apply Kd.R_drewN | apply Kd.R_drew)); exact HO_446000.out) hb); replace HO_446001 := Aside0.mk (Kd.R_below (by (with_reducible repeat (first | apply Kd.R_alloc | apply Kd.R_drewN | apply Kd.R_drew)); exact HO_446001.out) hb); replace HO_446002 := Aside0.mk (Kd.R_below (by (with_reducible repeat (first | apply Kd.R_alloc | apply Kd.R_drewN | apply Kd.R_drew)); exact HO_446002.out) hb); replace BK444 := Aside0.mk (blk_below (g := gb444) (o := .cells #[.slice none 0 0, .slice none 0 0, .slice none 0 0] 37 (0, 0)) (bk BK444) hb); replace BK445 := Aside0.mk (blk_below (g := gb445) (o := .cells #[.slice Ao34 x446000_1.length co34, .slice Ao35 x446001_1.length co35, .slice Ao36 x446002_1.length co36] 37 (0, 0)) (bk BK445) hb); replace HB := Aside0.mk (below_step bq hb); (try clear hb); have hcz38_0 := bc0 BK445; have hcz38_1 := bc1 BK445; have hcz38_2 : w37.cell? ⟨gb445, 2, none⟩ = some (.slice Ao36 x446002_1.length co36) := (blk_cell BK445.out 2).trans rfl; have hfz38_0 := blk_frozen BK445.out 0; have hfz38_1 := blk_frozen BK445.out 1; have hfz38_2 := blk_frozen BK445.out 2; have hcz39_0 := bc0 BK444; have hcz39_1 := bc1 BK444; have hcz39_2 : w37.cell? ⟨gb444, 2, none⟩ = some (.slice none 0 0) := (blk_cell BK444.out 2).trans rfl; have hfz39_0 := blk_frozen BK444.out 0; have hfz39_1 := blk_frozen BK444.out 1; have hfz39_2 := blk_frozen BK444.out 2))
     refine bodyPost_ret (results_ct rfl _ _ gb444 37 #[.slice Ao34 x446000_1.length co34, .slice Ao35 x446001_1.length co35, .slice Ao36 x446002_1.length co36] (0, 0) _ rfl (by (with_reducible repeat (first | refine blk_drewN ?_ _ | refine blk_drew ?_ | refine blk_alloc ?_ _)); refine blk_put (cs := #[.slice Ao34 x446000_1.length co34, .slice Ao35 x446001_1.length co35, .slice none 0 0]) ?_ 2 _ rfl; (with_reducible repeat (first | refine blk_drewN ?_ _ | refine blk_drew ?_ | refine blk_alloc ?_ _)); refine blk_put (cs := #[.slice Ao34 x446000_1.length co34, .slice none 0 0, .slice none 0 0]) ?_ 1 _ rfl; (with_reducible repeat (first | refine blk_drewN ?_ _ | refine blk_drew ?_ | refine blk_alloc ?_ _)); refine blk_put (cs := #[.slice none 0 0, .slice none 0 0, .slice none 0 0]) ?_ 0 _ rfl; (with_reducible repeat (first | refine blk_drewN ?_ _ | refine blk_drew ?_ | refine blk_alloc ?_ _)); exact BK444.out) Tryd.underlying37 rfl (by kernel_rfl)) rfl ?_
     exact ⟨_, _, _, eq_, by (with_reducible repeat (first | apply Kd.R_alloc | apply Kd.R_drewN | apply Kd.R_drew)); exact Kd.R_mono (Kd.R_far (p := ⟨gb444, 2, none⟩) (Kd.R_far (p := ⟨gb444, 1, none⟩) (Kd.R_far (p := ⟨gb444, 0, none⟩) (Kd.R_types HO_446000.out BK444.out (by decide)) (fun _ hk => hk.2) (.slice Ao34 x446000_1.length co34)) (fun _ hk => hk.2) (.slice Ao35 x446001_1.length co35)) (fun _ hk => hk.2) (.slice Ao36 x446002_1.length co36)) (fun _ hk => ⟨hk.1.1, hk.1.2⟩), by (with_reducible repeat (first | apply Kd.R_alloc | apply Kd.R_drewN | apply Kd.R_drew)); exact Kd.R_mono (Kd.R_far (p := ⟨gb444, 2, none⟩) (Kd.R_far (p := ⟨gb444, 1, none⟩) (Kd.R_far (p := ⟨gb444, 0, none⟩) (Kd.R_types HO_446001.out BK444.out (by decide)) (fun _ hk => hk.2) (.slice Ao34 x446000_1.length co34)) (fun _ hk => hk.2) (.slice Ao35 x446001_1.length co35)) (fun _ hk => hk.2) (.slice Ao36 x446002_1.length co36)) (fun _ hk => ⟨hk.1.1, hk.1.2⟩), by (with_reducible repeat (first | apply Kd.R_alloc | apply Kd.R_drewN | apply Kd.R_drew)); exact Kd.R_mono (Kd.R_far (p := ⟨gb444, 2, none⟩) (Kd.R_far (p := ⟨gb444, 1, none⟩) (Kd.R_far (p := ⟨gb444, 0, none⟩) (Kd.R_types HO_446002.out BK444.out (by decide)) (fun _ hk => hk.2) (.slice Ao34 x446000_1.length co34)) (fun _ hk => hk.2) (.slice Ao35 x446001_1.length co35)) (fun _ hk => hk.2) (.slice Ao36 x446002_1.length co36)) (fun _ hk => ⟨hk.1.1, hk.1.2⟩), bq⟩
    ·replace c31 := Bool.eq_false_iff.mpr c31
     subst c31
     have H1 : (none) = some (r1, r2, r3, r4) := by rw [if_neg (show ¬ (false = true) by decide)] at H; exact H
     clear H
     have H := H1
     clear H1
     exact absurd H (by simp)

/-! ### impl_exponentOf: function 97 -/
def impl_exponentOf.f (k : Nat) (a0 : ByteArray) (a1 : Int) : Option (Int × ByteArray × Bool) := if a0.toList = ([] : List UInt8) then (some (0, a0, true)) else (if 0 < (a0.size : Int) then (if (bt a0 0) = a1 then (if 1 ≤ (a0.size : Int) then (if (a0.extract 1 a0.size).toList = ([] : List UInt8) then (none) else (if 0 < ((a0.extract 1 a0.size).size : Int) then (if (bt (a0.extract 1 a0.size) 0) = 94 then (if 1 ≤ ((a0.extract 1 a0.size).size : Int) then ((impl_digitsOf.f k ((a0.extract 1 a0.size).extract 1 (a0.extract 1 a0.size).size)).bind fun bt464 => (some (bt464.1, bt464.2.1, bt464.2.2))) else (none)) else (none)) else (none))) else (none)) else (some (0, a0, true))) else (none))
set_option maxHeartbeats 8000000 in
set_option maxRecDepth 100000 in
theorem impl_exponentOf.calls (k : Nat) (a0 : ByteArray) (a1 : Int) (r1 : Int) (r2 : ByteArray) (r3 : Bool) (w : World) (h : impl_exponentOf.f k a0 a1 = some (r1, r2, r3)) :
  Calls Tryd.prog 97 #[.string a0, .int .u8 a1] w fun e w' => e = .returned (.tuple #[.int .i64 r1, .string r2, .bool r3]) ∧ Drawn0 w w' := by
 have H : (if a0.toList = ([] : List UInt8) then (some (0, a0, true)) else (if 0 < (a0.size : Int) then (if (bt a0 0) = a1 then (if 1 ≤ (a0.size : Int) then (if (a0.extract 1 a0.size).toList = ([] : List UInt8) then (none) else (if 0 < ((a0.extract 1 a0.size).size : Int) then (if (bt (a0.extract 1 a0.size) 0) = 94 then (if 1 ≤ ((a0.extract 1 a0.size).size : Int) then ((impl_digitsOf.f k ((a0.extract 1 a0.size).extract 1 (a0.extract 1 a0.size).size)).bind fun bt464 => (some (bt464.1, bt464.2.1, bt464.2.2))) else (none)) else (none)) else (none))) else (none)) else (some (0, a0, true))) else (none))) = some (r1, r2, r3) := h
 clear h
 by_cases c3 : a0.toList = ([] : List UInt8)
 ·rw [if_pos c3] at H
  have c3b0 : (a0.toList == ([] : List UInt8)) = true := beq_iff_eq.mpr c3
  have c3b1 : (a0.toList != ([] : List UInt8)) = false := bne_eq_false_iff_eq.mpr c3
  clear c3
  simp only [Option.some.injEq, Prod.mk.injEq] at H
  obtain ⟨rfl, rfl, rfl⟩ := H
  go_enter Tryd.func97, Tryd.ntmps97
  go_wp2
  go_ret3
  exact ⟨by first | rfl | (simp; done) | (simp [*]; done), by repeat (first | exact Drawn0.refl _ | apply Drawn0.step)⟩
 ·rw [if_neg c3] at H
  have c3b0 : (a0.toList == ([] : List UInt8)) = false := beq_eq_false_iff_ne.mpr c3
  have c3b1 : (a0.toList != ([] : List UInt8)) = true := bne_iff_ne.mpr c3
  by_cases c4 : 0 < (a0.size : Int)
  ·rw [if_pos c4] at H
   have c4b0 : decide (0 < (a0.size : Int)) = true := decide_eq_true c4
   have c4b1 : decide (0 < a0.size) = true := decide_eq_true (by omega)
   clear c4
   by_cases c6 : (bt a0 0) = a1
   ·rw [if_pos c6] at H
    have c6b0 : ((bt a0 0) == a1) = true := beq_iff_eq.mpr c6
    have c6b1 : ((bt a0 0) != a1) = false := bne_eq_false_iff_eq.mpr c6
    clear c6
    revert H
    refine ifr fun c7 H => ?_
    have c7b0 := eq_true c7
    have c7b1 : decide (1 ≤ (a0.size : Int)) = true := decide_eq_true c7
    clear c7
    by_cases c8 : (a0.extract 1 a0.size).toList = ([] : List UInt8)
    ·rw [if_pos c8] at H
     exact absurd H (by simp)
    ·rw [if_neg c8] at H
     have c8b0 : ((a0.extract 1 a0.size).toList == ([] : List UInt8)) = false := beq_eq_false_iff_ne.mpr c8
     have c8b1 : ((a0.extract 1 a0.size).toList != ([] : List UInt8)) = true := bne_iff_ne.mpr c8
     revert H
     refine ifr fun c9 H => ?_
     have c9b0 : decide (0 < ((a0.extract 1 a0.size).size : Int)) = true := decide_eq_true c9
     have c9b1 : decide (0 < (a0.extract 1 a0.size).size) = true := decide_eq_true (by omega)
     clear c9
     revert H
     refine ifr fun c11 H => ?_
     have c11b0 : ((bt (a0.extract 1 a0.size) 0) == 94) = true := beq_iff_eq.mpr c11
     have c11b1 : ((bt (a0.extract 1 a0.size) 0) != 94) = false := bne_eq_false_iff_eq.mpr c11
     clear c11
     revert H
     refine ifr fun c12 H => ?_
     have c12b0 := eq_true c12
     have c12b1 : decide (1 ≤ ((a0.extract 1 a0.size).size : Int)) = true := decide_eq_true c12
     clear c12
     replace H := Option.bind_eq_some_iff.mp H
     obtain ⟨⟨t464, t465, t466⟩, A130, H⟩ := H
     replace H : (some (t464, t465, t466)) = some (r1, r2, r3) := H
     have A13 := Aside0.mk A130
     clear A130
     simp only [Option.some.injEq, Prod.mk.injEq] at H
     obtain ⟨rfl, rfl, rfl⟩ := H
     have p5 : 0 ≤ (0 : Int) := (by omega)
     have q5 : 0 < a0.size := (by have : (0 : Int) < (a0.size : Int) := ode; omega)
     have hx5 : ∀ h : 0 < a0.size, ((a0[0]'h).toNat : Int) = bt a0 0 := bt_at a0 0
     clear p5
     have qi5 : (0 < (a0.size : Int)) = True := eq_true (ode)
     replace q5 := eq_true q5
     have p10 : 0 ≤ (0 : Int) := (by omega)
     have q10 : 0 < (a0.extract 1 a0.size).size := (by have : (0 : Int) < ((a0.extract 1 a0.size).size : Int) := ode; omega)
     have hx10 : ∀ h : 0 < (a0.extract 1 a0.size).size, (((a0.extract 1 a0.size)[0]'h).toNat : Int) = bt (a0.extract 1 a0.size) 0 := bt_at (a0.extract 1 a0.size) 0
     clear p10
     have qi10 : (0 < ((a0.extract 1 a0.size).size : Int)) = True := eq_true (ode)
     replace q10 := eq_true q10
     have hsz_ : (a0.extract 1 a0.size).size = a0.size - 1 := by simp
     have hz_ : (0 < a0.size - 1) = True := eq_true (by have h_ := of_eq_true q10; rw [hsz_] at h_; exact h_)
     rw [hsz_] at A13
     clear hsz_
     go_enter Tryd.func97, Tryd.ntmps97
     go_wp2_with (first | ((with_reducible refine gate_callee (f := 96) rfl ?_); refine gL 28 Tryd.func96 #[.string ((a0.extract 1 a0.size).extract 1 (a0.size - 1))] ?_; (with_reducible refine (impl_digitsOf.calls k ((a0.extract 1 a0.size).extract 1 (a0.size - 1)) t464 t465 t466 _ A13.out).mono ?_); rintro e w' ⟨rfl, ⟨nd, rfl⟩⟩; refine ⟨_, rfl, ?_⟩))
     any_goals (exfalso; have hz2_ := of_eq_true hz_; omega)
     go_ret3
     exact ⟨by first | rfl | (simp; done) | (simp [*]; done), by repeat (first | exact Drawn0.refl _ | apply Drawn0.step)⟩
   ·rw [if_neg c6] at H
    have c6b0 : ((bt a0 0) == a1) = false := beq_eq_false_iff_ne.mpr c6
    have c6b1 : ((bt a0 0) != a1) = true := bne_iff_ne.mpr c6
    simp only [Option.some.injEq, Prod.mk.injEq] at H
    obtain ⟨rfl, rfl, rfl⟩ := H
    have p5 : 0 ≤ (0 : Int) := (by omega)
    have q5 : 0 < a0.size := (by have : (0 : Int) < (a0.size : Int) := ode; omega)
    have hx5 : ∀ h : 0 < a0.size, ((a0[0]'h).toNat : Int) = bt a0 0 := bt_at a0 0
    clear p5
    have qi5 : (0 < (a0.size : Int)) = True := eq_true (ode)
    replace q5 := eq_true q5
    go_enter Tryd.func97, Tryd.ntmps97
    go_wp2
    go_ret3
    exact ⟨by first | rfl | (simp; done) | (simp [*]; done), by repeat (first | exact Drawn0.refl _ | apply Drawn0.step)⟩
  ·rw [if_neg c4] at H
   exact absurd H (by simp)
end Go.Proofs.YtkfdfpcdcabcoaaDoor.QDesx
