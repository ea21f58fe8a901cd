/- Walks: the printed functions, and that each call comes to them (16). -/
import Derived.Test.YtkfdfpcdcabcoaaDoorX
import Derived.Test.YtkfdfpcdcabcoaaDoorDA
import Derived.Test.YtkfdfpcdcabcoaaDoorDO
namespace Go.Proofs.YtkfdfpcdcabcoaaDoor.QDesx
open Go.RowKit Go.Proofs.YtkfdfpcdcabcoaaDoorW.PrintWords Go.Proofs.YtkfdfpcdcabcoaaDoorW.PrintLast Go.Proofs.YtkfdfpcdcabcoaaDoorW.PrintMore
attribute [local go_sem] max2_int min2_int max_two min_two max_three min_three max_four min_four
set_option linter.unusedVariables false
set_option linter.unusedSimpArgs false

/-! ### laws_markCluster: function 36 -/
def laws_markCluster.f (k : Nat) (l0_0 : List Int) (l0_1 : List Int) (l0_2 : List Int) (a1 : Int) : Option (Int × List Int × List Int × List Int) := (laws_markInt64S.f k l0_0 a1).bind fun bt595 => ((laws_markInt64S.f k l0_1 bt595.1).bind fun bt597 => ((laws_markInt64S.f k l0_2 bt597.1).bind fun bt599 => (some (bt599.1, bt595.2, bt597.2, bt599.2))))
set_option maxHeartbeats 8000000 in
set_option maxRecDepth 100000 in
theorem laws_markCluster.calls (k : Nat) (P0_0_ : Nat → Prop) (u9000_ : Value) (l0_0 : List Int) (P0_1_ : Nat → Prop) (u9001_ : Value) (l0_1 : List Int) (P0_2_ : Nat → Prop) (u9002_ : Value) (l0_2 : List Int) (a1 : Int) (r1 : Int) (r2 : List Int) (r3 : List Int) (r4 : List Int) (w0 w : World) (hB : Below w0.heap.size w0 w) (ho0_0 : Kd.R (Kd.int .i64) 2 w w0.heap.size P0_0_ u9000_ l0_0) (hp0_0_0_1 : ∀ k_, P0_0_ k_ → ¬ P0_1_ k_) (hp0_0_0_2 : ∀ k_, P0_0_ k_ → ¬ P0_2_ k_) (ho0_1 : Kd.R (Kd.int .i64) 2 w w0.heap.size P0_1_ u9001_ l0_1) (hp0_1_0_0 : ∀ k_, P0_1_ k_ → ¬ P0_0_ k_) (hp0_1_0_2 : ∀ k_, P0_1_ k_ → ¬ P0_2_ k_) (ho0_2 : Kd.R (Kd.int .i64) 2 w w0.heap.size P0_2_ u9002_ l0_2) (hp0_2_0_0 : ∀ k_, P0_2_ k_ → ¬ P0_0_ k_) (hp0_2_0_1 : ∀ k_, P0_2_ k_ → ¬ P0_1_ k_) (h : laws_markCluster.f k l0_0 l0_1 l0_2 a1 = some (r1, r2, r3, r4)) :
  Calls Tryd.prog 36 #[.agg #[u9000_, u9001_, u9002_], .int .i64 a1] w fun e w' => e = .returned (.int .i64 r1) ∧ Kd.R (Kd.int .i64) 2 w' w0.heap.size (fun k_ => ((P0_0_ k_ ∨ P0_1_ k_ ∨ P0_2_ k_) ∨ w.heap.size ≤ k_)) u9000_ r2 ∧ Kd.R (Kd.int .i64) 2 w' w0.heap.size (fun k_ => ((P0_0_ k_ ∨ P0_1_ k_ ∨ P0_2_ k_) ∨ w.heap.size ≤ k_)) u9001_ r3 ∧ Kd.R (Kd.int .i64) 2 w' w0.heap.size (fun k_ => ((P0_0_ k_ ∨ P0_1_ k_ ∨ P0_2_ k_) ∨ w.heap.size ≤ k_)) u9002_ r4 ∧ Below w0.heap.size w0 w' ∧ Kept w w' (fun k_ => P0_0_ k_ ∨ P0_1_ k_ ∨ P0_2_ k_) := by
 have hu37 := Tryd.underlying37
 have HO0_0 := Aside0.mk (show Kd.R (Kd.int .i64) 2 w w0.heap.size (fun k_ => ((P0_0_ k_ ∨ P0_1_ k_ ∨ P0_2_ k_) ∨ w.heap.size ≤ k_) ∧ some k_ ≠ (u9001_ : Value).ownBlock ∧ some k_ ≠ (u9002_ : Value).ownBlock) u9000_ l0_0 from Kd.R_mono ho0_0 (fun k_ hk => ⟨(.inl (.inl hk)), fun e_ => hp0_0_0_1 k_ hk (ho0_1.1 k_ e_.symm), fun e_ => hp0_0_0_2 k_ hk (ho0_2.1 k_ e_.symm)⟩))
 have HO0_1 := Aside0.mk (show Kd.R (Kd.int .i64) 2 w w0.heap.size (fun k_ => ((P0_0_ k_ ∨ P0_1_ k_ ∨ P0_2_ k_) ∨ w.heap.size ≤ k_) ∧ some k_ ≠ (u9000_ : Value).ownBlock ∧ some k_ ≠ (u9002_ : Value).ownBlock) u9001_ l0_1 from Kd.R_mono ho0_1 (fun k_ hk => ⟨(.inl (.inr (.inl hk))), fun e_ => hp0_1_0_0 k_ hk (ho0_0.1 k_ e_.symm), fun e_ => hp0_1_0_2 k_ hk (ho0_2.1 k_ e_.symm)⟩))
 have HO0_2 := Aside0.mk (show Kd.R (Kd.int .i64) 2 w w0.heap.size (fun k_ => ((P0_0_ k_ ∨ P0_1_ k_ ∨ P0_2_ k_) ∨ w.heap.size ≤ k_) ∧ some k_ ≠ (u9000_ : Value).ownBlock ∧ some k_ ≠ (u9001_ : Value).ownBlock) u9002_ l0_2 from Kd.R_mono ho0_2 (fun k_ hk => ⟨(.inl (.inr (.inr hk))), fun e_ => hp0_2_0_0 k_ hk (ho0_0.1 k_ e_.symm), fun e_ => hp0_2_0_1 k_ hk (ho0_1.1 k_ e_.symm)⟩))
 have HK := Aside0.mk (Kept.refl w (fun k_ => P0_0_ k_ ∨ P0_1_ k_ ∨ P0_2_ k_))
 have HW0 := Aside0.mk hB.size
 have HB := Aside0.mk hB
 clear hB
 have H : ((laws_markInt64S.f k l0_0 a1).bind fun bt595 => ((laws_markInt64S.f k l0_1 bt595.1).bind fun bt597 => ((laws_markInt64S.f k l0_2 bt597.1).bind fun bt599 => (some (bt599.1, bt595.2, bt597.2, bt599.2))))) = some (r1, r2, r3, r4) := h
 clear h
 replace H := Option.bind_eq_some_iff.mp H
 obtain ⟨⟨t595, t596⟩, A30, H⟩ := H
 replace H : ((laws_markInt64S.f k l0_1 t595).bind fun bt597 => ((laws_markInt64S.f k l0_2 bt597.1).bind fun bt599 => (some (bt599.1, t596, bt597.2, bt599.2)))) = some (r1, r2, r3, r4) := H
 have A3 := Aside0.mk A30
 clear A30
 replace H := Option.bind_eq_some_iff.mp H
 obtain ⟨⟨t597, t598⟩, A40, H⟩ := H
 replace H : ((laws_markInt64S.f k l0_2 t597).bind fun bt599 => (some (bt599.1, t596, t598, bt599.2))) = some (r1, r2, r3, r4) := H
 have A4 := Aside0.mk A40
 clear A40
 replace H := Option.bind_eq_some_iff.mp H
 obtain ⟨⟨t599, t600⟩, A50, H⟩ := H
 replace H : (some (t599, t596, t598, t600)) = some (r1, r2, r3, r4) := H
 have A5 := Aside0.mk A50
 clear A50
 simp only [Option.some.injEq, Prod.mk.injEq] at H
 obtain ⟨rfl, rfl, rfl, rfl⟩ := H
 obtain ⟨Ao6, co6, eo6⟩ := Kd.R_slice HO0_0.out
 subst eo6
 obtain ⟨Ao7, co7, eo7⟩ := Kd.R_slice HO0_1.out
 subst eo7
 obtain ⟨Ao8, co8, eo8⟩ := Kd.R_slice HO0_2.out
 subst eo8
 go_enter Tryd.func36, Tryd.ntmps36
 go_wp2_with (first | ((with_reducible refine gate_dst (N := 2) rfl ?_); refine box_event ?hg (N := 2) ?hd (cs := #[.slice Ao6 l0_0.length co6, .slice Ao7 l0_1.length co7, .slice Ao8 l0_2.length co8]) (t := 37) ?hr ?_; (case hd => rfl); (case hg => rfl); (case hr => first | (go_simp; done) | (go_simp; rfl)); intro gb594 hg w9 hbox hb; replace HO0_0 := Aside0.mk (Kd.R_below (by (with_reducible repeat (first | apply Kd.R_alloc | apply Kd.R_drewN | apply Kd.R_drew)); exact HO0_0.out) hb); replace HO0_1 := Aside0.mk (Kd.R_below (by (with_reducible repeat (first | apply Kd.R_alloc | apply Kd.R_drewN | apply Kd.R_drew)); exact HO0_1.out) hb); replace HO0_2 := Aside0.mk (Kd.R_below (by (with_reducible repeat (first | apply Kd.R_alloc | apply Kd.R_drewN | apply Kd.R_drew)); exact HO0_2.out) hb); have BK594 := Aside0.mk (hbox); have GW594 := Aside0.mk ((by rw [hg]; exact (by first | exact HK.out.1 | exact (show Kept w _ (fun k_ => P0_0_ k_ ∨ P0_1_ k_ ∨ P0_2_ k_) from by repeat (first | (with_reducible first | exact HK.out | apply Kept.alloc | apply Kept.drewN | apply Kept.drew) | exact HK.out)).1) : w.heap.size ≤ gb594)); replace HK := Aside0.mk (Kept.below (S := (fun k_ => P0_0_ k_ ∨ P0_1_ k_ ∨ P0_2_ k_)) (by repeat (first | (with_reducible first | exact HK.out | apply Kept.alloc | apply Kept.drewN | apply Kept.drew) | exact HK.out)) hb); have GE594 := Aside0.mk ((by rw [hg]; exact (below_size bq) : w0.heap.size ≤ gb594)); replace HB := Aside0.mk (below_step bq hb); clear hb hbox hg; have hcz10_0 := bc0 BK594; have hcz10_1 := bc1 BK594; have hcz10_2 : w9.cell? ⟨gb594, 2, none⟩ = some (.slice Ao8 l0_2.length co8) := (blk_cell BK594.out 2).trans rfl; have hfz10_0 := blk_frozen BK594.out 0; have hfz10_1 := blk_frozen BK594.out 1; have hfz10_2 := blk_frozen BK594.out 2) | ((with_reducible refine gate_callee (f := 73) rfl ?_); refine gL 8 Tryd.func73 #[.slice Ao6 l0_0.length co6, .int .i64 a1] ?_; (with_reducible refine (laws_markInt64S.calls k (fun k_ => some k_ = (.slice Ao6 l0_0.length co6 : Value).ownBlock) (.slice Ao6 l0_0.length co6) l0_0 a1 t595 t596 w0 _ ?side1 ?side2 A3.out).mono ?_); (case side1 => repeat (first | (with_reducible first | exact HB.out | apply below_alloc | apply pw_below_drewN | apply below_drew1 | refine below_set ?_ GE594.out) | exact HB.out)); (case side2 => exact Kd.R_tight rfl HO0_0.out); rintro e w11 ⟨rfl, hy0, hb, hkp⟩; refine ⟨_, rfl, ?_⟩; replace HO0_1 := Aside0.mk (Kd.R_mono (ok' := fun k_ => ((P0_0_ k_ ∨ P0_1_ k_ ∨ P0_2_ k_) ∨ w.heap.size ≤ k_) ∧ some k_ ≠ (.slice Ao6 l0_0.length co6 : Value).ownBlock ∧ some k_ ≠ (.slice Ao8 l0_2.length co8 : Value).ownBlock) (Kd.R_keptB (HO0_1.out) hkp (fun k_ hk_ hs_ => (hk_.2.1) hs_)) (fun k_ hk_ => ⟨hk_.1.1, hk_.1.2.1, hk_.1.2.2⟩)); replace HO0_2 := Aside0.mk (Kd.R_mono (ok' := fun k_ => ((P0_0_ k_ ∨ P0_1_ k_ ∨ P0_2_ k_) ∨ w.heap.size ≤ k_) ∧ some k_ ≠ (.slice Ao6 l0_0.length co6 : Value).ownBlock ∧ some k_ ≠ (.slice Ao7 l0_1.length co7 : Value).ownBlock) (Kd.R_keptB (HO0_2.out) hkp (fun k_ hk_ hs_ => (hk_.2.1) hs_)) (fun k_ hk_ => ⟨hk_.1.1, hk_.1.2.1, hk_.1.2.2⟩)); replace BK594 := Aside0.mk (blk_kept (bk BK594) hkp (fun hs_ => (fun e_ => (Kd.R_ne HO0_0.out BK594.out (by decide)) e_) hs_)); replace HK := Aside0.mk (Kept.then_ (S := (fun k_ => P0_0_ k_ ∨ P0_1_ k_ ∨ P0_2_ k_)) (by repeat (first | (with_reducible first | exact HK.out | apply Kept.alloc | apply Kept.drewN | apply Kept.drew | refine Kept.setCell ?_ (.inr GW594.out) _) | exact HK.out)) hkp (fun k_ hs_ => (fun e_ => (HO0_0.out.1 k_ e_.symm).1) hs_)); replace HO0_0 := Aside0.mk (Kd.R_reok rfl hy0 (fun k_ e_ => HO0_0.out.1 k_ e_)); replace HB := Aside0.mk (hb); (try clear hb); (try clear hkp); (try clear hy0); have hcz12_0 := bc0 BK594; have hcz12_1 := bc1 BK594; have hcz12_2 : w11.cell? ⟨gb594, 2, none⟩ = some (.slice Ao8 l0_2.length co8) := (blk_cell BK594.out 2).trans rfl; have hfz12_0 := blk_frozen BK594.out 0; have hfz12_1 := blk_frozen BK594.out 1; have hfz12_2 := blk_frozen BK594.out 2) | ((with_reducible refine gate_callee (f := 73) rfl ?_); refine gL 12 Tryd.func73 #[.slice Ao7 l0_1.length co7, .int .i64 t595] ?_; (with_reducible refine (laws_markInt64S.calls k (fun k_ => some k_ = (.slice Ao7 l0_1.length co7 : Value).ownBlock) (.slice Ao7 l0_1.length co7) l0_1 t595 t597 t598 w0 _ ?side1 ?side2 A4.out).mono ?_); (case side1 => repeat (first | (with_reducible first | exact HB.out | apply below_alloc | apply pw_below_drewN | apply below_drew1 | refine below_set ?_ GE594.out) | exact HB.out)); (case side2 => exact Kd.R_tight rfl HO0_1.out); rintro e w13 ⟨rfl, hy0, hb, hkp⟩; refine ⟨_, rfl, ?_⟩; replace HO0_0 := Aside0.mk (Kd.R_mono (ok' := fun k_ => ((P0_0_ k_ ∨ P0_1_ k_ ∨ P0_2_ k_) ∨ w.heap.size ≤ k_) ∧ some k_ ≠ (.slice Ao7 l0_1.length co7 : Value).ownBlock ∧ some k_ ≠ (.slice Ao8 l0_2.length co8 : Value).ownBlock) (Kd.R_keptB (HO0_0.out) hkp (fun k_ hk_ hs_ => (hk_.2.1) hs_)) (fun k_ hk_ => ⟨hk_.1.1, hk_.1.2.1, hk_.1.2.2⟩)); replace HO0_2 := Aside0.mk (Kd.R_mono (ok' := fun k_ => ((P0_0_ k_ ∨ P0_1_ k_ ∨ P0_2_ k_) ∨ w.heap.size ≤ k_) ∧ some k_ ≠ (.slice Ao6 l0_0.length co6 : Value).ownBlock ∧ some k_ ≠ (.slice Ao7 l0_1.length co7 : Value).ownBlock) (Kd.R_keptB (HO0_2.out) hkp (fun k_ hk_ hs_ => (hk_.2.2) hs_)) (fun k_ hk_ => ⟨hk_.1.1, hk_.1.2.1, hk_.1.2.2⟩)); replace BK594 := Aside0.mk (blk_kept (bk BK594) hkp (fun hs_ => (fun e_ => (Kd.R_ne HO0_1.out BK594.out (by decide)) e_) hs_)); replace HK := Aside0.mk (Kept.then_ (S := (fun k_ => P0_0_ k_ ∨ P0_1_ k_ ∨ P0_2_ k_)) (by repeat (first | (with_reducible first | exact HK.out | apply Kept.alloc | apply Kept.drewN | apply Kept.drew | refine Kept.setCell ?_ (.inr GW594.out) _) | exact HK.out)) hkp (fun k_ hs_ => (fun e_ => (HO0_1.out.1 k_ e_.symm).1) hs_)); replace HO0_1 := Aside0.mk (Kd.R_reok rfl hy0 (fun k_ e_ => HO0_1.out.1 k_ e_)); replace HB := Aside0.mk (hb); (try clear hb); (try clear hkp); (try clear hy0); have hcz14_0 := bc0 BK594; have hcz14_1 := bc1 BK594; have hcz14_2 : w13.cell? ⟨gb594, 2, none⟩ = some (.slice Ao8 l0_2.length co8) := (blk_cell BK594.out 2).trans rfl; have hfz14_0 := blk_frozen BK594.out 0; have hfz14_1 := blk_frozen BK594.out 1; have hfz14_2 := blk_frozen BK594.out 2) | ((with_reducible refine gate_callee (f := 73) rfl ?_); refine gL 16 Tryd.func73 #[.slice Ao8 l0_2.length co8, .int .i64 t597] ?_; (with_reducible refine (laws_markInt64S.calls k (fun k_ => some k_ = (.slice Ao8 l0_2.length co8 : Value).ownBlock) (.slice Ao8 l0_2.length co8) l0_2 t597 t599 t600 w0 _ ?side1 ?side2 A5.out).mono ?_); (case side1 => repeat (first | (with_reducible first | exact HB.out | apply below_alloc | apply pw_below_drewN | apply below_drew1 | refine below_set ?_ GE594.out) | exact HB.out)); (case side2 => exact Kd.R_tight rfl HO0_2.out); rintro e w15 ⟨rfl, hy0, hb, hkp⟩; refine ⟨_, rfl, ?_⟩; replace HO0_0 := Aside0.mk (Kd.R_mono (ok' := fun k_ => ((P0_0_ k_ ∨ P0_1_ k_ ∨ P0_2_ k_) ∨ w.heap.size ≤ k_) ∧ some k_ ≠ (.slice Ao7 l0_1.length co7 : Value).ownBlock ∧ some k_ ≠ (.slice Ao8 l0_2.length co8 : Value).ownBlock) (Kd.R_keptB (HO0_0.out) hkp (fun k_ hk_ hs_ => (hk_.2.2) hs_)) (fun k_ hk_ => ⟨hk_.1.1, hk_.1.2.1, hk_.1.2.2⟩)); replace HO0_1 := Aside0.mk (Kd.R_mono (ok' := fun k_ => ((P0_0_ k_ ∨ P0_1_ k_ ∨ P0_2_ k_) ∨ w.heap.size ≤ k_) ∧ some k_ ≠ (.slice Ao6 l0_0.length co6 : Value).ownBlock ∧ some k_ ≠ (.slice Ao8 l0_2.length co8 : Value).ownBlock) (Kd.R_keptB (HO0_1.out) hkp (fun k_ hk_ hs_ => (hk_.2.2) hs_)) (fun k_ hk_ => ⟨hk_.1.1, hk_.1.2.1, hk_.1.2.2⟩)); replace BK594 := Aside0.mk (blk_kept (bk BK594) hkp (fun hs_ => (fun e_ => (Kd.R_ne HO0_2.out BK594.out (by decide)) e_) hs_)); replace HK := Aside0.mk (Kept.then_ (S := (fun k_ => P0_0_ k_ ∨ P0_1_ k_ ∨ P0_2_ k_)) (by repeat (first | (with_reducible first | exact HK.out | apply Kept.alloc | apply Kept.drewN | apply Kept.drew | refine Kept.setCell ?_ (.inr GW594.out) _) | exact HK.out)) hkp (fun k_ hs_ => (fun e_ => (HO0_2.out.1 k_ e_.symm).1) hs_)); replace HO0_2 := Aside0.mk (Kd.R_reok rfl hy0 (fun k_ e_ => HO0_2.out.1 k_ e_)); replace HB := Aside0.mk (hb); (try clear hb); (try clear hkp); (try clear hy0)))
 go_ret
 exact ⟨eq_, by (with_reducible repeat (first | apply Kd.R_alloc | apply Kd.R_drewN | apply Kd.R_drew)); exact Kd.R_mono HO0_0.out (fun _ hk => hk.1), by (with_reducible repeat (first | apply Kd.R_alloc | apply Kd.R_drewN | apply Kd.R_drew)); exact Kd.R_mono HO0_1.out (fun _ hk => hk.1), by (with_reducible repeat (first | apply Kd.R_alloc | apply Kd.R_drewN | apply Kd.R_drew)); exact Kd.R_mono HO0_2.out (fun _ hk => hk.1), bq, by repeat (first | (with_reducible first | exact HK.out | apply Kept.alloc | apply Kept.drewN | apply Kept.drew | refine Kept.setCell ?_ (.inr GW594.out) _) | exact HK.out)⟩

/-! ### laws_heldInt64S: function 76 -/
def laws_heldInt64S.l0 : Nat → List Int → Int → Int → Option (Int)
 | 0, _, _, _ => none
 | k + 1, x0, x1, x5 => if x5 < (x0.length : Int) then (if 0 ≤ x5 then (if (rd x0 x5) = x1 then (laws_heldInt64S.l0 k x0 (wrap64 (x1 + 1)) (wrap64 (x5 + 1))) else (none)) else (none)) else (some x1)
def laws_heldInt64S.f (k : Nat) (l0 : List Int) (a1 : Int) : Option (Int) := laws_heldInt64S.l0 k l0 a1 0
set_option maxHeartbeats 8000000 in
set_option maxRecDepth 100000 in
theorem laws_heldInt64S.calls (k : Nat) (A0 : Option Addr) (c0 : Nat) (l0 : List Int) (a1 : Int) (r : Int) (w : World) (hr0 : Kd.C (Kd.int .i64) w A0 l0.length l0) (hc0 : l0.length ≤ c0) (h : laws_heldInt64S.f k l0 a1 = some r) :
  Calls Tryd.prog 76 #[.slice A0 l0.length c0, .int .i64 a1] w fun e w' => e = .returned (.int .i64 r) ∧ Drawn0 w w' := by
 have HR0 := Aside0.mk hr0
 have HC0 := Aside0.mk hc0
 clear hr0 hc0
 have H : (laws_heldInt64S.l0 k l0 a1 0) = some r := h
 clear h
 have H' := Aside0.mk H
 clear H
 go_enter Tryd.func76, Tryd.ntmps76
 go_wp2
 go_loopg [1, 5] k (fun kq v1 v5 w' => ∃ (x1_1 : Int) (x5_1 : Int), v1 = .int .i64 x1_1 ∧ v5 = .int .i64 x5_1 ∧ Aside0 (laws_heldInt64S.l0 kq l0 x1_1 x5_1 = some r) ∧ Aside0 (kq ≤ k) ∧ Drawn0 w w')
 case atStart => exact ⟨(a1), (0), (by first | rfl | (simp; done) | (simp [*]; done)), (by first | rfl | (simp; done) | (simp [*]; done)), H', ⟨Nat.le_refl _⟩, by repeat (first | exact Drawn0.refl _ | apply Drawn0.step)⟩
 case round =>
  clear H'
  try clear p2
  obtain ⟨x1_1, x5_1, rfl, rfl, HA, HK1, ⟨m1, rfl⟩⟩ := hrel
  cases gk with
  | zero => exact absurd HA.out (by simp [laws_heldInt64S.l0])
  | succ k1 =>
   have H := HA.out
   clear HA
   simp only [laws_heldInt64S.l0] at H
   by_cases c3 : x5_1 < (l0.length : Int)
   ·rw [if_pos c3] at H
    have c3b0 : decide (x5_1 < (l0.length : Int)) = true := decide_eq_true c3
    clear c3
    revert H
    refine ifr fun c4 H => ?_
    have c4b0 : decide (0 ≤ x5_1) = true := decide_eq_true c4
    clear c4
    revert H
    refine ifr fun c5 H => ?_
    have c5b0 : ((rd l0 x5_1) == x1_1) = true := beq_iff_eq.mpr c5
    have c5b1 : ((rd l0 x5_1) != x1_1) = false := bne_eq_false_iff_eq.mpr c5
    clear c5
    have H' := Aside0.mk H
    clear H
    have p603 : 0 ≤ (x5_1 : Int) := ode
    have q603 : x5_1 < (l0.length : Int) := ode
    obtain ⟨ad603, e603, hx603_0⟩ := Kd.at_int HR0.out x5_1 p603 q603
    cases e603
    replace p603 := eq_true p603
    replace q603 := eq_true q603
    go_wp2
    go_roundg k1
    case measure => have := HK1.out; omega
    case rel => exact ⟨(wrap64 (x1_1 + 1)), (wrap64 (x5_1 + 1)), (by first | rfl | (simp; done) | (simp [*]; done)), (by first | rfl | (simp; done) | (simp [*]; done)), H', ⟨by have := HK1.out; omega⟩, by repeat (first | exact Drawn0.refl _ | apply Drawn0.step)⟩
   ·rw [if_neg c3] at H
    have c3b0 : decide (x5_1 < (l0.length : Int)) = false := decide_eq_false c3
    clear c3
    obtain rfl := Option.some.inj H
    go_wp2
    go_ret
    exact ⟨by first | rfl | (simp; done) | (simp [*]; done), by repeat (first | exact Drawn0.refl _ | apply Drawn0.step)⟩

/-! ### laws_heldBranchS: function 74 -/
def laws_heldBranchS.l0 : Nat → List (S74) → Int → Int → Option (Int)
 | 0, _, _, _ => none
 | k + 1, x0, x1, x5 => if x5 < (x0.length : Int) then (if 0 ≤ x5 then ((laws_heldInt64S.f k ((rd_T74 x0 x5).f0) x1).bind fun t605 => (if t605 < 0 then (none) else (laws_heldBranchS.l0 k x0 t605 (wrap64 (x5 + 1))))) else (none)) else (some x1)
def laws_heldBranchS.f (k : Nat) (l0 : List (S74)) (a1 : Int) : Option (Int) := laws_heldBranchS.l0 k l0 a1 0
set_option maxHeartbeats 8000000 in
set_option maxRecDepth 100000 in
theorem laws_heldBranchS.calls (k : Nat) (A0 : Option Addr) (c0 : Nat) (l0 : List (S74)) (a1 : Int) (r : Int) (w : World) (hr0 : Kd.C k74 w A0 l0.length l0) (hc0 : l0.length ≤ c0) (h : laws_heldBranchS.f k l0 a1 = some r) :
  Calls Tryd.prog 74 #[.slice A0 l0.length c0, .int .i64 a1] w fun e w' => e = .returned (.int .i64 r) ∧ Drawn0 w w' := by
 have HR0 := Aside0.mk hr0
 have HC0 := Aside0.mk hc0
 clear hr0 hc0
 have H : (laws_heldBranchS.l0 k l0 a1 0) = some r := h
 clear h
 have H' := Aside0.mk H
 clear H
 go_enter Tryd.func74, Tryd.ntmps74
 go_wp2
 go_loopg [1, 5] k (fun kq v1 v5 w' => ∃ (x1_1 : Int) (x5_1 : Int), v1 = .int .i64 x1_1 ∧ v5 = .int .i64 x5_1 ∧ Aside0 (laws_heldBranchS.l0 kq l0 x1_1 x5_1 = some r) ∧ Aside0 (kq ≤ k) ∧ Drawn0 w w')
 case atStart => exact ⟨(a1), (0), (by first | rfl | (simp; done) | (simp [*]; done)), (by first | rfl | (simp; done) | (simp [*]; done)), H', ⟨Nat.le_refl _⟩, by repeat (first | exact Drawn0.refl _ | apply Drawn0.step)⟩
 case round =>
  clear H'
  try clear p2
  obtain ⟨x1_1, x5_1, rfl, rfl, HA, HK1, ⟨m1, rfl⟩⟩ := hrel
  cases gk with
  | zero => exact absurd HA.out (by simp [laws_heldBranchS.l0])
  | succ k1 =>
   have H := HA.out
   clear HA
   simp only [laws_heldBranchS.l0] at H
   by_cases c3 : x5_1 < (l0.length : Int)
   ·rw [if_pos c3] at H
    have c3b0 : decide (x5_1 < (l0.length : Int)) = true := decide_eq_true c3
    clear c3
    revert H
    refine ifr fun c4 H => ?_
    have c4b0 : decide (0 ≤ x5_1) = true := decide_eq_true c4
    clear c4
    replace H := Option.bind_eq_some_iff.mp H
    obtain ⟨t605, A50, H⟩ := H
    replace H : (if t605 < 0 then (none) else (laws_heldBranchS.l0 k1 l0 t605 (wrap64 (x5_1 + 1)))) = some r := H
    have A5 := Aside0.mk A50
    clear A50
    by_cases c6 : t605 < 0
    ·rw [if_pos c6] at H
     exact absurd H (by simp)
    ·rw [if_neg c6] at H
     have c6b0 : decide (t605 < 0) = false := decide_eq_false c6
     clear c6
     have H' := Aside0.mk H
     clear H
     have p604 : 0 ≤ (x5_1 : Int) := ode
     have q604 : x5_1 < (l0.length : Int) := ode
     obtain ⟨ad604, A604_0, c604_0, e604, hx604_0, hl604_0, hi604_0⟩ := at_T74 HR0.out x5_1 p604 q604
     cases e604
     have HR604_0 := Aside0.mk hi604_0
     have HC604_0 := Aside0.mk hl604_0
     clear hi604_0 hl604_0
     replace p604 := eq_true p604
     replace q604 := eq_true q604
     go_wp2_with (first | ((with_reducible refine gate_callee (f := 76) rfl ?_); refine gL 18 Tryd.func76 #[.slice A604_0 ((rd_T74 l0 x5_1).f0).length c604_0, .int .i64 x1_1] ?_; (with_reducible refine (laws_heldInt64S.calls k1 _ _ ((rd_T74 l0 x5_1).f0) x1_1 t605 _ ?side1 ?side2 A5.out).mono ?_); (case side1 => repeat (first | exact HR604_0.out | (with_reducible refine Kd.C_alloc ?_ _) | (with_reducible refine Kd.C_drewN ?_ _) | (with_reducible refine Kd.C_drew ?_))); (case side2 => exact HC604_0.out); rintro e w' ⟨rfl, ⟨nd, rfl⟩⟩; refine ⟨_, rfl, ?_⟩))
     go_roundg k1
     case measure => have := HK1.out; omega
     case rel => exact ⟨(t605), (wrap64 (x5_1 + 1)), (by first | rfl | (simp; done) | (simp [*]; done)), (by first | rfl | (simp; done) | (simp [*]; done)), H', ⟨by have := HK1.out; omega⟩, by repeat (first | exact Drawn0.refl _ | apply Drawn0.step)⟩
   ·rw [if_neg c3] at H
    have c3b0 : decide (x5_1 < (l0.length : Int)) = false := decide_eq_false c3
    clear c3
    obtain rfl := Option.some.inj H
    go_wp2
    go_ret
    exact ⟨by first | rfl | (simp; done) | (simp [*]; done), by repeat (first | exact Drawn0.refl _ | apply Drawn0.step)⟩

/-! ### laws_heldInt64SS: function 75 -/
def laws_heldInt64SS.l0 : Nat → List (List Int) → Int → Int → Option (Int)
 | 0, _, _, _ => none
 | k + 1, x0, x1, x5 => if x5 < (x0.length : Int) then (if 0 ≤ x5 then ((laws_heldInt64S.f k (rd_L1 x0 x5) x1).bind fun t607 => (if t607 < 0 then (none) else (laws_heldInt64SS.l0 k x0 t607 (wrap64 (x5 + 1))))) else (none)) else (some x1)
def laws_heldInt64SS.f (k : Nat) (l0 : List (List Int)) (a1 : Int) : Option (Int) := laws_heldInt64SS.l0 k l0 a1 0
set_option maxHeartbeats 8000000 in
set_option maxRecDepth 100000 in
theorem laws_heldInt64SS.calls (k : Nat) (A0 : Option Addr) (c0 : Nat) (l0 : List (List Int)) (a1 : Int) (r : Int) (w : World) (hr0 : Kd.C (Kd.slice 2 (Kd.int .i64)) w A0 l0.length l0) (hc0 : l0.length ≤ c0) (h : laws_heldInt64SS.f k l0 a1 = some r) :
  Calls Tryd.prog 75 #[.slice A0 l0.length c0, .int .i64 a1] w fun e w' => e = .returned (.int .i64 r) ∧ Drawn0 w w' := by
 have HR0 := Aside0.mk hr0
 have HC0 := Aside0.mk hc0
 clear hr0 hc0
 have H : (laws_heldInt64SS.l0 k l0 a1 0) = some r := h
 clear h
 have H' := Aside0.mk H
 clear H
 go_enter Tryd.func75, Tryd.ntmps75
 go_wp2
 go_loopg [1, 5] k (fun kq v1 v5 w' => ∃ (x1_1 : Int) (x5_1 : Int), v1 = .int .i64 x1_1 ∧ v5 = .int .i64 x5_1 ∧ Aside0 (laws_heldInt64SS.l0 kq l0 x1_1 x5_1 = some r) ∧ Aside0 (kq ≤ k) ∧ Drawn0 w w')
 case atStart => exact ⟨(a1), (0), (by first | rfl | (simp; done) | (simp [*]; done)), (by first | rfl | (simp; done) | (simp [*]; done)), H', ⟨Nat.le_refl _⟩, by repeat (first | exact Drawn0.refl _ | apply Drawn0.step)⟩
 case round =>
  clear H'
  try clear p2
  obtain ⟨x1_1, x5_1, rfl, rfl, HA, HK1, ⟨m1, rfl⟩⟩ := hrel
  cases gk with
  | zero => exact absurd HA.out (by simp [laws_heldInt64SS.l0])
  | succ k1 =>
   have H := HA.out
   clear HA
   simp only [laws_heldInt64SS.l0] at H
   by_cases c3 : x5_1 < (l0.length : Int)
   ·rw [if_pos c3] at H
    have c3b0 : decide (x5_1 < (l0.length : Int)) = true := decide_eq_true c3
    clear c3
    revert H
    refine ifr fun c4 H => ?_
    have c4b0 : decide (0 ≤ x5_1) = true := decide_eq_true c4
    clear c4
    replace H := Option.bind_eq_some_iff.mp H
    obtain ⟨t607, A50, H⟩ := H
    replace H : (if t607 < 0 then (none) else (laws_heldInt64SS.l0 k1 l0 t607 (wrap64 (x5_1 + 1)))) = some r := H
    have A5 := Aside0.mk A50
    clear A50
    by_cases c6 : t607 < 0
    ·rw [if_pos c6] at H
     exact absurd H (by simp)
    ·rw [if_neg c6] at H
     have c6b0 : decide (t607 < 0) = false := decide_eq_false c6
     clear c6
     have H' := Aside0.mk H
     clear H
     have p606 : 0 ≤ (x5_1 : Int) := ode
     have q606 : x5_1 < (l0.length : Int) := ode
     obtain ⟨ad606, A606_0, c606_0, e606, hx606_0, hl606_0, hi606_0⟩ := at_L1 HR0.out x5_1 p606 q606
     cases e606
     have HR606_0 := Aside0.mk hi606_0
     have HC606_0 := Aside0.mk hl606_0
     clear hi606_0 hl606_0
     replace p606 := eq_true p606
     replace q606 := eq_true q606
     go_wp2_with (first | ((with_reducible refine gate_callee (f := 76) rfl ?_); refine gL 17 Tryd.func76 #[.slice A606_0 (rd_L1 l0 x5_1).length c606_0, .int .i64 x1_1] ?_; (with_reducible refine (laws_heldInt64S.calls k1 _ _ (rd_L1 l0 x5_1) x1_1 t607 _ ?side1 ?side2 A5.out).mono ?_); (case side1 => repeat (first | exact HR606_0.out | (with_reducible refine Kd.C_alloc ?_ _) | (with_reducible refine Kd.C_drewN ?_ _) | (with_reducible refine Kd.C_drew ?_))); (case side2 => exact HC606_0.out); rintro e w' ⟨rfl, ⟨nd, rfl⟩⟩; refine ⟨_, rfl, ?_⟩))
     go_roundg k1
     case measure => have := HK1.out; omega
     case rel => exact ⟨(t607), (wrap64 (x5_1 + 1)), (by first | rfl | (simp; done) | (simp [*]; done)), (by first | rfl | (simp; done) | (simp [*]; done)), H', ⟨by have := HK1.out; omega⟩, by repeat (first | exact Drawn0.refl _ | apply Drawn0.step)⟩
   ·rw [if_neg c3] at H
    have c3b0 : decide (x5_1 < (l0.length : Int)) = false := decide_eq_false c3
    clear c3
    obtain rfl := Option.some.inj H
    go_wp2
    go_ret
    exact ⟨by first | rfl | (simp; done) | (simp [*]; done), by repeat (first | exact Drawn0.refl _ | apply Drawn0.step)⟩

/-! ### laws_heldCurve: function 38 -/
def laws_heldCurve.f (k : Nat) (l0_0 : List (S74)) (l0_1 : List (List Int)) (a1 : Int) : Option (Int) := (laws_heldBranchS.f k l0_0 a1).bind fun t609 => (if t609 < 0 then (none) else ((laws_heldInt64SS.f k l0_1 t609).bind fun t610 => (if t610 < 0 then (none) else (some t610))))
set_option maxHeartbeats 8000000 in
set_option maxRecDepth 100000 in
theorem laws_heldCurve.calls (k : Nat) (A0_0 : Option Addr) (c0_0 : Nat) (l0_0 : List (S74)) (A0_1 : Option Addr) (c0_1 : Nat) (l0_1 : List (List Int)) (a1 : Int) (r : Int) (w : World) (hr0_0 : Kd.C k74 w A0_0 l0_0.length l0_0) (hc0_0 : l0_0.length ≤ c0_0) (hr0_1 : Kd.C (Kd.slice 2 (Kd.int .i64)) w A0_1 l0_1.length l0_1) (hc0_1 : l0_1.length ≤ c0_1) (h : laws_heldCurve.f k l0_0 l0_1 a1 = some r) :
  Calls Tryd.prog 38 #[.agg #[.slice A0_0 l0_0.length c0_0, .slice A0_1 l0_1.length c0_1], .int .i64 a1] w fun e w' => e = .returned (.int .i64 r) ∧ Below w.heap.size w w' := by
 have hu31 := Tryd.underlying31
 have HR0_0 := Aside0.mk hr0_0
 have HC0_0 := Aside0.mk hc0_0
 clear hr0_0 hc0_0
 have HR0_1 := Aside0.mk hr0_1
 have HC0_1 := Aside0.mk hc0_1
 clear hr0_1 hc0_1
 have HB := Aside0.mk (Below.refl w.heap.size w)
 have H : ((laws_heldBranchS.f k l0_0 a1).bind fun t609 => (if t609 < 0 then (none) else ((laws_heldInt64SS.f k l0_1 t609).bind fun t610 => (if t610 < 0 then (none) else (some t610))))) = some r := h
 clear h
 replace H := Option.bind_eq_some_iff.mp H
 obtain ⟨t609, A30, H⟩ := H
 replace H : (if t609 < 0 then (none) else ((laws_heldInt64SS.f k l0_1 t609).bind fun t610 => (if t610 < 0 then (none) else (some t610)))) = some r := H
 have A3 := Aside0.mk A30
 clear A30
 by_cases c4 : t609 < 0
 ·rw [if_pos c4] at H
  exact absurd H (by simp)
 ·rw [if_neg c4] at H
  have c4b0 : decide (t609 < 0) = false := decide_eq_false c4
  clear c4
  replace H := Option.bind_eq_some_iff.mp H
  obtain ⟨t610, A50, H⟩ := H
  replace H : (if t610 < 0 then (none) else (some t610)) = some r := H
  have A5 := Aside0.mk A50
  clear A50
  by_cases c6 : t610 < 0
  ·rw [if_pos c6] at H
   exact absurd H (by simp)
  ·rw [if_neg c6] at H
   have c6b0 : decide (t610 < 0) = false := decide_eq_false c6
   clear c6
   obtain rfl := Option.some.inj H
   go_enter Tryd.func38, Tryd.ntmps38
   go_wp2_with (first | ((with_reducible refine gate_dst (N := 2) rfl ?_); refine box_event ?hg (N := 2) ?hd (cs := #[.slice A0_0 l0_0.length c0_0, .slice A0_1 l0_1.length c0_1]) (t := 31) ?hr ?_; (case hd => rfl); (case hg => rfl); (case hr => first | (go_simp; done) | (go_simp; rfl)); intro gb608 hg w7 hbox hb; have BK608 := Aside0.mk (hbox); have GW608 := Aside0.mk ((by rw [hg]; exact (below_size bq) : w.heap.size ≤ gb608)); have GE608 := Aside0.mk ((by rw [hg]; exact (below_size bq) : w.heap.size ≤ gb608)); replace HB := Aside0.mk (below_step bq hb); clear hb hbox hg; have hcz8_0 := bc0 BK608; have hcz8_1 := bc1 BK608; have hfz8_0 := blk_frozen BK608.out 0; have hfz8_1 := blk_frozen BK608.out 1) | ((with_reducible refine gate_callee (f := 74) rfl ?_); refine gL 8 Tryd.func74 #[.slice A0_0 l0_0.length c0_0, .int .i64 a1] ?_; (with_reducible refine (laws_heldBranchS.calls k _ _ l0_0 a1 t609 _ ?side1 ?side2 A3.out).mono ?_); (case side1 => exact kc HR0_0); (case side2 => exact HC0_0.out); rintro e w' ⟨rfl, ⟨nd, rfl⟩⟩; refine ⟨_, rfl, ?_⟩) | ((with_reducible refine gate_callee (f := 75) rfl ?_); refine gL 14 Tryd.func75 #[.slice A0_1 l0_1.length c0_1, .int .i64 t609] ?_; (with_reducible refine (laws_heldInt64SS.calls k _ _ l0_1 t609 t610 _ ?side1 ?side2 A5.out).mono ?_); (case side1 => repeat (first | exact (Kd.C_below HR0_1.out bq) | (with_reducible refine Kd.C_alloc ?_ _) | (with_reducible refine Kd.C_drewN ?_ _) | (with_reducible refine Kd.C_drew ?_))); (case side2 => exact HC0_1.out); rintro e w' ⟨rfl, ⟨nd, rfl⟩⟩; refine ⟨_, rfl, ?_⟩))
   go_ret
   exact ⟨eq_, bq⟩

/-! ### laws_heldCluster: function 39 -/
def laws_heldCluster.f (k : Nat) (l0_0 : List Int) (l0_1 : List Int) (l0_2 : List Int) (a1 : Int) : Option (Int) := (laws_heldInt64S.f k l0_0 a1).bind fun t612 => (if t612 < 0 then (none) else ((laws_heldInt64S.f k l0_1 t612).bind fun t613 => (if t613 < 0 then (none) else ((laws_heldInt64S.f k l0_2 t613).bind fun t614 => (if t614 < 0 then (none) else (some t614))))))
set_option maxHeartbeats 8000000 in
set_option maxRecDepth 100000 in
theorem laws_heldCluster.calls (k : Nat) (A0_0 : Option Addr) (c0_0 : Nat) (l0_0 : List Int) (A0_1 : Option Addr) (c0_1 : Nat) (l0_1 : List Int) (A0_2 : Option Addr) (c0_2 : Nat) (l0_2 : List Int) (a1 : Int) (r : Int) (w : World) (hr0_0 : Kd.C (Kd.int .i64) w A0_0 l0_0.length l0_0) (hc0_0 : l0_0.length ≤ c0_0) (hr0_1 : Kd.C (Kd.int .i64) w A0_1 l0_1.length l0_1) (hc0_1 : l0_1.length ≤ c0_1) (hr0_2 : Kd.C (Kd.int .i64) w A0_2 l0_2.length l0_2) (hc0_2 : l0_2.length ≤ c0_2) (h : laws_heldCluster.f k l0_0 l0_1 l0_2 a1 = some r) :
  Calls Tryd.prog 39 #[.agg #[.slice A0_0 l0_0.length c0_0, .slice A0_1 l0_1.length c0_1, .slice A0_2 l0_2.length c0_2], .int .i64 a1] w fun e w' => e = .returned (.int .i64 r) ∧ Below w.heap.size w w' := by
 have hu37 := Tryd.underlying37
 have HR0_0 := Aside0.mk hr0_0
 have HC0_0 := Aside0.mk hc0_0
 clear hr0_0 hc0_0
 have HR0_1 := Aside0.mk hr0_1
 have HC0_1 := Aside0.mk hc0_1
 clear hr0_1 hc0_1
 have HR0_2 := Aside0.mk hr0_2
 have HC0_2 := Aside0.mk hc0_2
 clear hr0_2 hc0_2
 have HB := Aside0.mk (Below.refl w.heap.size w)
 have H : ((laws_heldInt64S.f k l0_0 a1).bind fun t612 => (if t612 < 0 then (none) else ((laws_heldInt64S.f k l0_1 t612).bind fun t613 => (if t613 < 0 then (none) else ((laws_heldInt64S.f k l0_2 t613).bind fun t614 => (if t614 < 0 then (none) else (some t614))))))) = some r := h
 clear h
 replace H := Option.bind_eq_some_iff.mp H
 obtain ⟨t612, A30, H⟩ := H
 replace H : (if t612 < 0 then (none) else ((laws_heldInt64S.f k l0_1 t612).bind fun t613 => (if t613 < 0 then (none) else ((laws_heldInt64S.f k l0_2 t613).bind fun t614 => (if t614 < 0 then (none) else (some t614)))))) = some r := H
 have A3 := Aside0.mk A30
 clear A30
 by_cases c4 : t612 < 0
 ·rw [if_pos c4] at H
  exact absurd H (by simp)
 ·rw [if_neg c4] at H
  have c4b0 : decide (t612 < 0) = false := decide_eq_false c4
  clear c4
  replace H := Option.bind_eq_some_iff.mp H
  obtain ⟨t613, A50, H⟩ := H
  replace H : (if t613 < 0 then (none) else ((laws_heldInt64S.f k l0_2 t613).bind fun t614 => (if t614 < 0 then (none) else (some t614)))) = some r := H
  have A5 := Aside0.mk A50
  clear A50
  by_cases c6 : t613 < 0
  ·rw [if_pos c6] at H
   exact absurd H (by simp)
  ·rw [if_neg c6] at H
   have c6b0 : decide (t613 < 0) = false := decide_eq_false c6
   clear c6
   replace H := Option.bind_eq_some_iff.mp H
   obtain ⟨t614, A70, H⟩ := H
   replace H : (if t614 < 0 then (none) else (some t614)) = some r := H
   have A7 := Aside0.mk A70
   clear A70
   by_cases c8 : t614 < 0
   ·rw [if_pos c8] at H
    exact absurd H (by simp)
   ·rw [if_neg c8] at H
    have c8b0 : decide (t614 < 0) = false := decide_eq_false c8
    clear c8
    obtain rfl := Option.some.inj H
    go_enter Tryd.func39, Tryd.ntmps39
    go_wp2_with (first | ((with_reducible refine gate_dst (N := 2) rfl ?_); refine box_event ?hg (N := 2) ?hd (cs := #[.slice A0_0 l0_0.length c0_0, .slice A0_1 l0_1.length c0_1, .slice A0_2 l0_2.length c0_2]) (t := 37) ?hr ?_; (case hd => rfl); (case hg => rfl); (case hr => first | (go_simp; done) | (go_simp; rfl)); intro gb611 hg w9 hbox hb; have BK611 := Aside0.mk (hbox); have GW611 := Aside0.mk ((by rw [hg]; exact (below_size bq) : w.heap.size ≤ gb611)); have GE611 := Aside0.mk ((by rw [hg]; exact (below_size bq) : w.heap.size ≤ gb611)); replace HB := Aside0.mk (below_step bq hb); clear hb hbox hg; have hcz10_0 := bc0 BK611; have hcz10_1 := bc1 BK611; have hcz10_2 : w9.cell? ⟨gb611, 2, none⟩ = some (.slice A0_2 l0_2.length c0_2) := (blk_cell BK611.out 2).trans rfl; have hfz10_0 := blk_frozen BK611.out 0; have hfz10_1 := blk_frozen BK611.out 1; have hfz10_2 := blk_frozen BK611.out 2) | ((with_reducible refine gate_callee (f := 76) rfl ?_); refine gL 8 Tryd.func76 #[.slice A0_0 l0_0.length c0_0, .int .i64 a1] ?_; (with_reducible refine (laws_heldInt64S.calls k _ _ l0_0 a1 t612 _ ?side1 ?side2 A3.out).mono ?_); (case side1 => exact kc HR0_0); (case side2 => exact HC0_0.out); rintro e w' ⟨rfl, ⟨nd, rfl⟩⟩; refine ⟨_, rfl, ?_⟩) | ((with_reducible refine gate_callee (f := 76) rfl ?_); refine gL 14 Tryd.func76 #[.slice A0_1 l0_1.length c0_1, .int .i64 t612] ?_; (with_reducible refine (laws_heldInt64S.calls k _ _ l0_1 t612 t613 _ ?side1 ?side2 A5.out).mono ?_); (case side1 => repeat (first | exact (Kd.C_below HR0_1.out bq) | (with_reducible refine Kd.C_alloc ?_ _) | (with_reducible refine Kd.C_drewN ?_ _) | (with_reducible refine Kd.C_drew ?_))); (case side2 => exact HC0_1.out); rintro e w' ⟨rfl, ⟨nd, rfl⟩⟩; refine ⟨_, rfl, ?_⟩) | ((with_reducible refine gate_callee (f := 76) rfl ?_); refine gL 20 Tryd.func76 #[.slice A0_2 l0_2.length c0_2, .int .i64 t613] ?_; (with_reducible refine (laws_heldInt64S.calls k _ _ l0_2 t613 t614 _ ?side1 ?side2 A7.out).mono ?_); (case side1 => repeat (first | exact (Kd.C_below HR0_2.out bq) | (with_reducible refine Kd.C_alloc ?_ _) | (with_reducible refine Kd.C_drewN ?_ _) | (with_reducible refine Kd.C_drew ?_))); (case side2 => exact HC0_2.out); rintro e w' ⟨rfl, ⟨nd, rfl⟩⟩; refine ⟨_, rfl, ?_⟩))
    go_ret
    exact ⟨eq_, bq⟩

/-! ### laws_heldPoly: function 40 -/
def laws_heldPoly.f (k : Nat) (l0_0 : List (List Int)) (a1 : Int) : Option (Int) := (laws_heldInt64SS.f k l0_0 a1).bind fun t616 => (if t616 < 0 then (none) else (some t616))
set_option maxHeartbeats 8000000 in
set_option maxRecDepth 100000 in
theorem laws_heldPoly.calls (k : Nat) (A0_0 : Option Addr) (c0_0 : Nat) (l0_0 : List (List Int)) (a1 : Int) (r : Int) (w : World) (hr0_0 : Kd.C (Kd.slice 2 (Kd.int .i64)) w A0_0 l0_0.length l0_0) (hc0_0 : l0_0.length ≤ c0_0) (h : laws_heldPoly.f k l0_0 a1 = some r) :
  Calls Tryd.prog 40 #[.agg #[.slice A0_0 l0_0.length c0_0], .int .i64 a1] w fun e w' => e = .returned (.int .i64 r) ∧ Below w.heap.size w w' := by
 have hu39 := Tryd.underlying39
 have HR0_0 := Aside0.mk hr0_0
 have HC0_0 := Aside0.mk hc0_0
 clear hr0_0 hc0_0
 have HB := Aside0.mk (Below.refl w.heap.size w)
 have H : ((laws_heldInt64SS.f k l0_0 a1).bind fun t616 => (if t616 < 0 then (none) else (some t616))) = some r := h
 clear h
 replace H := Option.bind_eq_some_iff.mp H
 obtain ⟨t616, A30, H⟩ := H
 replace H : (if t616 < 0 then (none) else (some t616)) = some r := H
 have A3 := Aside0.mk A30
 clear A30
 by_cases c4 : t616 < 0
 ·rw [if_pos c4] at H
  exact absurd H (by simp)
 ·rw [if_neg c4] at H
  have c4b0 : decide (t616 < 0) = false := decide_eq_false c4
  clear c4
  obtain rfl := Option.some.inj H
  go_enter Tryd.func40, Tryd.ntmps40
  go_wp2_with (first | ((with_reducible refine gate_dst (N := 2) rfl ?_); refine box_event ?hg (N := 2) ?hd (cs := #[.slice A0_0 l0_0.length c0_0]) (t := 39) ?hr ?_; (case hd => rfl); (case hg => rfl); (case hr => first | (go_simp; done) | (go_simp; rfl)); intro gb615 hg w5 hbox hb; have BK615 := Aside0.mk (hbox); have GW615 := Aside0.mk ((by rw [hg]; exact (below_size bq) : w.heap.size ≤ gb615)); have GE615 := Aside0.mk ((by rw [hg]; exact (below_size bq) : w.heap.size ≤ gb615)); replace HB := Aside0.mk (below_step bq hb); clear hb hbox hg; have hcz6_0 := bc0 BK615; have hfz6_0 := blk_frozen BK615.out 0) | ((with_reducible refine gate_callee (f := 75) rfl ?_); refine gL 8 Tryd.func75 #[.slice A0_0 l0_0.length c0_0, .int .i64 a1] ?_; (with_reducible refine (laws_heldInt64SS.calls k _ _ l0_0 a1 t616 _ ?side1 ?side2 A3.out).mono ?_); (case side1 => exact kc HR0_0); (case side2 => exact HC0_0.out); rintro e w' ⟨rfl, ⟨nd, rfl⟩⟩; refine ⟨_, rfl, ?_⟩))
  go_ret
  exact ⟨eq_, bq⟩

/-! ### laws_heldDesk: function 14 -/
def laws_heldDesk.f (k : Nat) (l0_0 : List (S74)) (l0_1 : List (List Int)) (l0_2 : List Int) (l0_3 : List Int) (l0_4 : List Int) (l0_5 : List (List Int)) (a1 : Int) : Option (Int) := (laws_heldCurve.f k l0_0 l0_1 a1).bind fun t618 => (if t618 < 0 then (none) else ((laws_heldCluster.f k l0_2 l0_3 l0_4 t618).bind fun t619 => (if t619 < 0 then (none) else ((laws_heldPoly.f k l0_5 t619).bind fun t620 => (if t620 < 0 then (none) else (some t620))))))
set_option maxHeartbeats 8000000 in
set_option maxRecDepth 100000 in
theorem laws_heldDesk.calls (k : Nat) (A0_0 : Option Addr) (c0_0 : Nat) (l0_0 : List (S74)) (A0_1 : Option Addr) (c0_1 : Nat) (l0_1 : List (List Int)) (A0_2 : Option Addr) (c0_2 : Nat) (l0_2 : List Int) (A0_3 : Option Addr) (c0_3 : Nat) (l0_3 : List Int) (A0_4 : Option Addr) (c0_4 : Nat) (l0_4 : List Int) (A0_5 : Option Addr) (c0_5 : Nat) (l0_5 : List (List Int)) (a1 : Int) (r : Int) (w : World) (hr0_0 : Kd.C k74 w A0_0 l0_0.length l0_0) (hc0_0 : l0_0.length ≤ c0_0) (hr0_1 : Kd.C (Kd.slice 2 (Kd.int .i64)) w A0_1 l0_1.length l0_1) (hc0_1 : l0_1.length ≤ c0_1) (hr0_2 : Kd.C (Kd.int .i64) w A0_2 l0_2.length l0_2) (hc0_2 : l0_2.length ≤ c0_2) (hr0_3 : Kd.C (Kd.int .i64) w A0_3 l0_3.length l0_3) (hc0_3 : l0_3.length ≤ c0_3) (hr0_4 : Kd.C (Kd.int .i64) w A0_4 l0_4.length l0_4) (hc0_4 : l0_4.length ≤ c0_4) (hr0_5 : Kd.C (Kd.slice 2 (Kd.int .i64)) w A0_5 l0_5.length l0_5) (hc0_5 : l0_5.length ≤ c0_5) (h : laws_heldDesk.f k l0_0 l0_1 l0_2 l0_3 l0_4 l0_5 a1 = some r) :
  Calls Tryd.prog 14 #[.agg #[.slice A0_0 l0_0.length c0_0, .slice A0_1 l0_1.length c0_1, .slice A0_2 l0_2.length c0_2, .slice A0_3 l0_3.length c0_3, .slice A0_4 l0_4.length c0_4, .slice A0_5 l0_5.length c0_5], .int .i64 a1] w fun e w' => e = .returned (.int .i64 r) ∧ Below w.heap.size w w' := by
 have hu41 := Tryd.underlying41
 have hu31 := Tryd.underlying31
 have hu37 := Tryd.underlying37
 have hu39 := Tryd.underlying39
 have HR0_0 := Aside0.mk hr0_0
 have HC0_0 := Aside0.mk hc0_0
 clear hr0_0 hc0_0
 have HR0_1 := Aside0.mk hr0_1
 have HC0_1 := Aside0.mk hc0_1
 clear hr0_1 hc0_1
 have HR0_2 := Aside0.mk hr0_2
 have HC0_2 := Aside0.mk hc0_2
 clear hr0_2 hc0_2
 have HR0_3 := Aside0.mk hr0_3
 have HC0_3 := Aside0.mk hc0_3
 clear hr0_3 hc0_3
 have HR0_4 := Aside0.mk hr0_4
 have HC0_4 := Aside0.mk hc0_4
 clear hr0_4 hc0_4
 have HR0_5 := Aside0.mk hr0_5
 have HC0_5 := Aside0.mk hc0_5
 clear hr0_5 hc0_5
 have HB := Aside0.mk (Below.refl w.heap.size w)
 have H : ((laws_heldCurve.f k l0_0 l0_1 a1).bind fun t618 => (if t618 < 0 then (none) else ((laws_heldCluster.f k l0_2 l0_3 l0_4 t618).bind fun t619 => (if t619 < 0 then (none) else ((laws_heldPoly.f k l0_5 t619).bind fun t620 => (if t620 < 0 then (none) else (some t620))))))) = some r := h
 clear h
 replace H := Option.bind_eq_some_iff.mp H
 obtain ⟨t618, A30, H⟩ := H
 replace H : (if t618 < 0 then (none) else ((laws_heldCluster.f k l0_2 l0_3 l0_4 t618).bind fun t619 => (if t619 < 0 then (none) else ((laws_heldPoly.f k l0_5 t619).bind fun t620 => (if t620 < 0 then (none) else (some t620)))))) = some r := H
 have A3 := Aside0.mk A30
 clear A30
 by_cases c4 : t618 < 0
 ·rw [if_pos c4] at H
  exact absurd H (by simp)
 ·rw [if_neg c4] at H
  have c4b0 : decide (t618 < 0) = false := decide_eq_false c4
  clear c4
  replace H := Option.bind_eq_some_iff.mp H
  obtain ⟨t619, A50, H⟩ := H
  replace H : (if t619 < 0 then (none) else ((laws_heldPoly.f k l0_5 t619).bind fun t620 => (if t620 < 0 then (none) else (some t620)))) = some r := H
  have A5 := Aside0.mk A50
  clear A50
  by_cases c6 : t619 < 0
  ·rw [if_pos c6] at H
   exact absurd H (by simp)
  ·rw [if_neg c6] at H
   have c6b0 : decide (t619 < 0) = false := decide_eq_false c6
   clear c6
   replace H := Option.bind_eq_some_iff.mp H
   obtain ⟨t620, A70, H⟩ := H
   replace H : (if t620 < 0 then (none) else (some t620)) = some r := H
   have A7 := Aside0.mk A70
   clear A70
   by_cases c8 : t620 < 0
   ·rw [if_pos c8] at H
    exact absurd H (by simp)
   ·rw [if_neg c8] at H
    have c8b0 : decide (t620 < 0) = false := decide_eq_false c8
    clear c8
    obtain rfl := Option.some.inj H
    go_enter Tryd.func14, Tryd.ntmps14
    go_wp2_with (first | ((with_reducible refine gate_dst (N := 2) rfl ?_); refine box_event ?hg (N := 2) ?hd (cs := #[.slice A0_0 l0_0.length c0_0, .slice A0_1 l0_1.length c0_1, .slice A0_2 l0_2.length c0_2, .slice A0_3 l0_3.length c0_3, .slice A0_4 l0_4.length c0_4, .slice A0_5 l0_5.length c0_5]) (t := 41) ?hr ?_; (case hd => rfl); (case hg => rfl); (case hr => first | (go_simp; done) | (go_simp; rfl)); intro gb617 hg w9 hbox hb; have BK617 := Aside0.mk (hbox); have GW617 := Aside0.mk ((by rw [hg]; exact (below_size bq) : w.heap.size ≤ gb617)); have GE617 := Aside0.mk ((by rw [hg]; exact (below_size bq) : w.heap.size ≤ gb617)); replace HB := Aside0.mk (below_step bq hb); clear hb hbox hg; have hcz10_0 := bc0 BK617; have hcz10_1 := bc1 BK617; have hcz10_2 : w9.cell? ⟨gb617, 2, none⟩ = some (.slice A0_2 l0_2.length c0_2) := (blk_cell BK617.out 2).trans rfl; have hcz10_3 : w9.cell? ⟨gb617, 3, none⟩ = some (.slice A0_3 l0_3.length c0_3) := (blk_cell BK617.out 3).trans rfl; have hcz10_4 : w9.cell? ⟨gb617, 4, none⟩ = some (.slice A0_4 l0_4.length c0_4) := (blk_cell BK617.out 4).trans rfl; have hcz10_5 : w9.cell? ⟨gb617, 5, none⟩ = some (.slice A0_5 l0_5.length c0_5) := (blk_cell BK617.out 5).trans rfl; have hfz10_0 := blk_frozen BK617.out 0; have hfz10_1 := blk_frozen BK617.out 1; have hfz10_2 := blk_frozen BK617.out 2; have hfz10_3 := blk_frozen BK617.out 3; have hfz10_4 := blk_frozen BK617.out 4; have hfz10_5 := blk_frozen BK617.out 5) | ((with_reducible refine gate_callee (f := 38) rfl ?_); refine gL 8 Tryd.func38 #[.agg #[.slice A0_0 l0_0.length c0_0, .slice A0_1 l0_1.length c0_1], .int .i64 a1] ?_; (with_reducible refine (laws_heldCurve.calls k _ _ l0_0 _ _ l0_1 a1 t618 _ ?side1 ?side2 ?side3 ?side4 A3.out).mono ?_); (case side1 => exact kc HR0_0); (case side2 => exact HC0_0.out); (case side3 => exact kc HR0_1); (case side4 => exact HC0_1.out); rintro e w11 ⟨rfl, hb⟩; refine ⟨_, rfl, ?_⟩; replace BK617 := Aside0.mk (blk_below (g := gb617) (o := .cells #[.slice A0_0 l0_0.length c0_0, .slice A0_1 l0_1.length c0_1, .slice A0_2 l0_2.length c0_2, .slice A0_3 l0_3.length c0_3, .slice A0_4 l0_4.length c0_4, .slice A0_5 l0_5.length c0_5] 41 (0, 0)) (bk BK617) hb); replace HB := Aside0.mk (below_step bq hb); (try clear hb); have hcz12_0 := bc0 BK617; have hcz12_1 := bc1 BK617; have hcz12_2 : w11.cell? ⟨gb617, 2, none⟩ = some (.slice A0_2 l0_2.length c0_2) := (blk_cell BK617.out 2).trans rfl; have hcz12_3 : w11.cell? ⟨gb617, 3, none⟩ = some (.slice A0_3 l0_3.length c0_3) := (blk_cell BK617.out 3).trans rfl; have hcz12_4 : w11.cell? ⟨gb617, 4, none⟩ = some (.slice A0_4 l0_4.length c0_4) := (blk_cell BK617.out 4).trans rfl; have hcz12_5 : w11.cell? ⟨gb617, 5, none⟩ = some (.slice A0_5 l0_5.length c0_5) := (blk_cell BK617.out 5).trans rfl; have hfz12_0 := blk_frozen BK617.out 0; have hfz12_1 := blk_frozen BK617.out 1; have hfz12_2 := blk_frozen BK617.out 2; have hfz12_3 := blk_frozen BK617.out 3; have hfz12_4 := blk_frozen BK617.out 4; have hfz12_5 := blk_frozen BK617.out 5) | ((with_reducible refine gate_callee (f := 39) rfl ?_); refine gL 14 Tryd.func39 #[.agg #[.slice A0_2 l0_2.length c0_2, .slice A0_3 l0_3.length c0_3, .slice A0_4 l0_4.length c0_4], .int .i64 t618] ?_; (with_reducible refine (laws_heldCluster.calls k _ _ l0_2 _ _ l0_3 _ _ l0_4 t618 t619 _ ?side1 ?side2 ?side3 ?side4 ?side5 ?side6 A5.out).mono ?_); (case side1 => exact kc HR0_2); (case side2 => exact HC0_2.out); (case side3 => exact kc HR0_3); (case side4 => exact HC0_3.out); (case side5 => exact kc HR0_4); (case side6 => exact HC0_4.out); rintro e w13 ⟨rfl, hb⟩; refine ⟨_, rfl, ?_⟩; replace BK617 := Aside0.mk (blk_below (g := gb617) (o := .cells #[.slice A0_0 l0_0.length c0_0, .slice A0_1 l0_1.length c0_1, .slice A0_2 l0_2.length c0_2, .slice A0_3 l0_3.length c0_3, .slice A0_4 l0_4.length c0_4, .slice A0_5 l0_5.length c0_5] 41 (0, 0)) (bk BK617) hb); replace HB := Aside0.mk (below_step bq hb); (try clear hb); have hcz14_0 := bc0 BK617; have hcz14_1 := bc1 BK617; have hcz14_2 : w13.cell? ⟨gb617, 2, none⟩ = some (.slice A0_2 l0_2.length c0_2) := (blk_cell BK617.out 2).trans rfl; have hcz14_3 : w13.cell? ⟨gb617, 3, none⟩ = some (.slice A0_3 l0_3.length c0_3) := (blk_cell BK617.out 3).trans rfl; have hcz14_4 : w13.cell? ⟨gb617, 4, none⟩ = some (.slice A0_4 l0_4.length c0_4) := (blk_cell BK617.out 4).trans rfl; have hcz14_5 : w13.cell? ⟨gb617, 5, none⟩ = some (.slice A0_5 l0_5.length c0_5) := (blk_cell BK617.out 5).trans rfl; have hfz14_0 := blk_frozen BK617.out 0; have hfz14_1 := blk_frozen BK617.out 1; have hfz14_2 := blk_frozen BK617.out 2; have hfz14_3 := blk_frozen BK617.out 3; have hfz14_4 := blk_frozen BK617.out 4; have hfz14_5 := blk_frozen BK617.out 5) | ((with_reducible refine gate_callee (f := 40) rfl ?_); refine gL 20 Tryd.func40 #[.agg #[.slice A0_5 l0_5.length c0_5], .int .i64 t619] ?_; (with_reducible refine (laws_heldPoly.calls k _ _ l0_5 t619 t620 _ ?side1 ?side2 A7.out).mono ?_); (case side1 => exact kc HR0_5); (case side2 => exact HC0_5.out); rintro e w15 ⟨rfl, hb⟩; refine ⟨_, rfl, ?_⟩; replace BK617 := Aside0.mk (blk_below (g := gb617) (o := .cells #[.slice A0_0 l0_0.length c0_0, .slice A0_1 l0_1.length c0_1, .slice A0_2 l0_2.length c0_2, .slice A0_3 l0_3.length c0_3, .slice A0_4 l0_4.length c0_4, .slice A0_5 l0_5.length c0_5] 41 (0, 0)) (bk BK617) hb); replace HB := Aside0.mk (below_step bq hb); (try clear hb)))
    go_ret
    exact ⟨eq_, bq⟩
end Go.Proofs.YtkfdfpcdcabcoaaDoor.QDesx
