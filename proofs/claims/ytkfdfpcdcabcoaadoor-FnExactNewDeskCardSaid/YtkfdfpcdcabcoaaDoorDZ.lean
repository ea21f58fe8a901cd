/- By hand: a region of open order by one relation; what marks rows where they lie; the two new desks; the law on them. -/
import Derived.Orders
import Derived.Test.YtkfdfpcdcabcoaaDoorX
import Derived.Test.YtkfdfpcdcabcoaaDoorDA
import Derived.Test.YtkfdfpcdcabcoaaDoorDO
import Derived.Test.YtkfdfpcdcabcoaaDoorDC
import Derived.Test.YtkfdfpcdcabcoaaDoorDP
import Derived.Test.YtkfdfpcdcabcoaaDoorDI
import Derived.Test.YtkfdfpcdcabcoaaDoorDL
import Derived.Test.YtkfdfpcdcabcoaaDoorDN
import Derived.KernelRfl
namespace Go.Proofs.YtkfdfpcdcabcoaaDoor.QDesx
set_option linter.unusedVariables false
theorem ready_at {md : Region.Mode} {ops : Array Oper} {l : Array Bool} {i : Nat} (h : i ∈ Region.ready md ops l) :
    i < ops.size ∧ l.getD i true = false ∧ ∀ o, ops[i]? = some o → ∀ e ∈ o.after, Region.binds md e = true → l.getD e.on false = true := by
  unfold Region.ready at h
  simp only [List.mem_filter, List.mem_range, Bool.and_eq_true, Bool.not_eq_true'] at h
  obtain ⟨h1, h2, h3⟩ := h
  refine ⟨h1, h2, fun o ho e he hb => ?_⟩
  rw [ho] at h3
  simp only [Option.map_some, Option.getD_some, Array.all_eq_true_iff_forall_mem, Bool.or_eq_true, Bool.not_eq_true'] at h3
  rcases h3 e he with h | h
  · rw [hb] at h; cases h
  · exact h
theorem all_listed {md : Region.Mode} {ops : Array Oper} {l : Array Bool} (hl : l.size = ops.size) (hd : ∀ (i : Nat) (o : Oper), ops[i]? = some o → ∀ e ∈ o.after, e.on < i) (hr : Region.ready md ops l = []) :
    ∀ n j, j < n → j < ops.size → l.getD j true = true := by
  intro n
  induction n with
  | zero => intro j h; omega
  | succ n ih =>
    intro j h hj
    by_cases hjn : j < n
    · exact ih j hjn hj
    · cases hb : l.getD j true with
      | true => rfl
      | false =>
        have : j ∈ Region.ready md ops l := by
          unfold Region.ready
          simp only [List.mem_filter, List.mem_range, Bool.and_eq_true, Bool.not_eq_true']
          refine ⟨hj, hb, ?_⟩
          rw [Array.getElem?_eq_getElem hj]
          simp only [Option.map_some, Option.getD_some, Array.all_eq_true_iff_forall_mem, Bool.or_eq_true]
          intro e he
          right
          have h1 := hd j _ (Array.getElem?_eq_getElem hj) e he
          have h2 := ih e.on (by omega) (by omega)
          rw [Array.getD_eq_getD_getElem?] at h2 ⊢
          rw [Array.getElem?_eq_getElem (by omega)] at h2 ⊢
          exact h2
        rw [hr] at this
        cases this
theorem wpAny_inv {P : Program} {md : Region.Mode} {ops : Array Oper} {Q : Exit → Act → World → Prop} (I : Array Bool → Act → World → Prop)
    (hd : ∀ (i : Nat) (o : Oper), ops[i]? = some o → ∀ e ∈ o.after, e.on < i)
    (hstep : ∀ l a w i, l.size = ops.size → i ∈ Region.ready md ops l → I l a w → wpOp P ops Q i (fun a' w' => I (l.setIfInBounds i true) a' w') a w)
    (hend : ∀ l a w, (∀ j, j < ops.size → l.getD j true = true) → I l a w → Q .normal a w) :
    ∀ fuel l a w, l.size = ops.size → l.toList.count false ≤ fuel → I l a w → wpAny P md ops Q fuel l a w := by
  intro fuel
  induction fuel with
  | zero =>
    intro l a w hl hc hI
    have hr : Region.ready md ops l = [] := by
      cases hr : Region.ready md ops l with
      | nil => rfl
      | cons i xs =>
        have hi := ready_at (md := md) (ops := ops) (l := l) (i := i) (by rw [hr]; simp)
        have hlt : i < l.size := by omega
        have hf : l.toList[i]? = some false := by
          have := hi.2.1
          rw [Array.getD_eq_getD_getElem?, Array.getElem?_eq_getElem hlt] at this
          rw [Array.getElem?_toList, Array.getElem?_eq_getElem hlt]
          exact congrArg some this
        have := List.count_pos_iff.2 (List.mem_of_getElem? hf)
        omega
    exact ⟨hr, hend l a w (fun j hj => all_listed hl hd hr (j + 1) j (by omega) hj) hI⟩
  | succ fuel ih =>
    intro l a w hl hc hI
    refine ⟨fun hr => hend l a w (fun j hj => all_listed hl hd hr (j + 1) j (by omega) hj) hI, fun i hi => ?_⟩
    refine wpOp_mono (fun a' w' h => ih _ a' w' (by simpa using hl) ?_ h) (hstep l a w i hl hi hI)
    have h2 := ready_at hi
    have hlt : i < l.toList.length := by rw [Array.length_toList]; omega
    have hf : l.toList[i] = false := by
      have := h2.2.1
      rw [Array.getD_eq_getD_getElem?, Array.getElem?_eq_getElem (by omega)] at this
      simpa using this
    have h3 : (l.setIfInBounds i true).toList = l.toList.set i true := by simp
    rw [h3, List.count_set hlt, hf]
    have := List.count_pos_iff.2 (List.mem_of_getElem? ((List.getElem?_eq_getElem hlt).trans (congrArg some hf)))
    rw [if_pos (by rfl), if_neg (by decide)]
    omega
theorem deps_of {ops : Array Oper} (h : (List.range ops.size).all (fun i => match ops[i]? with | some o => o.after.all fun e => decide (e.on < i) | none => true) = true) : ∀ (i : Nat) (o : Oper), ops[i]? = some o → ∀ e ∈ o.after, e.on < i := by
  intro i o ho e he
  have hi : i < ops.size := (Array.getElem?_eq_some_iff.1 ho).1
  have h1 := (List.all_eq_true.1 h) i (List.mem_range.2 hi)
  rw [ho] at h1
  simpa using (Array.all_eq_true_iff_forall_mem.1 h1) e he
theorem wpOp_of {P : Program} {ops : Array Oper} {Q : Exit → Act → World → Prop} {K : Act → World → Prop} {i : Nat} {o : Oper} {a : Act} {w : World} (hi : ops[i]? = some o)
    (h : if Region.wanted o (yielded ops a.tmps) = true then Oper.wp P o a w K Q else K (a.put o.dst undef) w) : wpOp P ops Q i K a w := by
  unfold wpOp
  rw [hi]
  dsimp only
  split
  · rename_i h1; rw [if_pos h1] at h; exact .inl h
  · rename_i h1; rw [if_neg h1] at h; exact h
theorem wp_region_inv {P : Program} {ops : Array Oper} {Q : Exit → Act → World → Prop} {id : Nat} {a : Act} {w : World} (hm : P.follows .mixedOrders = true) (I : Array Bool → Act → World → Prop)
    (hd : ∀ (i : Nat) (o : Oper), ops[i]? = some o → ∀ e ∈ o.after, e.on < i) (h0 : I (Array.replicate ops.size false) a { w with drawn := w.drawn + 1 })
    (hstep : ∀ l a w i, l.size = ops.size → i ∈ Region.ready .any ops l → I l a w → wpOp P ops Q i (fun a' w' => I (l.setIfInBounds i true) a' w') a w)
    (hend : ∀ l a w, (∀ j, j < ops.size → l.getD j true = true) → I l a w → Q .normal a w) : (Code.region id ops true).wp P Q a w :=
  wp_region_any hm (wpAny_inv I hd hstep hend ops.size _ a _ (by simp) (Nat.le_trans List.count_le_length (by simp)) h0)
end Go.Proofs.YtkfdfpcdcabcoaaDoor.QDesx
namespace Go.Proofs.YtkfdfpcdcabcoaaDoor.QDesx
open Go.RowKit Go.Proofs.YtkfdfpcdcabcoaaDoorW.PrintWords Go.Proofs.YtkfdfpcdcabcoaaDoorW.PrintLast Go.Proofs.YtkfdfpcdcabcoaaDoorW.PrintMore
set_option linter.unusedVariables false
set_option linter.unusedSimpArgs false

abbrev kll : Kd (List Int) := Kd.slice 2 (Kd.int .i64)
theorem mark_back {W W2 : World} {base : Nat} {ok oki : Nat → Prop} {v u : Value} {xs : List (List Int)} {i : Int} {t2 : List Int} (HH : Kd.H kll 35 W base ok v xs i oki [u]) (hok : ∀ k, W.heap.size ≤ k → ok k) (hk : Kept W W2 oki)
    (hy : Kd.R (Kd.int .i64) 2 W2 base (fun k => oki k ∨ W.heap.size ≤ k) u t2) : Kd.S kll 35 W2 base ok v (xs.set i.toNat t2) :=
  Kd.H_back (Kd.H_kept (Kd.H_widen HH) hk (fun k _ hn hs => hn (.inl hs))) (Kd.M_row hy) (fun k hk => hk.imp id (fun h => ⟨hok k h, h⟩))
theorem mark_back74 {W W2 : World} {base : Nat} {ok oki : Nat → Prop} {v u : Value} {xs : List S74} {i : Int} {t2 : List Int} (HH : Kd.H k74 74 W base ok v xs i oki [u]) (hok : ∀ k, W.heap.size ≤ k → ok k) (hk : Kept W W2 oki)
    (hy : Kd.R (Kd.int .i64) 2 W2 base (fun k => oki k ∨ W.heap.size ≤ k) u t2) : Kd.S k74 74 W2 base ok v (xs.set i.toNat ⟨t2⟩) :=
  Kd.H_back (Kd.H_kept (Kd.H_widen HH) hk (fun k _ hn hs => hn (.inl hs))) (k74_mkM W2 base _ ⟨t2⟩ hy) (fun k hk => hk.imp id (fun h => ⟨hok k h, h⟩))

def laws_markInt64SS.l0 : Nat → List (List Int) → Int → Int → Option (Int × List (List Int))
  | 0, _, _, _ => none
  | k + 1, x0, x1, x5 => if x5 < (x0.length : Int) then (if 0 ≤ x5 then (laws_markInt64S.f k (rd_L1 x0 x5) x1).bind fun t => laws_markInt64SS.l0 k (x0.set x5.toNat t.2) t.1 (wrap64 (x5 + 1)) else none) else some (x1, x0)
def laws_markInt64SS.f (k : Nat) (l0 : List (List Int)) (a1 : Int) : Option (Int × List (List Int)) := laws_markInt64SS.l0 k l0 a1 0
set_option maxHeartbeats 8000000 in
set_option maxRecDepth 100000 in
theorem laws_markInt64SS.calls (k : Nat) (P : Nat → Prop) (u : Value) (l0 : List (List Int)) (a1 r1 : Int) (r2 : List (List Int)) (w0 w : World) (hB : Below w0.heap.size w0 w) (ho : Kd.S kll 35 w w0.heap.size P u l0) (h : laws_markInt64SS.f k l0 a1 = some (r1, r2)) :
    Calls Tryd.prog 72 #[u, .int .i64 a1] w fun e w' => e = .returned (.int .i64 r1) ∧ Kd.S kll 35 w' w0.heap.size (fun k_ => P k_ ∨ w.heap.size ≤ k_) u r2 ∧ Below w0.heap.size w0 w' ∧ Kept w w' P := by
  have HO := Aside0.mk (Kd.S_mono ho (ok' := fun k_ => P k_ ∨ w.heap.size ≤ k_) (fun k_ hk => .inl hk))
  have HK := Aside0.mk (Kept.refl w P)
  have HB := Aside0.mk hB
  have H' := Aside0.mk (show laws_markInt64SS.l0 k l0 a1 0 = some (r1, r2) from h)
  clear hB h ho
  go_enter Tryd.func72, Tryd.ntmps72
  go_wp2
  go_loopg [1, 5] k (fun kq v1 v5 w' => ∃ (x0 : List (List Int)) (x1 : Int) (x5 : Int), v1 = .int .i64 x1 ∧ v5 = .int .i64 x5 ∧ Aside0 (laws_markInt64SS.l0 kq x0 x1 x5 = some (r1, r2)) ∧ Aside0 (kq ≤ k) ∧ Aside0 (Kd.S kll 35 w' w0.heap.size (fun k_ => P k_ ∨ w.heap.size ≤ k_) u x0) ∧ Aside0 (Kept w w' P) ∧ Aside0 (Below w0.heap.size w0 w'))
  case atStart => exact ⟨l0, a1, 0, rfl, rfl, H', ⟨Nat.le_refl _⟩, HO, HK, HB⟩
  case round =>
    clear H' HO HK HB
    obtain ⟨x0, x1, x5, rfl, rfl, HA, HK1, HO, HK, HB⟩ := hrel
    cases gk with
    | zero => exact absurd HA.out (by simp [laws_markInt64SS.l0])
    | succ k1 =>
      have H := HA.out
      clear HA
      simp only [laws_markInt64SS.l0] at H
      by_cases c : x5 < (x0.length : Int)
      · rw [if_pos c] at H
        have cb : decide (x5 < (x0.length : Int)) = true := decide_eq_true c
        revert H
        refine ifr fun c4 H => ?_
        have c4b : decide (0 ≤ x5) = true := decide_eq_true c4
        replace H := Option.bind_eq_some_iff.mp H
        obtain ⟨⟨t1, t2⟩, A0, H⟩ := H
        have A := Aside0.mk A0
        have H' := Aside0.mk (show laws_markInt64SS.l0 k1 (x0.set x5.toNat t2) t1 (wrap64 (x5 + 1)) = some (r1, r2) from H)
        clear A0 H
        obtain ⟨g, cap, rfl, hg1, hg2, cl, hg3⟩ := Kd.S_form HO.out (by omega)
        obtain ⟨oki, c_, hcl, hM, hcell, hoki, HH⟩ := Kd.S_lend HO.out [] x5 c4 c
        obtain ⟨v, rfl, hR⟩ := hM
        obtain ⟨Av, cv, rfl⟩ := Kd.R_slice hR
        have hx : wr.cell? ⟨g, x5.toNat, none⟩ = some (.slice Av (rd_L1 x0 x5).length cv) := by
          have := hcell 0 _ rfl
          rwa [show x5.toNat * kll.sz + 0 = x5.toNat from by show x5.toNat * 1 + 0 = _; omega] at this
        have HR := Aside0.mk hR
        have HH' := Aside0.mk HH
        have HP := Aside0.mk (fun k hk => (hoki k hk).1)
        clear hR HH hoki hcell hcl hg1 hg2 hg3 cl
        replace c := eq_true c
        replace c4 := eq_true c4
        go_wp2_with ((with_reducible refine gate_callee (f := 73) rfl ?_); refine gL 17 Tryd.func73 #[.slice Av (rd_L1 x0 x5).length cv, .int .i64 x1] ?_; (with_reducible refine (laws_markInt64S.calls k1 oki (.slice Av (rd_L1 x0 x5).length cv) (rd_L1 x0 x5) x1 t1 t2 w0 _ ?s1 ?s2 A.out).mono ?_); (case s1 => exact HB.out); (case s2 => exact HR.out); rintro e w8 ⟨rfl, hy, hb, hkp⟩; refine ⟨_, rfl, ?_⟩; replace HO := Aside0.mk (mark_back HH'.out (fun k hk => .inr (Nat.le_trans HK.out.1 hk)) hkp hy); replace HK := Aside0.mk (Kept.then_ HK.out hkp HP.out); replace HB := Aside0.mk hb; clear hb hkp hy)
        go_roundg k1
        case measure => have := HK1.out; omega
        case rel => exact ⟨_, t1, _, rfl, rfl, H', ⟨by have := HK1.out; omega⟩, HO, HK, HB⟩
      · rw [if_neg c] at H
        have cb : decide (x5 < (x0.length : Int)) = false := decide_eq_false c
        clear c
        simp only [Option.some.injEq, Prod.mk.injEq] at H
        obtain ⟨rfl, rfl⟩ := H
        obtain ⟨Ao, co, rfl⟩ := Kd.S_slice HO.out
        go_wp2
        go_ret
        exact ⟨rfl, HO.out, HB.out, HK.out⟩

def laws_markBranchS.l0 : Nat → List S74 → Int → Int → Option (Int × List S74)
  | 0, _, _, _ => none
  | k + 1, x0, x1, x5 => if x5 < (x0.length : Int) then (if 0 ≤ x5 then (laws_markInt64S.f k (rd_T74 x0 x5).f0 x1).bind fun t => laws_markBranchS.l0 k (x0.set x5.toNat ⟨t.2⟩) t.1 (wrap64 (x5 + 1)) else none) else some (x1, x0)
def laws_markBranchS.f (k : Nat) (l0 : List S74) (a1 : Int) : Option (Int × List S74) := laws_markBranchS.l0 k l0 a1 0
set_option maxHeartbeats 8000000 in
set_option maxRecDepth 100000 in
theorem laws_markBranchS.calls (k : Nat) (P : Nat → Prop) (u : Value) (l0 : List S74) (a1 r1 : Int) (r2 : List S74) (w0 w : World) (hB : Below w0.heap.size w0 w) (ho : Kd.S k74 74 w w0.heap.size P u l0) (h : laws_markBranchS.f k l0 a1 = some (r1, r2)) :
    Calls Tryd.prog 71 #[u, .int .i64 a1] w fun e w' => e = .returned (.int .i64 r1) ∧ Kd.S k74 74 w' w0.heap.size (fun k_ => P k_ ∨ w.heap.size ≤ k_) u r2 ∧ Below w0.heap.size w0 w' ∧ Kept w w' P := by
  have HO := Aside0.mk (Kd.S_mono ho (ok' := fun k_ => P k_ ∨ w.heap.size ≤ k_) (fun k_ hk => .inl hk))
  have HK := Aside0.mk (Kept.refl w P)
  have HB := Aside0.mk hB
  have H' := Aside0.mk (show laws_markBranchS.l0 k l0 a1 0 = some (r1, r2) from h)
  clear hB h ho
  go_enter Tryd.func71, Tryd.ntmps71
  go_wp2
  go_loopg [1, 5] k (fun kq v1 v5 w' => ∃ (x0 : List S74) (x1 : Int) (x5 : Int), v1 = .int .i64 x1 ∧ v5 = .int .i64 x5 ∧ Aside0 (laws_markBranchS.l0 kq x0 x1 x5 = some (r1, r2)) ∧ Aside0 (kq ≤ k) ∧ Aside0 (Kd.S k74 74 w' w0.heap.size (fun k_ => P k_ ∨ w.heap.size ≤ k_) u x0) ∧ Aside0 (Kept w w' P) ∧ Aside0 (Below w0.heap.size w0 w'))
  case atStart => exact ⟨l0, a1, 0, rfl, rfl, H', ⟨Nat.le_refl _⟩, HO, HK, HB⟩
  case round =>
    clear H' HO HK HB
    obtain ⟨x0, x1, x5, rfl, rfl, HA, HK1, HO, HK, HB⟩ := hrel
    cases gk with
    | zero => exact absurd HA.out (by simp [laws_markBranchS.l0])
    | succ k1 =>
      have H := HA.out
      clear HA
      simp only [laws_markBranchS.l0] at H
      by_cases c : x5 < (x0.length : Int)
      · rw [if_pos c] at H
        have cb : decide (x5 < (x0.length : Int)) = true := decide_eq_true c
        revert H
        refine ifr fun c4 H => ?_
        have c4b : decide (0 ≤ x5) = true := decide_eq_true c4
        replace H := Option.bind_eq_some_iff.mp H
        obtain ⟨⟨t1, t2⟩, A0, H⟩ := H
        have A := Aside0.mk A0
        have H' := Aside0.mk (show laws_markBranchS.l0 k1 (x0.set x5.toNat ⟨t2⟩) t1 (wrap64 (x5 + 1)) = some (r1, r2) from H)
        clear A0 H
        obtain ⟨g, cap, rfl, hg1, hg2, cl, hg3⟩ := Kd.S_form HO.out (by omega)
        obtain ⟨oki, c_, hcl, hM, hcell, hoki, HH⟩ := Kd.S_lend HO.out z74 x5 c4 c
        obtain ⟨v, rfl, hR⟩ := k74_openM hM
        obtain ⟨Av, cv, rfl⟩ := Kd.R_slice hR
        have hx : wr.cell? ⟨g, x5.toNat, none⟩ = some (.slice Av (rd_T74 x0 x5).f0.length cv) := by
          have := hcell 0 _ rfl
          rwa [show x5.toNat * k74.sz + 0 = x5.toNat from by show x5.toNat * 1 + 0 = _; omega] at this
        have HR := Aside0.mk hR
        have HH' := Aside0.mk HH
        have HP := Aside0.mk (fun k hk => (hoki k hk).1)
        clear hR HH hoki hcell hcl hg1 hg2 hg3 cl hM
        replace c := eq_true c
        replace c4 := eq_true c4
        go_wp2_with ((with_reducible refine gate_callee (f := 73) rfl ?_); refine gL 18 Tryd.func73 #[.slice Av (rd_T74 x0 x5).f0.length cv, .int .i64 x1] ?_; (with_reducible refine (laws_markInt64S.calls k1 oki (.slice Av (rd_T74 x0 x5).f0.length cv) (rd_T74 x0 x5).f0 x1 t1 t2 w0 _ ?s1 ?s2 A.out).mono ?_); (case s1 => exact HB.out); (case s2 => exact HR.out); rintro e w8 ⟨rfl, hy, hb, hkp⟩; refine ⟨_, rfl, ?_⟩; replace HO := Aside0.mk (mark_back74 HH'.out (fun k hk => .inr (Nat.le_trans HK.out.1 hk)) hkp hy); replace HK := Aside0.mk (Kept.then_ HK.out hkp HP.out); replace HB := Aside0.mk hb; clear hb hkp hy)
        go_roundg k1
        case measure => have := HK1.out; omega
        case rel => exact ⟨_, t1, _, rfl, rfl, H', ⟨by have := HK1.out; omega⟩, HO, HK, HB⟩
      · rw [if_neg c] at H
        have cb : decide (x5 < (x0.length : Int)) = false := decide_eq_false c
        clear c
        simp only [Option.some.injEq, Prod.mk.injEq] at H
        obtain ⟨rfl, rfl⟩ := H
        obtain ⟨Ao, co, rfl⟩ := Kd.S_slice HO.out
        go_wp2
        go_ret
        exact ⟨rfl, HO.out, HB.out, HK.out⟩
end Go.Proofs.YtkfdfpcdcabcoaaDoor.QDesx
namespace Go.Proofs.YtkfdfpcdcabcoaaDoor.QDesx
open Go.RowKit Go.Proofs.YtkfdfpcdcabcoaaDoorW.PrintWords Go.Proofs.YtkfdfpcdcabcoaaDoorW.PrintLast Go.Proofs.YtkfdfpcdcabcoaaDoorW.PrintMore
set_option linter.unusedVariables false
set_option linter.unusedSimpArgs false
abbrev kl2 : Kd (List Int) := Kd.slice 2 (Kd.int .i64)
def T : Nat → Prop := fun _ => True
/-- What each part reads as. -/
def Ph (B : Nat) (V : Value) (c1 c2 c3 : List Int) : Nat → Value → World → Prop
  | 0, v, _ => v = .agg #[V]
  | 1, v, W => Kd.R k74 74 W B T v [⟨[2, 3]⟩]
  | 2, v, W => Kd.R (Kd.int .i64) 2 W B T v [0]
  | 3, v, W => Kd.R kl2 35 W B T v [[0]]
  | 4, v, W => ∃ x y, v = .agg #[x, y] ∧ Kd.R k74 74 W B T x [⟨[2, 3]⟩] ∧ Kd.R kl2 35 W B T y [[0]]
  | 5, v, _ => v = .agg #[V]
  | 6, v, W => ∃ x y z, v = .agg #[x, y, z] ∧ Kd.R (Kd.int .i64) 2 W B T x c1 ∧ Kd.R (Kd.int .i64) 2 W B T y c2 ∧ Kd.R (Kd.int .i64) 2 W B T z c3
  | 7, v, W => Kd.R (Kd.int .i64) 2 W B T v [0, 2, 1]
  | 8, v, W => Kd.R (Kd.int .i64) 2 W B T v [3, 0, 1]
  | 9, v, W => Kd.R kl2 35 W B T v [[0, 2, 1], [3, 0, 1]]
  | 10, v, W => ∃ x, v = .agg #[x] ∧ Kd.R kl2 35 W B T x [[0, 2, 1], [3, 0, 1]]
  | 11, v, W => ∃ a b c d e f, v = .agg #[a, b, c, d, e, f] ∧ Kd.R k74 74 W B T a [⟨[2, 3]⟩] ∧ Kd.R kl2 35 W B T b [[0]] ∧ Kd.R (Kd.int .i64) 2 W B T c c1 ∧ Kd.R (Kd.int .i64) 2 W B T d c2 ∧ Kd.R (Kd.int .i64) 2 W B T e c3 ∧ Kd.R kl2 35 W B T f [[0, 2, 1], [3, 0, 1]]
  | _, _, _ => True
theorem Ph_below {B : Nat} {V : Value} {c1 c2 c3 : List Int} {W W' : World} (hb : Below W.heap.size W W') : ∀ {j : Nat} {v : Value}, Ph B V c1 c2 c3 j v W → Ph B V c1 c2 c3 j v W'
  | 0, _, h => h
  | 1, _, h => Kd.R_below h hb
  | 2, _, h => Kd.R_below h hb
  | 3, _, h => Kd.R_below h hb
  | 4, _, ⟨x, y, e, h, h'⟩ => ⟨x, y, e, Kd.R_below h hb, Kd.R_below h' hb⟩
  | 5, _, h => h
  | 6, _, ⟨x, y, z, e, h, h', h2⟩ => ⟨x, y, z, e, Kd.R_below h hb, Kd.R_below h' hb, Kd.R_below h2 hb⟩
  | 7, _, h => Kd.R_below h hb
  | 8, _, h => Kd.R_below h hb
  | 9, _, h => Kd.R_below h hb
  | 10, _, ⟨x, e, h⟩ => ⟨x, e, Kd.R_below h hb⟩
  | 11, _, ⟨a, b, c, d, e, f, e', h0, h1, h2, h3, h4, h5⟩ => ⟨a, b, c, d, e, f, e', Kd.R_below h0 hb, Kd.R_below h1 hb, Kd.R_below h2 hb, Kd.R_below h3 hb, Kd.R_below h4 hb, Kd.R_below h5 hb⟩
  | _ + 12, _, _ => trivial
def acts (g0 g1 : Nat) (V : Value) (t : Nat → Value) : Act := ⟨#[.pointer (some ⟨g0, 0, none⟩), .pointer (some ⟨g1, 0, none⟩), V, .agg #[V], t 0, t 1, t 2, t 3, t 4, t 5, t 6, t 7, t 8, t 9, t 10, t 11], []⟩
theorem acts_put (g0 g1 : Nat) (V : Value) (t : Nat → Value) (i : Nat) (hi : i < 12) (v : Value) : (acts g0 g1 V t).put (some (i + 4)) v = acts g0 g1 V (fun j => if j = i then v else t j) := by
  have : i = 0 ∨ i = 1 ∨ i = 2 ∨ i = 3 ∨ i = 4 ∨ i = 5 ∨ i = 6 ∨ i = 7 ∨ i = 8 ∨ i = 9 ∨ i = 10 ∨ i = 11 := by omega
  rcases this with rfl | rfl | rfl | rfl | rfl | rfl | rfl | rfl | rfl | rfl | rfl | rfl <;> rfl
def nil6 : Array Value := #[.slice none 0 0, .slice none 0 0, .slice none 0 0, .slice none 0 0, .slice none 0 0, .slice none 0 0]
/-- What holds while parts come up. -/
structure J (B : Nat) (w0 : World) (g0 g1 : Nat) (V : Value) (c1 c2 c3 : List Int) (l : Array Bool) (t : Nat → Value) (W : World) : Prop where
  b : Below B w0 W
  s : B ≤ W.heap.size
  h0 : W.heap[g0]? = some (.cells nil6 41 (0, 0))
  h1 : W.heap[g1]? = some (.cells #[V] 74 (0, 0))
  v : Kd.R (Kd.int .i64) 2 W B T V [2, 3]
  p : ∀ j, j < 12 → l.getD j true = true → Ph B V c1 c2 c3 j (t j) W
theorem J_step {B : Nat} {w0 : World} {g0 g1 : Nat} {V : Value} {c1 c2 c3 : List Int} {l : Array Bool} {t : Nat → Value} {W W' : World} (h : J B w0 g0 g1 V c1 c2 c3 l t W) (hb : Below W.heap.size W W') (i : Nat) {v : Value} (hv : Ph B V c1 c2 c3 i v W') :
    J B w0 g0 g1 V c1 c2 c3 (l.setIfInBounds i true) (fun j => if j = i then v else t j) W' where
  b := below_then h.b h.s hb
  s := Nat.le_trans h.s hb.size
  h0 := (hb.block g0 (blk_lt h.h0)).trans h.h0
  h1 := (hb.block g1 (blk_lt h.h1)).trans h.h1
  v := Kd.R_below h.v hb
  p := fun j hj hl => by
    by_cases e : j = i
    · subst e; rw [if_pos rfl]; exact hv
    · rw [if_neg e]
      rw [Array.getD_eq_getD_getElem?, Array.getElem?_setIfInBounds_ne (Ne.symm e), ← Array.getD_eq_getD_getElem?] at hl
      exact Ph_below hb (h.p j hj hl)
/-- What holds behind all. -/
def Fin (B : Nat) (w0 : World) (g0 : Nat) (c1 c2 c3 : List Int) (a : Act) (W : World) : Prop :=
  a.defers = [] ∧ a.tmps.getD 0 undef = .pointer (some ⟨g0, 0, none⟩) ∧ Below B w0 W ∧ ∃ a b c d e f, W.heap[g0]? = some (.cells #[a, b, c, d, e, f] 41 (0, 0)) ∧ Kd.R k74 74 W B T a [⟨[2, 3]⟩] ∧ Kd.R kl2 35 W B T b [[0]] ∧ Kd.R (Kd.int .i64) 2 W B T c c1 ∧ Kd.R (Kd.int .i64) 2 W B T d c2 ∧ Kd.R (Kd.int .i64) 2 W B T e c3 ∧ Kd.R kl2 35 W B T f [[0, 2, 1], [3, 0, 1]]
def In (B : Nat) (w0 : World) (g0 g1 : Nat) (V : Value) (c1 c2 c3 : List Int) (l : Array Bool) (a : Act) (W : World) : Prop :=
  (l.getD 12 true = false → ∃ t, a = acts g0 g1 V t ∧ J B w0 g0 g1 V c1 c2 c3 l t W) ∧ (l.getD 12 true = true → (∀ j, j < 12 → l.getD j true = true) ∧ Fin B w0 g0 c1 c2 c3 a W)
theorem In_step {B : Nat} {w0 : World} {g0 g1 : Nat} {V : Value} {c1 c2 c3 : List Int} {l : Array Bool} {t : Nat → Value} {W W' : World} (h : J B w0 g0 g1 V c1 c2 c3 l t W) (hl : l.getD 12 true = false) (hb : Below W.heap.size W W') (i : Nat) (hi : i < 12) {v : Value} (hv : Ph B V c1 c2 c3 i v W') :
    In B w0 g0 g1 V c1 c2 c3 (l.setIfInBounds i true) ((acts g0 g1 V t).put (some (i + 4)) v) W' := by
  have e : (l.setIfInBounds i true).getD 12 true = false := by
    rw [Array.getD_eq_getD_getElem?, Array.getElem?_setIfInBounds_ne (by omega), ← Array.getD_eq_getD_getElem?]; exact hl
  exact ⟨fun _ => ⟨_, acts_put g0 g1 V t i hi v, J_step h hb i hv⟩, fun h2 => by rw [e] at h2; cases h2⟩
theorem far6 {α : Type} {d : Kd α} {e B g : Nat} {W : World} {v : Value} {xs : List α} {cells : Array Value} (h : d.R e W B T v xs) (hb : W.heap[g]? = some (.cells cells 41 (0, 0))) (ht : ∀ q, q ∈ e :: d.E → q ≠ 41) (u0 u1 u2 u3 u4 u5 : Value) :
    d.R e ((((((W.setCell ⟨g, 0, none⟩ u0).setCell ⟨g, 1, none⟩ u1).setCell ⟨g, 2, none⟩ u2).setCell ⟨g, 3, none⟩ u3).setCell ⟨g, 4, none⟩ u4).setCell ⟨g, 5, none⟩ u5) B T v xs :=
  Kd.R_mono (Kd.R_far (p := ⟨g, 5, none⟩) (Kd.R_far (p := ⟨g, 4, none⟩) (Kd.R_far (p := ⟨g, 3, none⟩) (Kd.R_far (p := ⟨g, 2, none⟩) (Kd.R_far (p := ⟨g, 1, none⟩) (Kd.R_far (p := ⟨g, 0, none⟩) (Kd.R_types h hb ht) (fun _ hk => hk.2) u0) (fun _ hk => hk.2) u1) (fun _ hk => hk.2) u2) (fun _ hk => hk.2) u3) (fun _ hk => hk.2) u4) (fun _ hk => hk.2) u5) (fun _ _ => trivial)
theorem below_of_grown {W W' : World} (h : W.grownBy W' none) : Below W.heap.size W W' := ⟨h.os, h.tape, h.output, h.size, fun k hk => h.block k hk (by simp)⟩
end Go.Proofs.YtkfdfpcdcabcoaaDoor.QDesx
namespace Go.Proofs.YtkfdfpcdcabcoaaDoor.QDesx
open Go.RowKit Go.Proofs.YtkfdfpcdcabcoaaDoorW.PrintWords Go.Proofs.YtkfdfpcdcabcoaaDoorW.PrintLast Go.Proofs.YtkfdfpcdcabcoaaDoorW.PrintMore
set_option linter.unusedVariables false
set_option linter.unusedSimpArgs false
set_option maxHeartbeats 8000000 in
set_option maxRecDepth 100000 in
theorem spec_l20New.calls (k : Nat) (c1 c2 c3 : List Int) (w : World) (h : spec_l07Branch.f k [2, 3] 3 = some (c1, c2, c3)) :
    Calls Tryd.prog 29 #[] w fun e w' => ∃ v0 v1 v2 v3 v4 v5 : Value, e = .returned (.agg #[v0, v1, v2, v3, v4, v5]) ∧ Kd.R k74 74 w' w.heap.size T v0 [⟨[2, 3]⟩] ∧ Kd.R kl2 35 w' w.heap.size T v1 [[0]] ∧ Kd.R (Kd.int .i64) 2 w' w.heap.size T v2 c1 ∧ Kd.R (Kd.int .i64) 2 w' w.heap.size T v3 c2 ∧ Kd.R (Kd.int .i64) 2 w' w.heap.size T v4 c3 ∧ Kd.R kl2 35 w' w.heap.size T v5 [[0, 2, 1], [3, 0, 1]] ∧ Below w.heap.size w w' := by
  have A1 := Aside0.mk h
  clear h
  have HB := Aside0.mk (Below.refl w.heap.size w)
  go_enter Tryd.func29, Tryd.ntmps29
  go_wp2_with (first | ((with_reducible refine gate_dst (N := 0) rfl ?_); refine box_event ?hg (N := 0) ?hd (cs := nil6) (t := 41) ?hr ?_; (case hd => rfl); (case hg => rfl); (case hr => first | (go_simp; done) | (go_simp; rfl)); intro g0 hg w1 hbox hb; have BK0 := Aside0.mk hbox; have GE0 := Aside0.mk ((by rw [hg]; exact Nat.le_refl _) : w.heap.size ≤ g0); replace HB := Aside0.mk (below_step HB.out hb); clear hb hbox hg) | ((with_reducible refine gate_dst (N := 2) rfl ?_); refine Kd.R_lit (Kd.int .i64) w.heap.size 2 ?hg (N := 2) ?hd (xs := [2, 3]) (inner := [.int .i64 2, .int .i64 3]) (ok := T) (okp := T) ?hr ?hp (fun _ hk => hk) trivial HB.out HB.out.size (by simp) ?_; (case hd => rfl); (case hg => rfl); (case hr => first | (go_simp; done) | (go_simp; rfl)); (case hp => exact (Reps.one (show Kd.M (Kd.int .i64) _ _ _ 2 [.int .i64 2] from rfl) (Reps.one (show Kd.M (Kd.int .i64) _ _ _ 3 [.int .i64 3] from rfl) (Reps.none _ _)))); intro V w2 hV hb hg_ hnew_; have HV := Aside0.mk hV; replace BK0 := Aside0.mk (blk_below BK0.out (below_of_grown hg_)); replace HB := Aside0.mk hb; clear hg_ hnew_ hb hV; obtain ⟨AV, cV, eV⟩ := Kd.R_slice HV.out; subst eV) | ((with_reducible refine gate_dst (N := 1) rfl ?_); refine box_event ?hg (N := 1) ?hd (cs := #[.slice none 0 0]) (t := 74) ?hr ?_; (case hd => rfl); (case hg => rfl); (case hr => first | (go_simp; done) | (go_simp; rfl)); intro g1 hg w3 hbox hb; have BK1 := Aside0.mk hbox; have GE1 := Aside0.mk ((by rw [hg]; exact HB.out.size) : w.heap.size ≤ g1); have NE := Aside0.mk ((by rw [hg]; exact Nat.ne_of_lt (blk_lt BK0.out)) : g0 ≠ g1); replace BK0 := Aside0.mk (blk_below BK0.out hb); replace HV := Aside0.mk (Kd.R_below HV.out hb); replace HB := Aside0.mk (below_step HB.out hb); clear hb hbox hg; have hcz := bc0 BK1; have hfz := blk_frozen BK1.out 0))
  refine wp_region_inv (by kernel_rfl) (In w.heap.size w g0 g1 (.slice AV 2 cV) c1 c2 c3) (deps_of (by kernel_rfl)) ?start ?step ?fin
  case start =>
    refine ⟨fun _ => ⟨fun _ => undef, rfl, ?_⟩, fun h2 => by simp at h2⟩
    have hb1 : Below w.heap.size w (w3.setCell ⟨g1, 0, none⟩ (.slice AV 2 cV)).drew := below_drew1 (below_set HB.out GE1.out)
    exact ⟨hb1, hb1.size, blk_far BK0.out NE.out _, blk_put BK1.out 0 _ rfl, Kd.R_mono (Kd.R_drew (Kd.R_far (p := ⟨g1, 0, none⟩) (Kd.R_types HV.out BK1.out (by decide)) (fun _ hk => hk.2) _)) (fun _ _ => trivial), fun j hj hl => by
      have h2 : (Array.replicate 13 false).getD j true = true := hl
      rw [Array.getD_eq_getD_getElem?, Array.getElem?_replicate, if_pos (by omega)] at h2
      cases h2⟩
  case fin =>
    intro l a W hl hI
    obtain ⟨hd, hp, hb, v0, v1, v2, v3, v4, v5, hc, h0, h1, h2, h3, h4, h5⟩ := (hI.2 (hl 12 (by decide))).2
    go_wp2
    exact bodyPost_ret (results_cell_row rfl _ _ g0 41 #[v0, v1, v2, v3, v4, v5] (0, 0) _ hp hc Tryd.underlying41 rfl (by kernel_rfl)) hd ⟨_, _, _, _, _, _, rfl, h0, h1, h2, h3, h4, h5, hb⟩
  case step =>
    intro l a W i hl hr hI
    obtain ⟨hi, hf, hdep⟩ := ready_at hr
    have h12 : l.getD 12 true = false := by
      cases h : l.getD 12 true with
      | false => rfl
      | true =>
        have hi : i < 13 := hi
        by_cases e : i = 12
        · rw [e, h] at hf; cases hf
        · have := (hI.2 h).1 i (by omega); rw [this] at hf; cases hf
    obtain ⟨t, rfl, hJ⟩ := hI.1 h12
    clear hI hr
    have hJ' := Aside0.mk hJ
    have dep : ∀ j, j < 12 → l.getD j false = true → Ph w.heap.size (.slice AV 2 cV) c1 c2 c3 j (t j) W := fun j hj h => hJ.p j hj (by
      rw [Array.getD_eq_getD_getElem?] at h ⊢
      cases e : l[j]? with
      | none => rfl
      | some b => rw [e] at h; exact h)
    have hlt : i < 13 := hi
    have : i = 0 ∨ i = 1 ∨ i = 2 ∨ i = 3 ∨ i = 4 ∨ i = 5 ∨ i = 6 ∨ i = 7 ∨ i = 8 ∨ i = 9 ∨ i = 10 ∨ i = 11 ∨ i = 12 := by omega
    clear hi hlt
    have hcz := blk_cell hJ.h1 0
    rcases this with rfl | rfl | rfl | rfl | rfl | rfl | rfl | rfl | rfl | rfl | rfl | rfl | rfl
    · refine wpOp_of rfl (event_step (v := .agg #[.slice AV 2 cV]) (w1 := W) rfl ?_ (In_step hJ h12 (Below.refl _ _) 0 (by decide) rfl))
      simp only [acts]
      first | (go_simp; done) | (go_simp; rfl)
    · have h0 : t 0 = .agg #[.slice AV 2 cV] := dep 0 (by decide) (hdep _ rfl ⟨0, .data⟩ (by simp) rfl)
      refine wpOp_of rfl (Kd.R_lit_step k74 (w0 := w) w.heap.size 74 rfl (N := 5) rfl (xs := [⟨[2, 3]⟩]) (inner := [.slice AV 2 cV]) (ok := T) (okp := T) ?_ ?_ (fun _ h => h) trivial hJ.b hJ.s (by simp) ?_)
      · simp only [acts]
        first | (go_simp; done) | (go_simp; rfl)
      · exact Reps.one (k74_mkM _ _ _ ⟨[2, 3]⟩ hJ.v) (Reps.none _ _)
      · exact fun v1 w1 hr hb hg _ => In_step hJ h12 (below_of_grown hg) 1 (by decide) hr
    · refine wpOp_of rfl (Kd.R_lit_step (Kd.int .i64) (w0 := w) w.heap.size 2 rfl (N := 6) rfl (xs := [0]) (inner := [.int .i64 0]) (ok := T) (okp := T) ?_ (Reps.one (show Kd.M (Kd.int .i64) _ _ _ 0 [.int .i64 0] from rfl) (Reps.none _ _)) (fun _ h => h) trivial hJ.b hJ.s (by simp) (fun v1 w1 hr hb hg _ => In_step hJ h12 (below_of_grown hg) 2 (by decide) hr))
      simp only [acts]
      first | (go_simp; done) | (go_simp; rfl)
    · skip
      have h2 := dep 2 (by decide) (hdep _ rfl ⟨2, .data⟩ (by simp) rfl)
      obtain ⟨A2, d2, e2⟩ := Kd.R_slice h2
      rw [e2] at h2
      refine wpOp_of rfl (Kd.R_lit_step kl2 (w0 := w) w.heap.size 35 rfl (N := 7) rfl (xs := [[0]]) (inner := [.slice A2 1 d2]) (ok := T) (okp := T) ?_ (Reps.one (Kd.M_row h2) (Reps.none _ _)) (fun _ h => h) trivial hJ.b hJ.s (by simp) (fun v1 w1 hr hb hg _ => In_step hJ h12 (below_of_grown hg) 3 (by decide) hr))
      simp only [acts]
      first | (go_simp; done) | (go_simp; rfl)
    · skip
      have h1 := dep 1 (by decide) (hdep _ rfl ⟨1, .data⟩ (by simp) rfl)
      obtain ⟨A1, d1, e1⟩ := Kd.R_slice h1
      rw [e1] at h1
      have h3 := dep 3 (by decide) (hdep _ rfl ⟨3, .data⟩ (by simp) rfl)
      obtain ⟨A3, d3, e3⟩ := Kd.R_slice h3
      rw [e3] at h3
      refine wpOp_of rfl (event_step (v := .agg #[.slice A1 1 d1, .slice A3 1 d3]) (w1 := W) rfl ?_ (In_step hJ h12 (Below.refl _ _) 4 (by decide) ⟨_, _, rfl, h1, h3⟩))
      simp only [acts]
      first | (go_simp; done) | (go_simp; rfl)
    · refine wpOp_of rfl (event_step (v := .agg #[.slice AV 2 cV]) (w1 := W) rfl ?_ (In_step hJ h12 (Below.refl _ _) 5 (by decide) rfl))
      simp only [acts]
      first | (go_simp; done) | (go_simp; rfl)
    · have h5 : t 5 = .agg #[.slice AV 2 cV] := dep 5 (by decide) (hdep _ rfl ⟨5, .data⟩ (by simp) rfl)
      refine wpOp_of rfl (goes_ Tryd.func60 (by kernel_rfl) rfl #[.agg #[.slice AV 2 cV], .int .i64 3] rfl rfl rfl (by simp [acts, Act.eval, h5]) ?_)
      refine (spec_l07Branch.calls k AV cV [2, 3] 3 c1 c2 c3 W (Kd.R_reads' hJ.v).2.2 (Kd.R_reads' hJ.v).2.1 A1.out).mono ?_
      rintro e W' ⟨x, y, z, rfl, h0, h1, h2, hb⟩
      exact ⟨_, rfl, In_step hJ h12 hb 6 (by decide) ⟨x, y, z, rfl, Kd.R_mono (Kd.R_lower h0 hJ.s) (fun _ _ => trivial), Kd.R_mono (Kd.R_lower h1 hJ.s) (fun _ _ => trivial), Kd.R_mono (Kd.R_lower h2 hJ.s) (fun _ _ => trivial)⟩⟩
    · refine wpOp_of rfl (Kd.R_lit_step (Kd.int .i64) (w0 := w) w.heap.size 2 rfl (N := 11) rfl (xs := [0, 2, 1]) (inner := [.int .i64 0, .int .i64 2, .int .i64 1]) (ok := T) (okp := T) ?_ (Reps.one (show Kd.M (Kd.int .i64) _ _ _ 0 [.int .i64 0] from rfl) (Reps.one (show Kd.M (Kd.int .i64) _ _ _ 2 [.int .i64 2] from rfl) (Reps.one (show Kd.M (Kd.int .i64) _ _ _ 1 [.int .i64 1] from rfl) (Reps.none _ _)))) (fun _ h => h) trivial hJ.b hJ.s (by simp) (fun v1 w1 hr hb hg _ => In_step hJ h12 (below_of_grown hg) 7 (by decide) hr))
      simp only [acts]
      first | (go_simp; done) | (go_simp; rfl)
    · refine wpOp_of rfl (Kd.R_lit_step (Kd.int .i64) (w0 := w) w.heap.size 2 rfl (N := 12) rfl (xs := [3, 0, 1]) (inner := [.int .i64 3, .int .i64 0, .int .i64 1]) (ok := T) (okp := T) ?_ (Reps.one (show Kd.M (Kd.int .i64) _ _ _ 3 [.int .i64 3] from rfl) (Reps.one (show Kd.M (Kd.int .i64) _ _ _ 0 [.int .i64 0] from rfl) (Reps.one (show Kd.M (Kd.int .i64) _ _ _ 1 [.int .i64 1] from rfl) (Reps.none _ _)))) (fun _ h => h) trivial hJ.b hJ.s (by simp) (fun v1 w1 hr hb hg _ => In_step hJ h12 (below_of_grown hg) 8 (by decide) hr))
      simp only [acts]
      first | (go_simp; done) | (go_simp; rfl)
    · skip
      have h7 := dep 7 (by decide) (hdep _ rfl ⟨7, .data⟩ (by simp) rfl)
      obtain ⟨A7, d7, e7⟩ := Kd.R_slice h7
      rw [e7] at h7
      have h8 := dep 8 (by decide) (hdep _ rfl ⟨8, .data⟩ (by simp) rfl)
      obtain ⟨A8, d8, e8⟩ := Kd.R_slice h8
      rw [e8] at h8
      refine wpOp_of rfl (Kd.R_lit_step kl2 (w0 := w) w.heap.size 35 rfl (N := 13) rfl (xs := [[0, 2, 1], [3, 0, 1]]) (inner := [.slice A7 3 d7, .slice A8 3 d8]) (ok := T) (okp := T) ?_ (Reps.one (Kd.M_row h7) (Reps.one (Kd.M_row h8) (Reps.none _ _))) (fun _ h => h) trivial hJ.b hJ.s (by simp) (fun v1 w1 hr hb hg _ => In_step hJ h12 (below_of_grown hg) 9 (by decide) hr))
      simp only [acts]
      first | (go_simp; done) | (go_simp; rfl)
    · skip
      have h9 := dep 9 (by decide) (hdep _ rfl ⟨9, .data⟩ (by simp) rfl)
      obtain ⟨A9, d9, e9⟩ := Kd.R_slice h9
      rw [e9] at h9
      refine wpOp_of rfl (event_step (v := .agg #[.slice A9 2 d9]) (w1 := W) rfl ?_ (In_step hJ h12 (Below.refl _ _) 10 (by decide) ⟨_, rfl, h9⟩))
      simp only [acts]
      first | (go_simp; done) | (go_simp; rfl)
    · obtain ⟨x0, x1, e4, h0, h1⟩ := dep 4 (by decide) (hdep _ rfl ⟨4, .data⟩ (by simp) rfl)
      obtain ⟨x2, x3, x4, e6, h2, h3, h4⟩ := dep 6 (by decide) (hdep _ rfl ⟨6, .data⟩ (by simp) rfl)
      obtain ⟨x5, e10, h5⟩ := dep 10 (by decide) (hdep _ rfl ⟨10, .data⟩ (by simp) rfl)
      obtain ⟨A0, d0, rfl⟩ := Kd.R_slice h0
      obtain ⟨A1, d1, rfl⟩ := Kd.R_slice h1
      obtain ⟨A2, d2, rfl⟩ := Kd.R_slice h2
      obtain ⟨A3, d3, rfl⟩ := Kd.R_slice h3
      obtain ⟨A4, d4, rfl⟩ := Kd.R_slice h4
      obtain ⟨A5, d5, rfl⟩ := Kd.R_slice h5
      refine wpOp_of rfl (event_step (v := .agg #[.slice A0 1 d0, .slice A1 1 d1, .slice A2 c1.length d2, .slice A3 c2.length d3, .slice A4 c3.length d4, .slice A5 2 d5]) (w1 := W) rfl ?_ (In_step hJ h12 (Below.refl _ _) 11 (by decide) ⟨_, _, _, _, _, _, rfl, h0, h1, h2, h3, h4, h5⟩))
      simp only [acts]
      first | (go_simp; done) | (go_simp; rfl)
    · obtain ⟨x0, x1, x2, x3, x4, x5, e11, h0, h1, h2, h3, h4, h5⟩ := dep 11 (by decide) (hdep _ rfl ⟨11, .data⟩ (by simp) rfl)
      obtain ⟨A0, d0, rfl⟩ := Kd.R_slice h0
      obtain ⟨A1, d1, rfl⟩ := Kd.R_slice h1
      obtain ⟨A2, d2, rfl⟩ := Kd.R_slice h2
      obtain ⟨A3, d3, rfl⟩ := Kd.R_slice h3
      obtain ⟨A4, d4, rfl⟩ := Kd.R_slice h4
      obtain ⟨A5, d5, rfl⟩ := Kd.R_slice h5
      have hz0 := blk_cell hJ.h0 0
      have hz1 := blk_cell hJ.h0 1
      have hz2 := blk_cell hJ.h0 2
      have hz3 := blk_cell hJ.h0 3
      have hz4 := blk_cell hJ.h0 4
      have hz5 := blk_cell hJ.h0 5
      have hf0 := blk_frozen hJ.h0 0
      have hf1 := blk_frozen hJ.h0 1
      have hf2 := blk_frozen hJ.h0 2
      have hf3 := blk_frozen hJ.h0 3
      have hf4 := blk_frozen hJ.h0 4
      have hf5 := blk_frozen hJ.h0 5
      simp only [nil6, List.getElem?_toArray, List.getElem?_cons_zero, List.getElem?_cons_succ] at hz0 hz1 hz2 hz3 hz4 hz5
      have hall : ∀ j, j < 12 → l.getD j true = true := fun j hj => by
        have : l.getD j false = true := by
          have : j = 0 ∨ j = 1 ∨ j = 2 ∨ j = 3 ∨ j = 4 ∨ j = 5 ∨ j = 6 ∨ j = 7 ∨ j = 8 ∨ j = 9 ∨ j = 10 ∨ j = 11 := by omega
          rcases this with rfl | rfl | rfl | rfl | rfl | rfl | rfl | rfl | rfl | rfl | rfl | rfl <;> exact hdep _ rfl ⟨_, .phase⟩ (by simp) rfl
        rw [Array.getD_eq_getD_getElem?] at this ⊢
        cases e : l[j]? with
        | none => rfl
        | some b => rw [e] at this; exact this
      have hH0 := Aside0.mk hJ.h0
      have hB0 := Aside0.mk hJ.b
      clear hdep dep hJ
      refine wpOp_of rfl ?_
      simp only [acts]
      go_simp
      refine ⟨fun h => ?_, fun _ => ⟨fun j hj => ?_, rfl, rfl, below_set (below_set (below_set (below_set (below_set (below_set hB0.out GE0.out) GE0.out) GE0.out) GE0.out) GE0.out) GE0.out, _, _, _, _, _, _, ?_, far6 h0 hH0.out (by decide) _ _ _ _ _ _, far6 h1 hH0.out (by decide) _ _ _ _ _ _, far6 h2 hH0.out (by decide) _ _ _ _ _ _, far6 h3 hH0.out (by decide) _ _ _ _ _ _, far6 h4 hH0.out (by decide) _ _ _ _ _ _, far6 h5 hH0.out (by decide) _ _ _ _ _ _⟩⟩
      · rw [Array.getD_eq_getD_getElem?, Array.getElem?_setIfInBounds_self] at h
        split at h <;> cases h
      · rw [Array.getD_eq_getD_getElem?, Array.getElem?_setIfInBounds_ne (by omega), ← Array.getD_eq_getD_getElem?]
        exact hall j hj
      · exact blk_put (blk_put (blk_put (blk_put (blk_put (blk_put hH0.out 0 _ rfl) 1 _ rfl) 2 _ rfl) 3 _ rfl) 4 _ rfl) 5 _ rfl
end Go.Proofs.YtkfdfpcdcabcoaaDoor.QDesx
namespace Go.Proofs.YtkfdfpcdcabcoaaDoor.QDesx
open Go.RowKit Go.Proofs.YtkfdfpcdcabcoaaDoorW.PrintWords Go.Proofs.YtkfdfpcdcabcoaaDoorW.PrintLast Go.Proofs.YtkfdfpcdcabcoaaDoorW.PrintMore
set_option linter.unusedVariables false
set_option linter.unusedSimpArgs false
set_option maxHeartbeats 8000000 in
set_option maxRecDepth 100000 in
theorem spec_NewDesk.calls (k : Nat) (c1 c2 c3 : List Int) (w : World) (h : spec_l07Branch.f k [2, 3] 3 = some (c1, c2, c3)) :
    Calls Tryd.prog 10 #[] w fun e w' => ∃ v0 v1 v2 v3 v4 v5 : Value, e = .returned (.agg #[v0, v1, v2, v3, v4, v5]) ∧ Kd.R k74 74 w' w.heap.size T v0 [⟨[2, 3]⟩] ∧ Kd.R kl2 35 w' w.heap.size T v1 [[0]] ∧ Kd.R (Kd.int .i64) 2 w' w.heap.size T v2 c1 ∧ Kd.R (Kd.int .i64) 2 w' w.heap.size T v3 c2 ∧ Kd.R (Kd.int .i64) 2 w' w.heap.size T v4 c3 ∧ Kd.R kl2 35 w' w.heap.size T v5 [[0, 2, 1], [3, 0, 1]] ∧ Below w.heap.size w w' := by
  have A1 := Aside0.mk h
  clear h
  have HB := Aside0.mk (Below.refl w.heap.size w)
  go_enter Tryd.func10, Tryd.ntmps10
  go_wp2_with (first | ((with_reducible refine gate_dst (N := 0) rfl ?_); refine box_event ?hg (N := 0) ?hd (cs := nil6) (t := 41) ?hr ?_; (case hd => rfl); (case hg => rfl); (case hr => first | (go_simp; done) | (go_simp; rfl)); intro g0 hg w1 hbox hb; have BK0 := Aside0.mk hbox; have GE0 := Aside0.mk ((by rw [hg]; exact Nat.le_refl _) : w.heap.size ≤ g0); replace HB := Aside0.mk (below_step HB.out hb); clear hb hbox hg) | ((with_reducible refine gate_callee (f := 29) rfl ?_); refine gL 1 Tryd.func29 #[] ?_; (with_reducible refine (spec_l20New.calls k c1 c2 c3 _ A1.out).mono ?_); rintro e w2 ⟨v0, v1, v2, v3, v4, v5, rfl, h0, h1, h2, h3, h4, h5, hb⟩; refine ⟨_, rfl, ?_⟩; obtain ⟨A0, d0, rfl⟩ := Kd.R_slice h0; obtain ⟨A1, d1, rfl⟩ := Kd.R_slice h1; obtain ⟨A2, d2, rfl⟩ := Kd.R_slice h2; obtain ⟨A3, d3, rfl⟩ := Kd.R_slice h3; obtain ⟨A4, d4, rfl⟩ := Kd.R_slice h4; obtain ⟨A5, d5, rfl⟩ := Kd.R_slice h5; replace BK0 := Aside0.mk (blk_below BK0.out hb); have H0 := Aside0.mk (Kd.R_lower h0 HB.out.size); have H1 := Aside0.mk (Kd.R_lower h1 HB.out.size); have H2 := Aside0.mk (Kd.R_lower h2 HB.out.size); have H3 := Aside0.mk (Kd.R_lower h3 HB.out.size); have H4 := Aside0.mk (Kd.R_lower h4 HB.out.size); have H5 := Aside0.mk (Kd.R_lower h5 HB.out.size); replace HB := Aside0.mk (below_step HB.out hb); clear hb h0 h1 h2 h3 h4 h5; have hz0 : w2.cell? ⟨g0, 0, none⟩ = some (.slice none 0 0) := (blk_cell BK0.out 0).trans rfl; have hz1 : w2.cell? ⟨g0, 1, none⟩ = some (.slice none 0 0) := (blk_cell BK0.out 1).trans rfl; have hz2 : w2.cell? ⟨g0, 2, none⟩ = some (.slice none 0 0) := (blk_cell BK0.out 2).trans rfl; have hz3 : w2.cell? ⟨g0, 3, none⟩ = some (.slice none 0 0) := (blk_cell BK0.out 3).trans rfl; have hz4 : w2.cell? ⟨g0, 4, none⟩ = some (.slice none 0 0) := (blk_cell BK0.out 4).trans rfl; have hz5 : w2.cell? ⟨g0, 5, none⟩ = some (.slice none 0 0) := (blk_cell BK0.out 5).trans rfl; have hf0 := blk_frozen BK0.out 0; have hf1 := blk_frozen BK0.out 1; have hf2 := blk_frozen BK0.out 2; have hf3 := blk_frozen BK0.out 3; have hf4 := blk_frozen BK0.out 4; have hf5 := blk_frozen BK0.out 5))
  refine bodyPost_ret (results_cell_row rfl _ _ g0 41 _ (0, 0) _ rfl (blk_put (blk_put (blk_put (blk_put (blk_put (blk_put BK0.out 0 _ rfl) 1 _ rfl) 2 _ rfl) 3 _ rfl) 4 _ rfl) 5 _ rfl) Tryd.underlying41 rfl (by kernel_rfl)) rfl ?_
  exact ⟨_, _, _, _, _, _, rfl, far6 H0.out BK0.out (by decide) _ _ _ _ _ _, far6 H1.out BK0.out (by decide) _ _ _ _ _ _, far6 H2.out BK0.out (by decide) _ _ _ _ _ _, far6 H3.out BK0.out (by decide) _ _ _ _ _ _, far6 H4.out BK0.out (by decide) _ _ _ _ _ _, far6 H5.out BK0.out (by decide) _ _ _ _ _ _, below_set (below_set (below_set (below_set (below_set (below_set HB.out GE0.out) GE0.out) GE0.out) GE0.out) GE0.out) GE0.out⟩
end Go.Proofs.YtkfdfpcdcabcoaaDoor.QDesx
namespace Go.Proofs.YtkfdfpcdcabcoaaDoor.QDesx
open Go.RowKit Go.Proofs.YtkfdfpcdcabcoaaDoorW.PrintWords Go.Proofs.YtkfdfpcdcabcoaaDoorW.PrintLast Go.Proofs.YtkfdfpcdcabcoaaDoorW.PrintMore
set_option linter.unusedVariables false
set_option linter.unusedSimpArgs false
/-- The blocks of part i. -/
def Pt (own : Nat → Nat) (N i : Nat) : Nat → Prop := fun k => own k = i ∧ k < N
def laws_markCurve.f (k : Nat) (l0 : List S74) (l1 : List (List Int)) (a : Int) : Option (Int × List S74 × List (List Int)) := (laws_markBranchS.f k l0 a).bind fun x => (laws_markInt64SS.f k l1 x.1).bind fun y => some (y.1, x.2, y.2)
set_option maxHeartbeats 8000000 in
set_option maxRecDepth 100000 in
theorem laws_markCurve.calls (k : Nat) (own : Nat → Nat) (N : Nat) (v0 v1 : Value) (l0 : List S74) (l1 : List (List Int)) (a r1 : Int) (r2 : List S74) (r3 : List (List Int)) (w0 w : World) (hB : Below w0.heap.size w0 w) (hN : N ≤ w.heap.size)
    (h0 : Kd.S k74 74 w w0.heap.size (Pt own N 0) v0 l0) (h1 : Kd.S kll 35 w w0.heap.size (Pt own N 1) v1 l1) (h : laws_markCurve.f k l0 l1 a = some (r1, r2, r3)) :
    Calls Tryd.prog 35 #[.agg #[v0, v1], .int .i64 a] w fun e w' => e = .returned (.int .i64 r1) ∧ Kd.S k74 74 w' w0.heap.size (fun k => Pt own N 0 k ∨ N ≤ k) v0 r2 ∧ Kd.S kll 35 w' w0.heap.size (fun k => Pt own N 1 k ∨ N ≤ k) v1 r3 ∧ Below w0.heap.size w0 w' ∧ Kept w w' (fun k => Pt own N 0 k ∨ Pt own N 1 k) := by
  unfold laws_markCurve.f at h
  obtain ⟨⟨x1, x2⟩, hx, h⟩ := Option.bind_eq_some_iff.mp h
  obtain ⟨⟨y1, y2⟩, hy, h⟩ := Option.bind_eq_some_iff.mp h
  simp only [Option.some.injEq, Prod.mk.injEq] at h
  obtain ⟨rfl, rfl, rfl⟩ := h
  have AX := Aside0.mk hx
  have AY := Aside0.mk hy
  have HB := Aside0.mk hB
  have HN := Aside0.mk hN
  have HK := Aside0.mk (Kept.refl w (fun k => Pt own N 0 k ∨ Pt own N 1 k))
  obtain ⟨A0, d0, rfl⟩ := Kd.S_slice h0
  obtain ⟨A1, d1, rfl⟩ := Kd.S_slice h1
  have H0 := Aside0.mk h0
  have H1 := Aside0.mk h1
  clear hx hy hB hN h0 h1
  have hu := Tryd.underlying31
  go_enter Tryd.func35, Tryd.ntmps35
  go_wp2_with (first | ((with_reducible refine gate_dst (N := 2) rfl ?_); refine box_event ?hg (N := 2) ?hd (cs := #[.slice A0 l0.length d0, .slice A1 l1.length d1]) (t := 31) ?hr ?_; (case hd => rfl); (case hg => rfl); (case hr => first | (go_simp; done) | (go_simp; rfl)); intro g hg w1 hbox hb; have BK := Aside0.mk hbox; have GN := Aside0.mk ((by rw [hg]; exact HN.out) : N ≤ g); replace H0 := Aside0.mk (Kd.S_below H0.out hb); replace H1 := Aside0.mk (Kd.S_below H1.out hb); replace HK := Aside0.mk (HK.out.below hb); replace HN := Aside0.mk (Nat.le_trans HN.out hb.size); replace HB := Aside0.mk (below_step HB.out hb); clear hb hbox hg; have hz0 := bc0 BK; have hz1 := bc1 BK; have hf0 := blk_frozen BK.out 0; have hf1 := blk_frozen BK.out 1) | ((with_reducible refine gate_callee (f := 71) rfl ?_); refine gL 8 Tryd.func71 #[.slice A0 l0.length d0, .int .i64 a] ?_; (with_reducible refine (laws_markBranchS.calls k (Pt own N 0) (.slice A0 l0.length d0) l0 a x1 x2 w0 _ ?s1 ?s2 AX.out).mono ?_); (case s1 => exact HB.out); (case s2 => exact H0.out); rintro e w2 ⟨rfl, hy, hb, hkp⟩; refine ⟨_, rfl, ?_⟩; replace H0 := Aside0.mk (Kd.S_mono hy (ok' := fun k => Pt own N 0 k ∨ N ≤ k) (fun k hk => hk.imp id (Nat.le_trans HN.out))); replace H1 := Aside0.mk (Kd.S_kept H1.out hkp (fun k hk hs => by have := hk.1.symm.trans hs.1; cases this)); replace BK := Aside0.mk (blk_kept BK.out hkp (fun hs => Nat.lt_irrefl _ (Nat.lt_of_lt_of_le hs.2 GN.out))); replace HN := Aside0.mk (Nat.le_trans HN.out hkp.1); replace HK := Aside0.mk (HK.out.then_ hkp (fun _ h => .inl (.inl h))); replace HB := Aside0.mk hb; clear hb hkp hy; have hz0 := bc0 BK; have hz1 := bc1 BK; have hf0 := blk_frozen BK.out 0; have hf1 := blk_frozen BK.out 1) | ((with_reducible refine gate_callee (f := 72) rfl ?_); refine gL 12 Tryd.func72 #[.slice A1 l1.length d1, .int .i64 x1] ?_; (with_reducible refine (laws_markInt64SS.calls k (Pt own N 1) (.slice A1 l1.length d1) l1 x1 y1 y2 w0 _ ?s1 ?s2 AY.out).mono ?_); (case s1 => exact HB.out); (case s2 => exact H1.out); rintro e w3 ⟨rfl, hy, hb, hkp⟩; refine ⟨_, rfl, ?_⟩; replace H1 := Aside0.mk (Kd.S_mono hy (ok' := fun k => Pt own N 1 k ∨ N ≤ k) (fun k hk => hk.imp id (Nat.le_trans HN.out))); replace H0 := Aside0.mk (Kd.S_kept H0.out hkp (fun k hk hs => hk.elim (fun hk => by have := hk.1.symm.trans hs.1; cases this) (fun hk => Nat.lt_irrefl _ (Nat.lt_of_lt_of_le hs.2 hk)))); replace HK := Aside0.mk (HK.out.then_ hkp (fun _ h => .inl (.inr h))); replace HB := Aside0.mk hb; clear hb hkp hy))
  go_ret
  exact ⟨rfl, H0.out, H1.out, HB.out, HK.out⟩
def laws_markPoly.f (k : Nat) (l : List (List Int)) (a : Int) : Option (Int × List (List Int)) := laws_markInt64SS.f k l a
set_option maxHeartbeats 8000000 in
set_option maxRecDepth 100000 in
theorem laws_markPoly.calls (k : Nat) (own : Nat → Nat) (N i : Nat) (v0 : Value) (l0 : List (List Int)) (a r1 : Int) (r2 : List (List Int)) (w0 w : World) (hB : Below w0.heap.size w0 w) (hN : N ≤ w.heap.size)
    (h0 : Kd.S kll 35 w w0.heap.size (Pt own N i) v0 l0) (h : laws_markPoly.f k l0 a = some (r1, r2)) :
    Calls Tryd.prog 37 #[.agg #[v0], .int .i64 a] w fun e w' => e = .returned (.int .i64 r1) ∧ Kd.S kll 35 w' w0.heap.size (fun k => Pt own N i k ∨ N ≤ k) v0 r2 ∧ Below w0.heap.size w0 w' ∧ Kept w w' (Pt own N i) := by
  have AX := Aside0.mk (show laws_markInt64SS.f k l0 a = some (r1, r2) from h)
  have HB := Aside0.mk hB
  have HN := Aside0.mk hN
  have HK := Aside0.mk (Kept.refl w (Pt own N i))
  obtain ⟨A0, d0, rfl⟩ := Kd.S_slice h0
  have H0 := Aside0.mk h0
  clear h hB hN h0
  have hu := Tryd.underlying39
  go_enter Tryd.func37, Tryd.ntmps37
  go_wp2_with (first | ((with_reducible refine gate_dst (N := 2) rfl ?_); refine box_event ?hg (N := 2) ?hd (cs := #[.slice A0 l0.length d0]) (t := 39) ?hr ?_; (case hd => rfl); (case hg => rfl); (case hr => first | (go_simp; done) | (go_simp; rfl)); intro g hg w1 hbox hb; have BK := Aside0.mk hbox; replace H0 := Aside0.mk (Kd.S_below H0.out hb); replace HK := Aside0.mk (HK.out.below hb); replace HN := Aside0.mk (Nat.le_trans HN.out hb.size); replace HB := Aside0.mk (below_step HB.out hb); clear hb hbox hg; have hz0 := bc0 BK; have hf0 := blk_frozen BK.out 0) | ((with_reducible refine gate_callee (f := 72) rfl ?_); refine gL 8 Tryd.func72 #[.slice A0 l0.length d0, .int .i64 a] ?_; (with_reducible refine (laws_markInt64SS.calls k (Pt own N i) (.slice A0 l0.length d0) l0 a r1 r2 w0 _ ?s1 ?s2 AX.out).mono ?_); (case s1 => exact HB.out); (case s2 => exact H0.out); rintro e w2 ⟨rfl, hy, hb, hkp⟩; refine ⟨_, rfl, ?_⟩; replace H0 := Aside0.mk (Kd.S_mono hy (ok' := fun k => Pt own N i k ∨ N ≤ k) (fun k hk => hk.imp id (Nat.le_trans HN.out))); replace HK := Aside0.mk (HK.out.then_ hkp (fun _ h => .inl h)); replace HB := Aside0.mk hb; clear hb hkp hy))
  go_ret
  exact ⟨rfl, H0.out, HB.out, HK.out⟩
end Go.Proofs.YtkfdfpcdcabcoaaDoor.QDesx
namespace Go.Proofs.YtkfdfpcdcabcoaaDoor.QDesx
open Go.RowKit Go.Proofs.YtkfdfpcdcabcoaaDoorW.PrintWords Go.Proofs.YtkfdfpcdcabcoaaDoorW.PrintLast Go.Proofs.YtkfdfpcdcabcoaaDoorW.PrintMore
set_option linter.unusedVariables false
set_option linter.unusedSimpArgs false
theorem Pt_ne {own : Nat → Nat} {N i j k : Nat} (h : Pt own N i k ∨ N ≤ k) (hij : i ≠ j) (h' : Pt own N j k) : False := h.elim (fun h => hij (h.1.symm.trans h'.1)) (fun h => Nat.lt_irrefl _ (Nat.lt_of_lt_of_le h'.2 h))
def laws_markDesk.f (k : Nat) (l0 : List S74) (l1 : List (List Int)) (l2 l3 l4 : List Int) (l5 : List (List Int)) (a : Int) : Option (Int × List S74 × List (List Int) × List Int × List Int × List Int × List (List Int)) :=
  (laws_markCurve.f k l0 l1 a).bind fun x => (laws_markCluster.f k l2 l3 l4 x.1).bind fun y => (laws_markPoly.f k l5 y.1).bind fun z => some (z.1, x.2.1, x.2.2, y.2.1, y.2.2.1, y.2.2.2, z.2)
set_option maxHeartbeats 8000000 in
set_option maxRecDepth 100000 in
theorem laws_markDesk.calls (k : Nat) (own : Nat → Nat) (N : Nat) (v0 v1 v2 v3 v4 v5 : Value) (l0 : List S74) (l1 : List (List Int)) (l2 l3 l4 : List Int) (l5 : List (List Int)) (a m : Int) (r0 : List S74) (r1 : List (List Int)) (r2 r3 r4 : List Int) (r5 : List (List Int)) (w0 w : World) (hB : Below w0.heap.size w0 w) (hN : N ≤ w.heap.size)
    (h0 : Kd.S k74 74 w w0.heap.size (Pt own N 0) v0 l0) (h1 : Kd.S kll 35 w w0.heap.size (Pt own N 1) v1 l1) (h2 : Kd.R (Kd.int .i64) 2 w w0.heap.size (Pt own N 2) v2 l2) (h3 : Kd.R (Kd.int .i64) 2 w w0.heap.size (Pt own N 3) v3 l3) (h4 : Kd.R (Kd.int .i64) 2 w w0.heap.size (Pt own N 4) v4 l4) (h5 : Kd.S kll 35 w w0.heap.size (Pt own N 5) v5 l5)
    (h : laws_markDesk.f k l0 l1 l2 l3 l4 l5 a = some (m, r0, r1, r2, r3, r4, r5)) :
    Calls Tryd.prog 13 #[.agg #[v0, v1, v2, v3, v4, v5], .int .i64 a] w fun e w' => e = .returned (.int .i64 m) ∧ Kd.R k74 74 w' w0.heap.size T v0 r0 ∧ Kd.R kll 35 w' w0.heap.size T v1 r1 ∧ Kd.R (Kd.int .i64) 2 w' w0.heap.size T v2 r2 ∧ Kd.R (Kd.int .i64) 2 w' w0.heap.size T v3 r3 ∧ Kd.R (Kd.int .i64) 2 w' w0.heap.size T v4 r4 ∧ Kd.R kll 35 w' w0.heap.size T v5 r5 ∧ Below w0.heap.size w0 w' ∧ Kept w w' (fun k => k < N) := by
  unfold laws_markDesk.f at h
  obtain ⟨⟨x1, x2, x3⟩, hx, h⟩ := Option.bind_eq_some_iff.mp h
  obtain ⟨⟨y1, y2, y3, y4⟩, hy, h⟩ := Option.bind_eq_some_iff.mp h
  obtain ⟨⟨z1, z2⟩, hz, h⟩ := Option.bind_eq_some_iff.mp h
  simp only [Option.some.injEq, Prod.mk.injEq] at h
  obtain ⟨rfl, rfl, rfl, rfl, rfl, rfl, rfl⟩ := h
  have AX := Aside0.mk hx
  have AY := Aside0.mk hy
  have AZ := Aside0.mk hz
  have HB := Aside0.mk hB
  have HN := Aside0.mk hN
  have HK := Aside0.mk (Kept.refl w (fun k => k < N))
  obtain ⟨A0, d0, rfl⟩ := Kd.S_slice h0
  obtain ⟨A1, d1, rfl⟩ := Kd.S_slice h1
  obtain ⟨A2, d2, rfl⟩ := Kd.R_slice h2
  obtain ⟨A3, d3, rfl⟩ := Kd.R_slice h3
  obtain ⟨A4, d4, rfl⟩ := Kd.R_slice h4
  obtain ⟨A5, d5, rfl⟩ := Kd.S_slice h5
  have H0 := Aside0.mk (Kd.S_mono h0 (ok' := fun k => Pt own N 0 k ∨ N ≤ k) (fun _ h => .inl h))
  have H1 := Aside0.mk (Kd.S_mono h1 (ok' := fun k => Pt own N 1 k ∨ N ≤ k) (fun _ h => .inl h))
  have H2 := Aside0.mk h2
  have H3 := Aside0.mk h3
  have H4 := Aside0.mk h4
  have H5 := Aside0.mk h5
  have I0 := Aside0.mk h0
  have I1 := Aside0.mk h1
  clear hx hy hz hB hN h0 h1 h2 h3 h4 h5
  have hu := Tryd.underlying41
  go_enter Tryd.func13, Tryd.ntmps13
  go_wp2_with (first | ((with_reducible refine gate_dst (N := 2) rfl ?_); refine box_event ?hg (N := 2) ?hd (cs := #[.slice A0 l0.length d0, .slice A1 l1.length d1, .slice A2 l2.length d2, .slice A3 l3.length d3, .slice A4 l4.length d4, .slice A5 l5.length d5]) (t := 41) ?hr ?_; (case hd => rfl); (case hg => rfl); (case hr => first | (go_simp; done) | (go_simp; rfl)); intro g hg w1 hbox hb; have BK := Aside0.mk hbox; have GN := Aside0.mk ((by rw [hg]; exact HN.out) : N ≤ g); replace I0 := Aside0.mk (Kd.S_below I0.out hb); replace I1 := Aside0.mk (Kd.S_below I1.out hb); replace H2 := Aside0.mk (Kd.R_below H2.out hb); replace H3 := Aside0.mk (Kd.R_below H3.out hb); replace H4 := Aside0.mk (Kd.R_below H4.out hb); replace H5 := Aside0.mk (Kd.S_below H5.out hb); replace HK := Aside0.mk (HK.out.below hb); replace HN := Aside0.mk (Nat.le_trans HN.out hb.size); replace HB := Aside0.mk (below_step HB.out hb); clear hb hbox hg; have hz0 : w1.cell? ⟨g, 0, none⟩ = some (.slice A0 l0.length d0) := (blk_cell BK.out 0).trans rfl; have hz1 : w1.cell? ⟨g, 1, none⟩ = some (.slice A1 l1.length d1) := (blk_cell BK.out 1).trans rfl) | ((with_reducible refine gate_callee (f := 35) rfl ?_); refine gL 8 Tryd.func35 #[.agg #[.slice A0 l0.length d0, .slice A1 l1.length d1], .int .i64 a] ?_; (with_reducible refine (laws_markCurve.calls k own N (.slice A0 l0.length d0) (.slice A1 l1.length d1) l0 l1 a x1 x2 x3 w0 _ ?s1 ?s2 ?s3 ?s4 AX.out).mono ?_); (case s1 => exact HB.out); (case s2 => exact HN.out); (case s3 => exact I0.out); (case s4 => exact I1.out); rintro e w2 ⟨rfl, hy0, hy1, hb, hkp⟩; refine ⟨_, rfl, ?_⟩; replace H0 := Aside0.mk hy0; replace H1 := Aside0.mk hy1; replace H2 := Aside0.mk (Kd.R_kept H2.out hkp (fun k hk hs => hs.elim (fun hs => by have := hk.1.symm.trans hs.1; cases this) (fun hs => by have := hk.1.symm.trans hs.1; cases this))); replace H3 := Aside0.mk (Kd.R_kept H3.out hkp (fun k hk hs => hs.elim (fun hs => by have := hk.1.symm.trans hs.1; cases this) (fun hs => by have := hk.1.symm.trans hs.1; cases this))); replace H4 := Aside0.mk (Kd.R_kept H4.out hkp (fun k hk hs => hs.elim (fun hs => by have := hk.1.symm.trans hs.1; cases this) (fun hs => by have := hk.1.symm.trans hs.1; cases this))); replace H5 := Aside0.mk (Kd.S_kept H5.out hkp (fun k hk hs => hs.elim (fun hs => by have := hk.1.symm.trans hs.1; cases this) (fun hs => by have := hk.1.symm.trans hs.1; cases this))); replace BK := Aside0.mk (blk_kept BK.out hkp (fun hs => hs.elim (fun hs => Nat.lt_irrefl _ (Nat.lt_of_lt_of_le hs.2 GN.out)) (fun hs => Nat.lt_irrefl _ (Nat.lt_of_lt_of_le hs.2 GN.out)))); replace HK := Aside0.mk (HK.out.then_ hkp (fun k hs => .inl (hs.elim (·.2) (·.2)))); replace HN := Aside0.mk (Nat.le_trans HN.out hkp.1); replace HB := Aside0.mk hb; clear hb hkp hy0 hy1; have hz2 : w2.cell? ⟨g, 2, none⟩ = some (.slice A2 l2.length d2) := (blk_cell BK.out 2).trans rfl; have hz3 : w2.cell? ⟨g, 3, none⟩ = some (.slice A3 l3.length d3) := (blk_cell BK.out 3).trans rfl; have hz4 : w2.cell? ⟨g, 4, none⟩ = some (.slice A4 l4.length d4) := (blk_cell BK.out 4).trans rfl) | ((with_reducible refine gate_callee (f := 36) rfl ?_); refine gL 12 Tryd.func36 #[.agg #[.slice A2 l2.length d2, .slice A3 l3.length d3, .slice A4 l4.length d4], .int .i64 x1] ?_; (with_reducible refine (laws_markCluster.calls k (Pt own N 2) (.slice A2 l2.length d2) l2 (Pt own N 3) (.slice A3 l3.length d3) l3 (Pt own N 4) (.slice A4 l4.length d4) l4 x1 y1 y2 y3 y4 w0 _ ?s1 ?s2 ?n1 ?n2 ?s3 ?n3 ?n4 ?s4 ?n5 ?n6 AY.out).mono ?_); (case s1 => exact HB.out); (case s2 => exact H2.out); (case s3 => exact H3.out); (case s4 => exact H4.out); (case n1 => exact fun k h => Pt_ne (.inl h) (by decide)); (case n2 => exact fun k h => Pt_ne (.inl h) (by decide)); (case n3 => exact fun k h => Pt_ne (.inl h) (by decide)); (case n4 => exact fun k h => Pt_ne (.inl h) (by decide)); (case n5 => exact fun k h => Pt_ne (.inl h) (by decide)); (case n6 => exact fun k h => Pt_ne (.inl h) (by decide)); rintro e w3 ⟨rfl, hy2, hy3, hy4, hb, hkp⟩; refine ⟨_, rfl, ?_⟩; have HN' := HN.out; have J2 := Aside0.mk (Kd.R_mono hy2 (ok' := fun k => (Pt own N 2 k ∨ Pt own N 3 k ∨ Pt own N 4 k) ∨ N ≤ k) (fun k hk => hk.imp id (Nat.le_trans HN'))); have J3 := Aside0.mk (Kd.R_mono hy3 (ok' := fun k => (Pt own N 2 k ∨ Pt own N 3 k ∨ Pt own N 4 k) ∨ N ≤ k) (fun k hk => hk.imp id (Nat.le_trans HN'))); have J4 := Aside0.mk (Kd.R_mono hy4 (ok' := fun k => (Pt own N 2 k ∨ Pt own N 3 k ∨ Pt own N 4 k) ∨ N ≤ k) (fun k hk => hk.imp id (Nat.le_trans HN'))); replace H0 := Aside0.mk (Kd.S_kept H0.out hkp (fun k hk hs => hs.elim (Pt_ne hk (by decide)) (fun hs => hs.elim (Pt_ne hk (by decide)) (Pt_ne hk (by decide))))); replace H1 := Aside0.mk (Kd.S_kept H1.out hkp (fun k hk hs => hs.elim (Pt_ne hk (by decide)) (fun hs => hs.elim (Pt_ne hk (by decide)) (Pt_ne hk (by decide))))); replace H5 := Aside0.mk (Kd.S_kept H5.out hkp (fun k hk hs => hs.elim (Pt_ne (.inl hk) (by decide)) (fun hs => hs.elim (Pt_ne (.inl hk) (by decide)) (Pt_ne (.inl hk) (by decide))))); replace BK := Aside0.mk (blk_kept BK.out hkp (fun hs => hs.elim (fun hs => Nat.lt_irrefl _ (Nat.lt_of_lt_of_le hs.2 GN.out)) (fun hs => hs.elim (fun hs => Nat.lt_irrefl _ (Nat.lt_of_lt_of_le hs.2 GN.out)) (fun hs => Nat.lt_irrefl _ (Nat.lt_of_lt_of_le hs.2 GN.out))))); replace HK := Aside0.mk (HK.out.then_ hkp (fun k hs => .inl (hs.elim (·.2) (fun hs => hs.elim (·.2) (·.2))))); replace HN := Aside0.mk (Nat.le_trans HN.out hkp.1); replace HB := Aside0.mk hb; clear hb hkp hy2 hy3 hy4 HN'; have hz5 : w3.cell? ⟨g, 5, none⟩ = some (.slice A5 l5.length d5) := (blk_cell BK.out 5).trans rfl) | ((with_reducible refine gate_callee (f := 37) rfl ?_); refine gL 16 Tryd.func37 #[.agg #[.slice A5 l5.length d5], .int .i64 y1] ?_; (with_reducible refine (laws_markPoly.calls k own N 5 (.slice A5 l5.length d5) l5 y1 z1 z2 w0 _ ?s1 ?s2 ?s3 AZ.out).mono ?_); (case s1 => exact HB.out); (case s2 => exact HN.out); (case s3 => exact H5.out); rintro e w4 ⟨rfl, hy5, hb, hkp⟩; refine ⟨_, rfl, ?_⟩; have K5 := Aside0.mk hy5; replace H0 := Aside0.mk (Kd.S_kept H0.out hkp (fun k hk hs => Pt_ne hk (by decide) hs)); replace H1 := Aside0.mk (Kd.S_kept H1.out hkp (fun k hk hs => Pt_ne hk (by decide) hs)); replace J2 := Aside0.mk (Kd.R_kept J2.out hkp (fun k hk hs => hk.elim (fun hk => hk.elim (fun hk => Pt_ne (.inl hk) (by decide) hs) (fun hk => hk.elim (fun hk => Pt_ne (.inl hk) (by decide) hs) (fun hk => Pt_ne (.inl hk) (by decide) hs))) (fun hk => Pt_ne (i := 0) (.inr hk) (by decide) hs))); replace J3 := Aside0.mk (Kd.R_kept J3.out hkp (fun k hk hs => hk.elim (fun hk => hk.elim (fun hk => Pt_ne (.inl hk) (by decide) hs) (fun hk => hk.elim (fun hk => Pt_ne (.inl hk) (by decide) hs) (fun hk => Pt_ne (.inl hk) (by decide) hs))) (fun hk => Pt_ne (i := 0) (.inr hk) (by decide) hs))); replace J4 := Aside0.mk (Kd.R_kept J4.out hkp (fun k hk hs => hk.elim (fun hk => hk.elim (fun hk => Pt_ne (.inl hk) (by decide) hs) (fun hk => hk.elim (fun hk => Pt_ne (.inl hk) (by decide) hs) (fun hk => Pt_ne (.inl hk) (by decide) hs))) (fun hk => Pt_ne (i := 0) (.inr hk) (by decide) hs))); replace HK := Aside0.mk (HK.out.then_ hkp (fun k hs => .inl hs.2)); replace HB := Aside0.mk hb; clear hb hkp hy5))
  go_ret
  exact ⟨rfl, Kd.R_mono (Kd.S_R H0.out) (fun _ _ => trivial), Kd.R_mono (Kd.S_R H1.out) (fun _ _ => trivial), Kd.R_mono J2.out (fun _ _ => trivial), Kd.R_mono J3.out (fun _ _ => trivial), Kd.R_mono J4.out (fun _ _ => trivial), Kd.R_mono (Kd.S_R K5.out) (fun _ _ => trivial), HB.out, HK.out⟩
end Go.Proofs.YtkfdfpcdcabcoaaDoor.QDesx
namespace Go.Proofs.YtkfdfpcdcabcoaaDoor.QDesx
open Go.RowKit Go.Proofs.YtkfdfpcdcabcoaaDoorW.PrintWords Go.Proofs.YtkfdfpcdcabcoaaDoorW.PrintLast Go.Proofs.YtkfdfpcdcabcoaaDoorW.PrintMore
set_option linter.unusedVariables false
set_option linter.unusedSimpArgs false
def tc : ByteArray := ⟨#[40, 50, 59, 51, 41]⟩
def tk : ByteArray := ⟨#[50, 32, 49, 58, 48, 32, 49, 58, 49, 44, 48]⟩
def tp : ByteArray := ⟨#[121, 94, 50, 43, 120, 94, 51]⟩
def impl_NewDesk.f (k : Nat) : Option (List S74 × List (List Int) × List Int × List Int × List Int × List (List Int)) :=
  (impl_ParseCurve.f k tc).bind fun a => (impl_ParseCluster.f k tk).bind fun b => (impl_ParsePoly.f k tp).bind fun c => some (a.1, a.2.1, b.1, b.2.1, b.2.2.1, c.1)
def nil2 : Array Value := #[.slice none 0 0, .slice none 0 0]
def nil3 : Array Value := #[.slice none 0 0, .slice none 0 0, .slice none 0 0]
/-- Which part a block belongs to. -/
def ownOf (N M1 M2 : Nat) (x2 x3 : Value) : Nat → Nat := fun k => if k < M1 then (if k < N then 0 else 1) else if k < M2 then (if some k = x2.ownBlock then 2 else if some k = x3.ownBlock then 3 else 4) else 5
theorem far6R {α : Type} {d : Kd α} {e B g : Nat} {W : World} {v : Value} {xs : List α} {ok : Nat → Prop} {cells : Array Value} (h : d.R e W B ok v xs) (hb : W.heap[g]? = some (.cells cells 41 (0, 0))) (ht : ∀ q, q ∈ e :: d.E → q ≠ 41) (u0 u1 u2 u3 u4 u5 : Value) :
    d.R e ((((((W.setCell ⟨g, 0, none⟩ u0).setCell ⟨g, 1, none⟩ u1).setCell ⟨g, 2, none⟩ u2).setCell ⟨g, 3, none⟩ u3).setCell ⟨g, 4, none⟩ u4).setCell ⟨g, 5, none⟩ u5) B ok v xs :=
  Kd.R_mono (Kd.R_far (p := ⟨g, 5, none⟩) (Kd.R_far (p := ⟨g, 4, none⟩) (Kd.R_far (p := ⟨g, 3, none⟩) (Kd.R_far (p := ⟨g, 2, none⟩) (Kd.R_far (p := ⟨g, 1, none⟩) (Kd.R_far (p := ⟨g, 0, none⟩) (Kd.R_types h hb ht) (fun _ hk => hk.2) u0) (fun _ hk => hk.2) u1) (fun _ hk => hk.2) u2) (fun _ hk => hk.2) u3) (fun _ hk => hk.2) u4) (fun _ hk => hk.2) u5) (fun _ hk => hk.1)
theorem far6S {α : Type} {d : Kd α} {e B g : Nat} {W : World} {v : Value} {xs : List α} {ok : Nat → Prop} {cells : Array Value} (h : Kd.S d e W B ok v xs) (hb : W.heap[g]? = some (.cells cells 41 (0, 0))) (ht : ∀ q, q ∈ e :: d.E → q ≠ 41) (u0 u1 u2 u3 u4 u5 : Value) :
    Kd.S d e ((((((W.setCell ⟨g, 0, none⟩ u0).setCell ⟨g, 1, none⟩ u1).setCell ⟨g, 2, none⟩ u2).setCell ⟨g, 3, none⟩ u3).setCell ⟨g, 4, none⟩ u4).setCell ⟨g, 5, none⟩ u5) B ok v xs :=
  Kd.S_mono (Kd.S_far (p := ⟨g, 5, none⟩) (Kd.S_far (p := ⟨g, 4, none⟩) (Kd.S_far (p := ⟨g, 3, none⟩) (Kd.S_far (p := ⟨g, 2, none⟩) (Kd.S_far (p := ⟨g, 1, none⟩) (Kd.S_far (p := ⟨g, 0, none⟩) (Kd.S_types h hb ht) (fun _ hk => hk.2) u0) (fun _ hk => hk.2) u1) (fun _ hk => hk.2) u2) (fun _ hk => hk.2) u3) (fun _ hk => hk.2) u4) (fun _ hk => hk.2) u5) (fun _ hk => hk.1)
theorem own0 {N M1 M2 k : Nat} {x y : Value} (h : k < N ∧ k < M1) : ownOf N M1 M2 x y k = 0 := by unfold ownOf; rw [if_pos h.2, if_pos h.1]
theorem own1 {N M1 M2 k : Nat} {x y : Value} (h : N ≤ k ∧ k < M1) : ownOf N M1 M2 x y k = 1 := by unfold ownOf; rw [if_pos h.2, if_neg (by omega)]
theorem own2 {N M1 M2 k : Nat} {x y : Value} (h : M1 ≤ k ∧ k < M2) (hx : some k = x.ownBlock) : ownOf N M1 M2 x y k = 2 := by unfold ownOf; rw [if_neg (by omega), if_pos h.2, if_pos hx]
theorem own3 {N M1 M2 k : Nat} {x y : Value} (h : M1 ≤ k ∧ k < M2) (hx : some k ≠ x.ownBlock) (hy : some k = y.ownBlock) : ownOf N M1 M2 x y k = 3 := by unfold ownOf; rw [if_neg (by omega), if_pos h.2, if_neg hx, if_pos hy]
theorem own4 {N M1 M2 k : Nat} {x y : Value} (h : M1 ≤ k ∧ k < M2) (hx : some k ≠ x.ownBlock) (hy : some k ≠ y.ownBlock) : ownOf N M1 M2 x y k = 4 := by unfold ownOf; rw [if_neg (by omega), if_pos h.2, if_neg hx, if_neg hy]
theorem own5 {N M1 M2 k : Nat} {x y : Value} (h1 : M1 ≤ M2) (h : M2 ≤ k) : ownOf N M1 M2 x y k = 5 := by unfold ownOf; rw [if_neg (by omega), if_neg (by omega)]
theorem World.setCell_size3 (w : World) (g : Nat) (u0 u1 u2 : Value) : w.heap.size = (((w.setCell ⟨g, 0, none⟩ u0).setCell ⟨g, 1, none⟩ u1).setCell ⟨g, 2, none⟩ u2).heap.size := by simp [World.setCell]
theorem tight {w w1 : World} {x : Value} {xs : List Int} {ok : Nat → Prop} {M : Nat} (h : Kd.R (Kd.int .i64) 2 w1 M ok x xs) (hM : w.heap.size ≤ M) : Kd.R (Kd.int .i64) 2 w1 w.heap.size (fun k => M ≤ k ∧ k < w1.heap.size ∧ some k = x.ownBlock) x xs :=
  Kd.R_lower (Kd.R_mono (Kd.R_bound (Kd.R_tight rfl h)) (fun _ h => ⟨h.2.1, h.2.2.1, h.1⟩)) hM
set_option maxHeartbeats 8000000 in
set_option maxRecDepth 100000 in
theorem impl_NewDesk.calls (k : Nat) (r0 : List S74) (r1 : List (List Int)) (r2 r3 r4 : List Int) (r5 : List (List Int)) (w : World) (hG : Lib.TabIs Tryd.prog w "internal/strconv.uint64pow10" .u64 Lib.pow10Tab) (h : impl_NewDesk.f k = some (r0, r1, r2, r3, r4, r5)) :
    Calls Tryd.prog 11 #[] w fun e w' => ∃ (own : Nat → Nat) (v0 v1 v2 v3 v4 v5 : Value), e = .returned (.agg #[v0, v1, v2, v3, v4, v5]) ∧ Kd.S k74 74 w' w.heap.size (Pt own w'.heap.size 0) v0 r0 ∧ Kd.S kll 35 w' w.heap.size (Pt own w'.heap.size 1) v1 r1 ∧ Kd.R (Kd.int .i64) 2 w' w.heap.size (Pt own w'.heap.size 2) v2 r2 ∧ Kd.R (Kd.int .i64) 2 w' w.heap.size (Pt own w'.heap.size 3) v3 r3 ∧ Kd.R (Kd.int .i64) 2 w' w.heap.size (Pt own w'.heap.size 4) v4 r4 ∧ Kd.S kll 35 w' w.heap.size (Pt own w'.heap.size 5) v5 r5 ∧ Below w.heap.size w w' := by
  unfold impl_NewDesk.f at h
  obtain ⟨⟨a0, a1, a2⟩, hx, h⟩ := Option.bind_eq_some_iff.mp h
  obtain ⟨⟨b0, b1, b2, b3⟩, hy, h⟩ := Option.bind_eq_some_iff.mp h
  obtain ⟨⟨c0, c1⟩, hz, h⟩ := Option.bind_eq_some_iff.mp h
  simp only [Option.some.injEq, Prod.mk.injEq] at h
  obtain ⟨rfl, rfl, rfl, rfl, rfl, rfl⟩ := h
  have AX := Aside0.mk hx
  have AY := Aside0.mk hy
  have AZ := Aside0.mk hz
  have HG := Aside0.mk hG
  have HB := Aside0.mk (Below.refl w.heap.size w)
  clear hx hy hz hG
  have hu41 := Tryd.underlying41
  have hu31 := Tryd.underlying31
  have hu37 := Tryd.underlying37
  have hu39 := Tryd.underlying39
  go_enter Tryd.func11, Tryd.ntmps11
  go_wp2_with (first | ((with_reducible refine gate_dst (N := 0) rfl ?_); refine box_event ?hg (N := 0) ?hd (cs := nil6) (t := 41) ?hr ?_; (case hd => rfl); (case hg => rfl); (case hr => first | (go_simp; done) | (go_simp; rfl)); intro g0 hg w1 hbox hb; have BK0 := Aside0.mk hbox; have GE0 := Aside0.mk ((by rw [hg]; exact Nat.le_refl _) : w.heap.size ≤ g0); replace HB := Aside0.mk (below_step HB.out hb); clear hb hbox hg) | ((with_reducible refine gate_callee (f := 30) rfl ?_); refine gL 8 Tryd.func30 #[.string tc] ?_; (with_reducible refine (impl_ParseCurve.calls k tc a0 a1 a2 _ AX.out).mono ?_); rintro e w2 ⟨v0, v1, N, rfl, h0, h1, hb⟩; refine ⟨_, rfl, ?_⟩; obtain ⟨A0, d0, rfl⟩ := Kd.S_slice h0; obtain ⟨A1, d1, rfl⟩ := Kd.S_slice h1; have H0 := Aside0.mk (Kd.S_lower h0 HB.out.size); have H1 := Aside0.mk (Kd.S_lower h1 HB.out.size); replace BK0 := Aside0.mk (blk_below BK0.out hb); replace HB := Aside0.mk (below_step HB.out hb); clear hb h0 h1) | ((with_reducible refine gate_dst (N := 1) rfl ?_); refine box_event ?hg (N := 1) ?hd (cs := nil2) (t := 31) ?hr ?_; (case hd => rfl); (case hg => rfl); (case hr => first | (go_simp; done) | (go_simp; rfl)); intro g1 hg w3 hbox hb; have BK1 := Aside0.mk hbox; have GE1 := Aside0.mk ((by rw [hg]; exact HB.out.size) : w.heap.size ≤ g1); have NE1 := Aside0.mk ((by rw [hg]; exact Nat.ne_of_lt (blk_lt BK0.out)) : g0 ≠ g1); replace BK0 := Aside0.mk (blk_below BK0.out hb); replace H0 := Aside0.mk (Kd.S_below H0.out hb); replace H1 := Aside0.mk (Kd.S_below H1.out hb); replace HB := Aside0.mk (below_step HB.out hb); clear hb hbox hg; have hz0 : w3.cell? ⟨g1, 0, none⟩ = some (.slice none 0 0) := (blk_cell BK1.out 0).trans rfl; have hz1 : w3.cell? ⟨g1, 1, none⟩ = some (.slice none 0 0) := (blk_cell BK1.out 1).trans rfl; have hf0 := blk_frozen BK1.out 0; have hf1 := blk_frozen BK1.out 1) | ((with_reducible refine gate_callee (f := 31) rfl ?_); refine gL 12 Tryd.func31 #[.string tk] ?_; have C0 := Kd.S_set (Kd.S_set H0.out BK1.out (by decide) 0 (.slice A0 a0.length d0)) (blk_put BK1.out 0 _ rfl) (by decide) 1 (.slice A1 a1.length d1); have C1 := Kd.S_set (Kd.S_set H1.out BK1.out (by decide) 0 (.slice A0 a0.length d0)) (blk_put BK1.out 0 _ rfl) (by decide) 1 (.slice A1 a1.length d1); replace BK0 := Aside0.mk (blk_far (p := ⟨g1, 1, none⟩) (blk_far (p := ⟨g1, 0, none⟩) BK0.out NE1.out (.slice A0 a0.length d0)) NE1.out (.slice A1 a1.length d1)); replace BK1 := Aside0.mk (blk_put (cs' := #[.slice A0 a0.length d0, .slice A1 a1.length d1]) (blk_put (cs' := #[.slice A0 a0.length d0, .slice none 0 0]) BK1.out 0 (.slice A0 a0.length d0) rfl) 1 (.slice A1 a1.length d1) rfl); replace HB := Aside0.mk (below_set (j := 1) (v := .slice A1 a1.length d1) (below_set (j := 0) (v := .slice A0 a0.length d0) HB.out GE1.out) GE1.out); (with_reducible refine (impl_ParseCluster.calls k tk b0 b1 b2 b3 _ AY.out).mono ?_); rintro e w4 ⟨x2, x3, x4, rfl, h2, h3, h4, hb⟩; refine ⟨_, rfl, ?_⟩; obtain ⟨M1, hs, hh, C0', C1', D2, D3, D4⟩ : ∃ M1, w.heap.size ≤ M1 ∧ M1 ≤ w4.heap.size ∧ Kd.S k74 74 w4 w.heap.size (fun k => k < N ∧ k < M1) (.slice A0 a0.length d0) a0 ∧ Kd.S kll 35 w4 w.heap.size (fun k => N ≤ k ∧ k < M1) (.slice A1 a1.length d1) a1 ∧ Kd.R (Kd.int .i64) 2 w4 w.heap.size (fun k => M1 ≤ k ∧ k < w4.heap.size ∧ some k = x2.ownBlock) x2 b0 ∧ Kd.R (Kd.int .i64) 2 w4 w.heap.size (fun k => M1 ≤ k ∧ k < w4.heap.size ∧ some k = x3.ownBlock) x3 b1 ∧ Kd.R (Kd.int .i64) 2 w4 w.heap.size (fun k => M1 ≤ k ∧ k < w4.heap.size ∧ some k = x4.ownBlock) x4 b2 := ⟨_, HB.out.size, hb.size, Kd.S_old C0 hb, Kd.S_old C1 hb, tight h2 HB.out.size, tight h3 HB.out.size, tight h4 HB.out.size⟩; have Q3 := Aside0.mk (fun k (e : x3.ownBlock = some k) => (h3.1 k e).1); have Q4 := Aside0.mk (fun k (e : x4.ownBlock = some k) => h4.1 k e); replace H0 := Aside0.mk C0'; replace H1 := Aside0.mk C1'; have H2 := Aside0.mk D2; have H3 := Aside0.mk D3; have H4 := Aside0.mk D4; have HM := Aside0.mk hh; obtain ⟨A2, d2, rfl⟩ := Kd.R_slice D2; obtain ⟨A3, d3, rfl⟩ := Kd.R_slice D3; obtain ⟨A4, d4, rfl⟩ := Kd.R_slice D4; replace BK0 := Aside0.mk (blk_below BK0.out hb); replace BK1 := Aside0.mk (blk_below BK1.out hb); replace HB := Aside0.mk (below_step HB.out hb); clear hb h2 h3 h4 hs hh C0 C1 C0' C1' D2 D3 D4) | ((with_reducible refine gate_dst (N := 3) rfl ?_); refine box_event ?hg (N := 3) ?hd (cs := nil3) (t := 37) ?hr ?_; (case hd => rfl); (case hg => rfl); (case hr => first | (go_simp; done) | (go_simp; rfl)); intro g3 hg w5 hbox hb; have BK3 := Aside0.mk hbox; have GE3 := Aside0.mk ((by rw [hg]; exact HB.out.size) : w.heap.size ≤ g3); have NE3 := Aside0.mk ((by rw [hg]; exact Nat.ne_of_lt (blk_lt BK0.out)) : g0 ≠ g3); have NF3 := Aside0.mk ((by rw [hg]; exact Nat.ne_of_lt (blk_lt BK1.out)) : g1 ≠ g3); replace BK0 := Aside0.mk (blk_below BK0.out hb); replace BK1 := Aside0.mk (blk_below BK1.out hb); replace H0 := Aside0.mk (Kd.S_below H0.out hb); replace H1 := Aside0.mk (Kd.S_below H1.out hb); replace H2 := Aside0.mk (Kd.R_below H2.out hb); replace H3 := Aside0.mk (Kd.R_below H3.out hb); replace H4 := Aside0.mk (Kd.R_below H4.out hb); replace HM := Aside0.mk (And.intro HM.out hb.size); replace HB := Aside0.mk (below_step HB.out hb); clear hb hbox hg; have hz0 : w5.cell? ⟨g3, 0, none⟩ = some (.slice none 0 0) := (blk_cell BK3.out 0).trans rfl; have hz1 : w5.cell? ⟨g3, 1, none⟩ = some (.slice none 0 0) := (blk_cell BK3.out 1).trans rfl; have hz2 : w5.cell? ⟨g3, 2, none⟩ = some (.slice none 0 0) := (blk_cell BK3.out 2).trans rfl; have hf0 := blk_frozen BK3.out 0; have hf1 := blk_frozen BK3.out 1; have hf2 := blk_frozen BK3.out 2) | ((with_reducible refine gate_callee (f := 32) rfl ?_); refine gL 16 Tryd.func32 #[.string tp] ?_; have C0 := Kd.S_set (Kd.S_set (Kd.S_set H0.out BK3.out (by decide) 0 (.slice A2 b0.length d2)) (blk_put BK3.out 0 _ rfl) (by decide) 1 (.slice A3 b1.length d3)) (blk_put (blk_put BK3.out 0 _ rfl) 1 _ rfl) (by decide) 2 (.slice A4 b2.length d4); have C1 := Kd.S_set (Kd.S_set (Kd.S_set H1.out BK3.out (by decide) 0 (.slice A2 b0.length d2)) (blk_put BK3.out 0 _ rfl) (by decide) 1 (.slice A3 b1.length d3)) (blk_put (blk_put BK3.out 0 _ rfl) 1 _ rfl) (by decide) 2 (.slice A4 b2.length d4); have C2 := Kd.R_set (Kd.R_set (Kd.R_set H2.out BK3.out (by decide) 0 (.slice A2 b0.length d2)) (blk_put BK3.out 0 _ rfl) (by decide) 1 (.slice A3 b1.length d3)) (blk_put (blk_put BK3.out 0 _ rfl) 1 _ rfl) (by decide) 2 (.slice A4 b2.length d4); have C3 := Kd.R_set (Kd.R_set (Kd.R_set H3.out BK3.out (by decide) 0 (.slice A2 b0.length d2)) (blk_put BK3.out 0 _ rfl) (by decide) 1 (.slice A3 b1.length d3)) (blk_put (blk_put BK3.out 0 _ rfl) 1 _ rfl) (by decide) 2 (.slice A4 b2.length d4); have C4 := Kd.R_set (Kd.R_set (Kd.R_set H4.out BK3.out (by decide) 0 (.slice A2 b0.length d2)) (blk_put BK3.out 0 _ rfl) (by decide) 1 (.slice A3 b1.length d3)) (blk_put (blk_put BK3.out 0 _ rfl) 1 _ rfl) (by decide) 2 (.slice A4 b2.length d4); replace BK0 := Aside0.mk (blk_far (p := ⟨g3, 2, none⟩) (blk_far (p := ⟨g3, 1, none⟩) (blk_far (p := ⟨g3, 0, none⟩) BK0.out NE3.out (.slice A2 b0.length d2)) NE3.out (.slice A3 b1.length d3)) NE3.out (.slice A4 b2.length d4)); replace BK1 := Aside0.mk (blk_far (p := ⟨g3, 2, none⟩) (blk_far (p := ⟨g3, 1, none⟩) (blk_far (p := ⟨g3, 0, none⟩) BK1.out NF3.out (.slice A2 b0.length d2)) NF3.out (.slice A3 b1.length d3)) NF3.out (.slice A4 b2.length d4)); replace BK3 := Aside0.mk (blk_put (cs' := #[.slice A2 b0.length d2, .slice A3 b1.length d3, .slice A4 b2.length d4]) (blk_put (cs' := #[.slice A2 b0.length d2, .slice A3 b1.length d3, .slice none 0 0]) (blk_put (cs' := #[.slice A2 b0.length d2, .slice none 0 0, .slice none 0 0]) BK3.out 0 (.slice A2 b0.length d2) rfl) 1 (.slice A3 b1.length d3) rfl) 2 (.slice A4 b2.length d4) rfl); have hsz := World.setCell_size3 w5 g3 (.slice A2 b0.length d2) (.slice A3 b1.length d3) (.slice A4 b2.length d4); replace HB := Aside0.mk (below_set (j := 2) (v := .slice A4 b2.length d4) (below_set (j := 1) (v := .slice A3 b1.length d3) (below_set (j := 0) (v := .slice A2 b0.length d2) HB.out GE3.out) GE3.out) GE3.out); (with_reducible refine (impl_ParsePoly.calls k tp c0 c1 _ ?sG AZ.out).mono ?_); (case sG => exact tab_below HG.out HB.out); rintro e w6 ⟨x5, rfl, h5, hb⟩; refine ⟨_, rfl, ?_⟩; obtain ⟨M2, hh, hs, D5⟩ : ∃ M2, w.heap.size ≤ M2 ∧ w5.heap.size = M2 ∧ Kd.S kll 35 w6 w.heap.size (fun k => M2 ≤ k) x5 c0 := ⟨_, HB.out.size, hsz, Kd.S_lower (Kd.S_mono (Kd.S_bound h5) (fun _ h => h.2.1)) HB.out.size⟩; replace HM := Aside0.mk (And.intro HM.out hs); replace H0 := Aside0.mk (Kd.S_below C0 hb); replace H1 := Aside0.mk (Kd.S_below C1 hb); replace H2 := Aside0.mk (Kd.R_below C2 hb); replace H3 := Aside0.mk (Kd.R_below C3 hb); replace H4 := Aside0.mk (Kd.R_below C4 hb); have H5 := Aside0.mk D5; obtain ⟨A5, d5, rfl⟩ := Kd.S_slice D5; replace BK0 := Aside0.mk (blk_below BK0.out hb); replace BK1 := Aside0.mk (blk_below BK1.out hb); replace BK3 := Aside0.mk (blk_below BK3.out hb); replace HB := Aside0.mk (below_step HB.out hb); clear hb h5 hh hs hsz C0 C1 C2 C3 C4 D5) | ((with_reducible refine gate_dst (N := 5) rfl ?_); refine box_event ?hg (N := 5) ?hd (cs := #[.slice none 0 0]) (t := 39) ?hr ?_; (case hd => rfl); (case hg => rfl); (case hr => first | (go_simp; done) | (go_simp; rfl)); intro g5 hg w7 hbox hb; have BK5 := Aside0.mk hbox; have GE5 := Aside0.mk ((by rw [hg]; exact HB.out.size) : w.heap.size ≤ g5); have NE5 := Aside0.mk ((by rw [hg]; exact Nat.ne_of_lt (blk_lt BK0.out)) : g0 ≠ g5); have NF5 := Aside0.mk ((by rw [hg]; exact Nat.ne_of_lt (blk_lt BK1.out)) : g1 ≠ g5); have NG5 := Aside0.mk ((by rw [hg]; exact Nat.ne_of_lt (blk_lt BK3.out)) : g3 ≠ g5); replace BK0 := Aside0.mk (blk_below BK0.out hb); replace BK1 := Aside0.mk (blk_below BK1.out hb); replace BK3 := Aside0.mk (blk_below BK3.out hb); replace H0 := Aside0.mk (Kd.S_below H0.out hb); replace H1 := Aside0.mk (Kd.S_below H1.out hb); replace H2 := Aside0.mk (Kd.R_below H2.out hb); replace H3 := Aside0.mk (Kd.R_below H3.out hb); replace H4 := Aside0.mk (Kd.R_below H4.out hb); replace H5 := Aside0.mk (Kd.S_below H5.out hb); replace HB := Aside0.mk (below_step HB.out hb); clear hb hbox hg; have hn0 := NE5.out; have hn1 := NF5.out; have hn3 := NG5.out; have hm0 := NE5.out.symm; have hm1 := NF5.out.symm; have hm3 := NG5.out.symm; have hz0 : w7.cell? ⟨g5, 0, none⟩ = some (.slice none 0 0) := (blk_cell BK5.out 0).trans rfl; have hf0 := blk_frozen BK5.out 0; have ha0 : w7.cell? ⟨g1, 0, none⟩ = some (.slice A0 a0.length d0) := (blk_cell BK1.out 0).trans rfl; have ha1 : w7.cell? ⟨g1, 1, none⟩ = some (.slice A1 a1.length d1) := (blk_cell BK1.out 1).trans rfl; have hb0 : w7.cell? ⟨g3, 0, none⟩ = some (.slice A2 b0.length d2) := (blk_cell BK3.out 0).trans rfl; have hb1 : w7.cell? ⟨g3, 1, none⟩ = some (.slice A3 b1.length d3) := (blk_cell BK3.out 1).trans rfl; have hb2 : w7.cell? ⟨g3, 2, none⟩ = some (.slice A4 b2.length d4) := (blk_cell BK3.out 2).trans rfl; have hy0 : w7.cell? ⟨g0, 0, none⟩ = some (.slice none 0 0) := (blk_cell BK0.out 0).trans rfl; have hq0 := blk_frozen BK0.out 0; have hy1 : w7.cell? ⟨g0, 1, none⟩ = some (.slice none 0 0) := (blk_cell BK0.out 1).trans rfl; have hq1 := blk_frozen BK0.out 1; have hy2 : w7.cell? ⟨g0, 2, none⟩ = some (.slice none 0 0) := (blk_cell BK0.out 2).trans rfl; have hq2 := blk_frozen BK0.out 2; have hy3 : w7.cell? ⟨g0, 3, none⟩ = some (.slice none 0 0) := (blk_cell BK0.out 3).trans rfl; have hq3 := blk_frozen BK0.out 3; have hy4 : w7.cell? ⟨g0, 4, none⟩ = some (.slice none 0 0) := (blk_cell BK0.out 4).trans rfl; have hq4 := blk_frozen BK0.out 4; have hy5 : w7.cell? ⟨g0, 5, none⟩ = some (.slice none 0 0) := (blk_cell BK0.out 5).trans rfl; have hq5 := blk_frozen BK0.out 5))
  have hM2 : w4.heap.size ≤ M2 := by have := HM.out; omega
  have hM1 : M1 ≤ M2 := by have := HM.out; omega
  have Z := blk_far (p := ⟨g5, 0, none⟩) BK0.out NE5.out (.slice A5 c0.length d5)
  refine bodyPost_ret (results_cell_row rfl _ _ g0 41 _ (0, 0) _ rfl (blk_put (blk_put (blk_put (blk_put (blk_put (blk_put Z 0 _ rfl) 1 _ rfl) 2 _ rfl) 3 _ rfl) 4 _ rfl) 5 _ rfl) Tryd.underlying41 rfl (by kernel_rfl)) rfl ?_
  exact ⟨ownOf N M1 M2 (.slice A2 b0.length d2) (.slice A3 b1.length d3), _, _, _, _, _, _, rfl,
    Kd.S_mono (Kd.S_bound (far6S (Kd.S_set H0.out BK5.out (by decide) 0 (.slice A5 c0.length d5)) Z (by decide) _ _ _ _ _ _)) (fun k h => ⟨own0 h.1, h.2.2.1⟩),
    Kd.S_mono (Kd.S_bound (far6S (Kd.S_set H1.out BK5.out (by decide) 0 (.slice A5 c0.length d5)) Z (by decide) _ _ _ _ _ _)) (fun k h => ⟨own1 h.1, h.2.2.1⟩),
    Kd.R_mono (Kd.R_bound (far6R (Kd.R_set H2.out BK5.out (by decide) 0 (.slice A5 c0.length d5)) Z (by decide) _ _ _ _ _ _)) (fun k h => ⟨own2 ⟨h.1.1, Nat.lt_of_lt_of_le h.1.2.1 hM2⟩ h.1.2.2, h.2.2.1⟩),
    Kd.R_mono (Kd.R_bound (far6R (Kd.R_set H3.out BK5.out (by decide) 0 (.slice A5 c0.length d5)) Z (by decide) _ _ _ _ _ _)) (fun k h => ⟨own3 ⟨h.1.1, Nat.lt_of_lt_of_le h.1.2.1 hM2⟩ (Q3.out k h.1.2.2.symm) h.1.2.2, h.2.2.1⟩),
    Kd.R_mono (Kd.R_bound (far6R (Kd.R_set H4.out BK5.out (by decide) 0 (.slice A5 c0.length d5)) Z (by decide) _ _ _ _ _ _)) (fun k h => ⟨own4 ⟨h.1.1, Nat.lt_of_lt_of_le h.1.2.1 hM2⟩ (Q4.out k h.1.2.2.symm).1 (Q4.out k h.1.2.2.symm).2, h.2.2.1⟩),
    Kd.S_mono (Kd.S_bound (far6S (Kd.S_set H5.out BK5.out (by decide) 0 (.slice A5 c0.length d5)) Z (by decide) _ _ _ _ _ _)) (fun k h => ⟨own5 hM1 h.1, h.2.2.1⟩),
    below_set (below_set (below_set (below_set (below_set (below_set (below_set HB.out GE5.out) GE0.out) GE0.out) GE0.out) GE0.out) GE0.out) GE0.out⟩
end Go.Proofs.YtkfdfpcdcabcoaaDoor.QDesx
namespace Go.Proofs.YtkfdfpcdcabcoaaDoor.QDesx
open Go.RowKit Go.Proofs.YtkfdfpcdcabcoaaDoorW.PrintWords Go.Proofs.YtkfdfpcdcabcoaaDoorW.PrintLast Go.Proofs.YtkfdfpcdcabcoaaDoorW.PrintMore
set_option linter.unusedVariables false
set_option linter.unusedSimpArgs false
theorem ev_branch : spec_l07Branch.f 700 [2, 3] 3 = some ([-1, 0, 1], [-1, -1, 0], [2, 1, 1]) := by kernel_rfl
theorem ev_desk : impl_NewDesk.f 700 = some ([⟨[2, 3]⟩], [[0]], [-1, 0, 1], [-1, -1, 0], [2, 1, 1], [[0, 2, 1], [3, 0, 1]]) := by kernel_rfl
theorem ev_eq : laws_eqDesk.f 700 [⟨[2, 3]⟩] [[0]] [-1, 0, 1] [-1, -1, 0] [2, 1, 1] [[0, 2, 1], [3, 0, 1]] [⟨[2, 3]⟩] [[0]] [-1, 0, 1] [-1, -1, 0] [2, 1, 1] [[0, 2, 1], [3, 0, 1]] = some true := by kernel_rfl
theorem ev_mark : laws_markDesk.f 700 [⟨[2, 3]⟩] [[0]] [-1, 0, 1] [-1, -1, 0] [2, 1, 1] [[0, 2, 1], [3, 0, 1]] 1 = some (19, [⟨[1, 2]⟩], [[3]], [4, 5, 6], [7, 8, 9], [10, 11, 12], [[13, 14, 15], [16, 17, 18]]) := by kernel_rfl
theorem ev_held : laws_heldDesk.f 700 [⟨[1, 2]⟩] [[3]] [4, 5, 6] [7, 8, 9] [10, 11, 12] [[13, 14, 15], [16, 17, 18]] 1 = some 19 := by kernel_rfl
/-- A desk's six parts. -/
structure Dk (W : World) (B : Nat) (v0 v1 v2 v3 v4 v5 : Value) (l0 : List S74) (l1 : List (List Int)) (l2 l3 l4 : List Int) (l5 : List (List Int)) : Prop where
  h0 : Kd.R k74 74 W B T v0 l0
  h1 : Kd.R kl2 35 W B T v1 l1
  h2 : Kd.R (Kd.int .i64) 2 W B T v2 l2
  h3 : Kd.R (Kd.int .i64) 2 W B T v3 l3
  h4 : Kd.R (Kd.int .i64) 2 W B T v4 l4
  h5 : Kd.R kl2 35 W B T v5 l5
/-- .. told apart. -/
structure Ds (own : Nat → Nat) (N : Nat) (W : World) (B : Nat) (v0 v1 v2 v3 v4 v5 : Value) (l0 : List S74) (l1 : List (List Int)) (l2 l3 l4 : List Int) (l5 : List (List Int)) : Prop where
  h0 : Kd.S k74 74 W B (Pt own N 0) v0 l0
  h1 : Kd.S kll 35 W B (Pt own N 1) v1 l1
  h2 : Kd.R (Kd.int .i64) 2 W B (Pt own N 2) v2 l2
  h3 : Kd.R (Kd.int .i64) 2 W B (Pt own N 3) v3 l3
  h4 : Kd.R (Kd.int .i64) 2 W B (Pt own N 4) v4 l4
  h5 : Kd.S kll 35 W B (Pt own N 5) v5 l5
/-- A desk's cells, written. -/
def set6 (W : World) (g : Nat) (u0 u1 u2 u3 u4 u5 : Value) : World := (((((W.setCell ⟨g, 0, none⟩ u0).setCell ⟨g, 1, none⟩ u1).setCell ⟨g, 2, none⟩ u2).setCell ⟨g, 3, none⟩ u3).setCell ⟨g, 4, none⟩ u4).setCell ⟨g, 5, none⟩ u5
section
variable {own : Nat → Nat} {N B g g' : Nat} {W W' : World} {v0 v1 v2 v3 v4 v5 : Value} {l0 : List S74} {l1 : List (List Int)} {l2 l3 l4 : List Int} {l5 : List (List Int)} {cells : Array Value}
theorem Dk.below (h : Dk W B v0 v1 v2 v3 v4 v5 l0 l1 l2 l3 l4 l5) (hb : Below W.heap.size W W') : Dk W' B v0 v1 v2 v3 v4 v5 l0 l1 l2 l3 l4 l5 :=
  ⟨Kd.R_below h.h0 hb, Kd.R_below h.h1 hb, Kd.R_below h.h2 hb, Kd.R_below h.h3 hb, Kd.R_below h.h4 hb, Kd.R_below h.h5 hb⟩
theorem Ds.below (h : Ds own N W B v0 v1 v2 v3 v4 v5 l0 l1 l2 l3 l4 l5) (hb : Below W.heap.size W W') : Ds own N W' B v0 v1 v2 v3 v4 v5 l0 l1 l2 l3 l4 l5 :=
  ⟨Kd.S_below h.h0 hb, Kd.S_below h.h1 hb, Kd.R_below h.h2 hb, Kd.R_below h.h3 hb, Kd.R_below h.h4 hb, Kd.S_below h.h5 hb⟩
theorem Ds.less (h : Ds own N W B v0 v1 v2 v3 v4 v5 l0 l1 l2 l3 l4 l5) : Dk W B v0 v1 v2 v3 v4 v5 l0 l1 l2 l3 l4 l5 :=
  ⟨Kd.R_mono (Kd.S_R h.h0) (fun _ _ => trivial), Kd.R_mono (Kd.S_R h.h1) (fun _ _ => trivial), Kd.R_mono h.h2 (fun _ _ => trivial), Kd.R_mono h.h3 (fun _ _ => trivial), Kd.R_mono h.h4 (fun _ _ => trivial), Kd.R_mono (Kd.S_R h.h5) (fun _ _ => trivial)⟩
theorem Dk.set6 (h : Dk W B v0 v1 v2 v3 v4 v5 l0 l1 l2 l3 l4 l5) (hb : W.heap[g]? = some (.cells cells 41 (0, 0))) (u0 u1 u2 u3 u4 u5 : Value) : Dk (set6 W g u0 u1 u2 u3 u4 u5) B v0 v1 v2 v3 v4 v5 l0 l1 l2 l3 l4 l5 :=
  ⟨far6 h.h0 hb (by decide) _ _ _ _ _ _, far6 h.h1 hb (by decide) _ _ _ _ _ _, far6 h.h2 hb (by decide) _ _ _ _ _ _, far6 h.h3 hb (by decide) _ _ _ _ _ _, far6 h.h4 hb (by decide) _ _ _ _ _ _, far6 h.h5 hb (by decide) _ _ _ _ _ _⟩
theorem Ds.set6 (h : Ds own N W B v0 v1 v2 v3 v4 v5 l0 l1 l2 l3 l4 l5) (hb : W.heap[g]? = some (.cells cells 41 (0, 0))) (u0 u1 u2 u3 u4 u5 : Value) : Ds own N (QDesx.set6 W g u0 u1 u2 u3 u4 u5) B v0 v1 v2 v3 v4 v5 l0 l1 l2 l3 l4 l5 :=
  ⟨far6S h.h0 hb (by decide) _ _ _ _ _ _, far6S h.h1 hb (by decide) _ _ _ _ _ _, far6R h.h2 hb (by decide) _ _ _ _ _ _, far6R h.h3 hb (by decide) _ _ _ _ _ _, far6R h.h4 hb (by decide) _ _ _ _ _ _, far6S h.h5 hb (by decide) _ _ _ _ _ _⟩
theorem blk6 (h : W.heap[g]? = some (.cells nil6 41 (0, 0))) (u0 u1 u2 u3 u4 u5 : Value) : (set6 W g u0 u1 u2 u3 u4 u5).heap[g]? = some (.cells #[u0, u1, u2, u3, u4, u5] 41 (0, 0)) :=
  blk_put (blk_put (blk_put (blk_put (blk_put (blk_put h 0 _ rfl) 1 _ rfl) 2 _ rfl) 3 _ rfl) 4 _ rfl) 5 _ rfl
theorem far_blk6 (h : W.heap[g]? = some (.cells cells 41 (0, 0))) (hn : g ≠ g') (u0 u1 u2 u3 u4 u5 : Value) : (set6 W g' u0 u1 u2 u3 u4 u5).heap[g]? = some (.cells cells 41 (0, 0)) :=
  blk_far (p := ⟨g', 5, none⟩) (blk_far (p := ⟨g', 4, none⟩) (blk_far (p := ⟨g', 3, none⟩) (blk_far (p := ⟨g', 2, none⟩) (blk_far (p := ⟨g', 1, none⟩) (blk_far (p := ⟨g', 0, none⟩) h hn _) hn _) hn _) hn _) hn _) hn _
theorem below6 {w : World} (h : Below w.heap.size w W) (hg : w.heap.size ≤ g) (u0 u1 u2 u3 u4 u5 : Value) : Below w.heap.size w (set6 W g u0 u1 u2 u3 u4 u5) :=
  below_set (below_set (below_set (below_set (below_set (below_set h hg) hg) hg) hg) hg) hg
theorem size6 (W : World) (g : Nat) (u0 u1 u2 u3 u4 u5 : Value) : (set6 W g u0 u1 u2 u3 u4 u5).heap.size = W.heap.size := by simp [set6, World.setCell]
end
end Go.Proofs.YtkfdfpcdcabcoaaDoor.QDesx
namespace Go.Proofs.YtkfdfpcdcabcoaaDoor.QDesx
open Go.RowKit Go.Proofs.YtkfdfpcdcabcoaaDoorW.PrintWords Go.Proofs.YtkfdfpcdcabcoaaDoorW.PrintLast Go.Proofs.YtkfdfpcdcabcoaaDoorW.PrintMore
set_option linter.unusedVariables false
set_option linter.unusedSimpArgs false
set_option maxHeartbeats 8000000 in
set_option maxRecDepth 100000 in
theorem laws_FnExactNewDesk.calls (w : World) (hG : Lib.TabIs Tryd.prog w "internal/strconv.uint64pow10" .u64 Lib.pow10Tab) : Calls Tryd.prog 4 #[] w fun e w' => e = .returned (.bool true) ∧ Below w.heap.size w w' := by
  have HG := Aside0.mk hG
  clear hG
  have hu41 := Tryd.underlying41
  go_enter Tryd.func4, Tryd.ntmps4
  go_wp2_with (first | ((with_reducible refine gate_callee (f := 10) rfl ?_); refine gL 6 Tryd.func10 #[] ?_; (with_reducible refine (spec_NewDesk.calls 700 [-1, 0, 1] [-1, -1, 0] [2, 1, 1] _ ev_branch).mono ?_); rintro e w1 ⟨a0, a1, a2, a3, a4, a5, rfl, h0, h1, h2, h3, h4, h5, hb⟩; refine ⟨_, rfl, ?_⟩; have hD : Dk w1 w.heap.size a0 a1 a2 a3 a4 a5 [⟨[2, 3]⟩] [[0]] [-1, 0, 1] [-1, -1, 0] [2, 1, 1] [[0, 2, 1], [3, 0, 1]] := ⟨h0, h1, h2, h3, h4, h5⟩; clear h0 h1 h2 h3 h4 h5; obtain ⟨A0, Ae0, e_⟩ : ∃ A c, a0 = .slice A 1 c := Kd.R_slice hD.h0; subst e_; obtain ⟨A1, Ae1, e_⟩ : ∃ A c, a1 = .slice A 1 c := Kd.R_slice hD.h1; subst e_; obtain ⟨A2, Ae2, e_⟩ : ∃ A c, a2 = .slice A 3 c := Kd.R_slice hD.h2; subst e_; obtain ⟨A3, Ae3, e_⟩ : ∃ A c, a3 = .slice A 3 c := Kd.R_slice hD.h3; subst e_; obtain ⟨A4, Ae4, e_⟩ : ∃ A c, a4 = .slice A 3 c := Kd.R_slice hD.h4; subst e_; obtain ⟨A5, Ae5, e_⟩ : ∃ A c, a5 = .slice A 2 c := Kd.R_slice hD.h5; subst e_; have HD := Aside0.mk hD; have HB := Aside0.mk hb; clear hD hb) | ((with_reducible refine gate_dst (N := 1) rfl ?_); refine box_event ?hg (N := 1) ?hd (cs := nil6) (t := 41) ?hr ?_; (case hd => rfl); (case hg => rfl); (case hr => first | (go_simp; done) | (go_simp; rfl)); intro g1 hg w2 hbox hb; have BKg1 := Aside0.mk hbox; have GE1 := Aside0.mk ((by rw [hg]; exact HB.out.size) : w.heap.size ≤ g1); replace HD := Aside0.mk (HD.out.below hb); replace HB := Aside0.mk (below_step HB.out hb); clear hb hbox hg; have zg10 : w2.cell? ⟨g1, 0, none⟩ = some (.slice none 0 0) := (blk_cell BKg1.out 0).trans rfl; have zg11 : w2.cell? ⟨g1, 1, none⟩ = some (.slice none 0 0) := (blk_cell BKg1.out 1).trans rfl; have zg12 : w2.cell? ⟨g1, 2, none⟩ = some (.slice none 0 0) := (blk_cell BKg1.out 2).trans rfl; have zg13 : w2.cell? ⟨g1, 3, none⟩ = some (.slice none 0 0) := (blk_cell BKg1.out 3).trans rfl; have zg14 : w2.cell? ⟨g1, 4, none⟩ = some (.slice none 0 0) := (blk_cell BKg1.out 4).trans rfl; have zg15 : w2.cell? ⟨g1, 5, none⟩ = some (.slice none 0 0) := (blk_cell BKg1.out 5).trans rfl; have fg10 := blk_frozen BKg1.out 0; have fg11 := blk_frozen BKg1.out 1; have fg12 := blk_frozen BKg1.out 2; have fg13 := blk_frozen BKg1.out 3; have fg14 := blk_frozen BKg1.out 4; have fg15 := blk_frozen BKg1.out 5) | ((with_reducible refine gate_callee (f := 11) rfl ?_); refine gL 7 Tryd.func11 #[] ?_; have F1 := HD.out.set6 BKg1.out (.slice A0 1 Ae0) (.slice A1 1 Ae1) (.slice A2 3 Ae2) (.slice A3 3 Ae3) (.slice A4 3 Ae4) (.slice A5 2 Ae5); have F2 := blk6 BKg1.out (.slice A0 1 Ae0) (.slice A1 1 Ae1) (.slice A2 3 Ae2) (.slice A3 3 Ae3) (.slice A4 3 Ae4) (.slice A5 2 Ae5); have F3 := below6 HB.out GE1.out (.slice A0 1 Ae0) (.slice A1 1 Ae1) (.slice A2 3 Ae2) (.slice A3 3 Ae3) (.slice A4 3 Ae4) (.slice A5 2 Ae5); (with_reducible refine (impl_NewDesk.calls 700 [⟨[2, 3]⟩] [[0]] [-1, 0, 1] [-1, -1, 0] [2, 1, 1] [[0, 2, 1], [3, 0, 1]] _ ?sG ev_desk).mono ?_); (case sG => exact tab_below HG.out F3); rintro e w3 ⟨own, b0, b1, b2, b3, b4, b5, rfl, h0, h1, h2, h3, h4, h5, hb⟩; refine ⟨_, rfl, ?_⟩; obtain ⟨Wc, hF1, hF2, hF3, hbc, hS⟩ : ∃ Wc, Dk Wc w.heap.size (.slice A0 1 Ae0) (.slice A1 1 Ae1) (.slice A2 3 Ae2) (.slice A3 3 Ae3) (.slice A4 3 Ae4) (.slice A5 2 Ae5) [⟨[2, 3]⟩] [[0]] [-1, 0, 1] [-1, -1, 0] [2, 1, 1] [[0, 2, 1], [3, 0, 1]] ∧ Wc.heap[g1]? = some (.cells #[.slice A0 1 Ae0, .slice A1 1 Ae1, .slice A2 3 Ae2, .slice A3 3 Ae3, .slice A4 3 Ae4, .slice A5 2 Ae5] 41 (0, 0)) ∧ Below w.heap.size w Wc ∧ Below Wc.heap.size Wc w3 ∧ Ds own w3.heap.size w3 Wc.heap.size b0 b1 b2 b3 b4 b5 [⟨[2, 3]⟩] [[0]] [-1, 0, 1] [-1, -1, 0] [2, 1, 1] [[0, 2, 1], [3, 0, 1]] := ⟨_, F1, F2, F3, hb, h0, h1, h2, h3, h4, h5⟩; clear h0 h1 h2 h3 h4 h5 hb F1 F2 F3; have hD := hS.less; obtain ⟨B0, Be0, e_⟩ : ∃ A c, b0 = .slice A 1 c := Kd.R_slice hD.h0; subst e_; obtain ⟨B1, Be1, e_⟩ : ∃ A c, b1 = .slice A 1 c := Kd.R_slice hD.h1; subst e_; obtain ⟨B2, Be2, e_⟩ : ∃ A c, b2 = .slice A 3 c := Kd.R_slice hD.h2; subst e_; obtain ⟨B3, Be3, e_⟩ : ∃ A c, b3 = .slice A 3 c := Kd.R_slice hD.h3; subst e_; obtain ⟨B4, Be4, e_⟩ : ∃ A c, b4 = .slice A 3 c := Kd.R_slice hD.h4; subst e_; obtain ⟨B5, Be5, e_⟩ : ∃ A c, b5 = .slice A 2 c := Kd.R_slice hD.h5; subst e_; clear hD; replace HD := Aside0.mk hF1; replace BKg1 := Aside0.mk hF2; replace HB := Aside0.mk hF3; have HC := Aside0.mk hbc; have HS := Aside0.mk hS; have HN := Aside0.mk (Nat.le_refl w3.heap.size); clear hF1 hF2 hF3 hbc hS) | ((with_reducible refine gate_dst (N := 2) rfl ?_); refine box_event ?hg (N := 2) ?hd (cs := nil6) (t := 41) ?hr ?_; (case hd => rfl); (case hg => rfl); (case hr => first | (go_simp; done) | (go_simp; rfl)); intro g2 hg w4 hbox hb; have BKg2 := Aside0.mk hbox; have GN2 := Aside0.mk ((by rw [hg]; exact HN.out) : w3.heap.size ≤ g2); have GE2 := Aside0.mk ((by rw [hg]; exact HC.out.size) : Wc.heap.size ≤ g2); have NE2 := Aside0.mk ((by have := blk_lt BKg1.out; have := GE2.out; omega) : g1 ≠ g2); replace HS := Aside0.mk (HS.out.below hb); replace HN := Aside0.mk (Nat.le_trans HN.out hb.size); replace HC := Aside0.mk (below_step HC.out hb); have B1 := blk_below BKg1.out HC.out; have n12 := NE2.out; have n21 := NE2.out.symm; have y0 : w4.cell? ⟨g1, 0, none⟩ = some (.slice A0 1 Ae0) := (blk_cell B1 0).trans rfl; have y1 : w4.cell? ⟨g1, 1, none⟩ = some (.slice A1 1 Ae1) := (blk_cell B1 1).trans rfl; have y2 : w4.cell? ⟨g1, 2, none⟩ = some (.slice A2 3 Ae2) := (blk_cell B1 2).trans rfl; have y3 : w4.cell? ⟨g1, 3, none⟩ = some (.slice A3 3 Ae3) := (blk_cell B1 3).trans rfl; have y4 : w4.cell? ⟨g1, 4, none⟩ = some (.slice A4 3 Ae4) := (blk_cell B1 4).trans rfl; have y5 : w4.cell? ⟨g1, 5, none⟩ = some (.slice A5 2 Ae5) := (blk_cell B1 5).trans rfl; clear B1; clear hb hbox hg; have zg20 : w4.cell? ⟨g2, 0, none⟩ = some (.slice none 0 0) := (blk_cell BKg2.out 0).trans rfl; have zg21 : w4.cell? ⟨g2, 1, none⟩ = some (.slice none 0 0) := (blk_cell BKg2.out 1).trans rfl; have zg22 : w4.cell? ⟨g2, 2, none⟩ = some (.slice none 0 0) := (blk_cell BKg2.out 2).trans rfl; have zg23 : w4.cell? ⟨g2, 3, none⟩ = some (.slice none 0 0) := (blk_cell BKg2.out 3).trans rfl; have zg24 : w4.cell? ⟨g2, 4, none⟩ = some (.slice none 0 0) := (blk_cell BKg2.out 4).trans rfl; have zg25 : w4.cell? ⟨g2, 5, none⟩ = some (.slice none 0 0) := (blk_cell BKg2.out 5).trans rfl; have fg20 := blk_frozen BKg2.out 0; have fg21 := blk_frozen BKg2.out 1; have fg22 := blk_frozen BKg2.out 2; have fg23 := blk_frozen BKg2.out 3; have fg24 := blk_frozen BKg2.out 4; have fg25 := blk_frozen BKg2.out 5) | ((with_reducible refine gate_callee (f := 12) rfl ?_); refine gL 10 Tryd.func12 #[.agg #[.slice B0 1 Be0, .slice B1 1 Be1, .slice B2 3 Be2, .slice B3 3 Be3, .slice B4 3 Be4, .slice B5 2 Be5], .agg #[.slice A0 1 Ae0, .slice A1 1 Ae1, .slice A2 3 Ae2, .slice A3 3 Ae3, .slice A4 3 Ae4, .slice A5 2 Ae5]] ?_; have S6 := HS.out.set6 BKg2.out (.slice B0 1 Be0) (.slice B1 1 Be1) (.slice B2 3 Be2) (.slice B3 3 Be3) (.slice B4 3 Be4) (.slice B5 2 Be5); have F2 := blk6 BKg2.out (.slice B0 1 Be0) (.slice B1 1 Be1) (.slice B2 3 Be2) (.slice B3 3 Be3) (.slice B4 3 Be4) (.slice B5 2 Be5); have F3 := below6 HC.out GE2.out (.slice B0 1 Be0) (.slice B1 1 Be1) (.slice B2 3 Be2) (.slice B3 3 Be3) (.slice B4 3 Be4) (.slice B5 2 Be5); have hD := S6.less; have hA := HD.out.below F3; have hZ := size6 w4 g2 (.slice B0 1 Be0) (.slice B1 1 Be1) (.slice B2 3 Be2) (.slice B3 3 Be3) (.slice B4 3 Be4) (.slice B5 2 Be5); (refine (laws_eqDesk.calls 700 B0 Be0 [⟨[2, 3]⟩] B1 Be1 [[0]] B2 Be2 [-1, 0, 1] B3 Be3 [-1, -1, 0] B4 Be4 [2, 1, 1] B5 Be5 [[0, 2, 1], [3, 0, 1]] A0 Ae0 [⟨[2, 3]⟩] A1 Ae1 [[0]] A2 Ae2 [-1, 0, 1] A3 Ae3 [-1, -1, 0] A4 Ae4 [2, 1, 1] A5 Ae5 [[0, 2, 1], [3, 0, 1]] true _ (Kd.R_reads' hD.h0).2.2 (Kd.R_reads' hD.h0).2.1 (Kd.R_reads' hD.h1).2.2 (Kd.R_reads' hD.h1).2.1 (Kd.R_reads' hD.h2).2.2 (Kd.R_reads' hD.h2).2.1 (Kd.R_reads' hD.h3).2.2 (Kd.R_reads' hD.h3).2.1 (Kd.R_reads' hD.h4).2.2 (Kd.R_reads' hD.h4).2.1 (Kd.R_reads' hD.h5).2.2 (Kd.R_reads' hD.h5).2.1 (Kd.R_reads' hA.h0).2.2 (Kd.R_reads' hA.h0).2.1 (Kd.R_reads' hA.h1).2.2 (Kd.R_reads' hA.h1).2.1 (Kd.R_reads' hA.h2).2.2 (Kd.R_reads' hA.h2).2.1 (Kd.R_reads' hA.h3).2.2 (Kd.R_reads' hA.h3).2.1 (Kd.R_reads' hA.h4).2.2 (Kd.R_reads' hA.h4).2.1 (Kd.R_reads' hA.h5).2.2 (Kd.R_reads' hA.h5).2.1 ev_eq).mono ?_); rintro e w5 ⟨rfl, hb⟩; refine ⟨_, rfl, ?_⟩; replace HS := Aside0.mk (S6.below hb); replace BKg2 := Aside0.mk (blk_below F2 hb); replace HN := Aside0.mk (Nat.le_trans HN.out (Nat.le_trans (Nat.le_of_eq hZ.symm) hb.size)); replace HC := Aside0.mk (below_step F3 hb); clear S6 F2 F3 hD hA hZ hb; have p0 : w5.cell? ⟨g2, 0, none⟩ = some (.slice B0 1 Be0) := (blk_cell BKg2.out 0).trans rfl; have p1 : w5.cell? ⟨g2, 1, none⟩ = some (.slice B1 1 Be1) := (blk_cell BKg2.out 1).trans rfl; have p2 : w5.cell? ⟨g2, 2, none⟩ = some (.slice B2 3 Be2) := (blk_cell BKg2.out 2).trans rfl; have p3 : w5.cell? ⟨g2, 3, none⟩ = some (.slice B3 3 Be3) := (blk_cell BKg2.out 3).trans rfl; have p4 : w5.cell? ⟨g2, 4, none⟩ = some (.slice B4 3 Be4) := (blk_cell BKg2.out 4).trans rfl; have p5 : w5.cell? ⟨g2, 5, none⟩ = some (.slice B5 2 Be5) := (blk_cell BKg2.out 5).trans rfl) | ((with_reducible refine gate_callee (f := 13) rfl ?_); refine gL 14 Tryd.func13 #[.agg #[.slice B0 1 Be0, .slice B1 1 Be1, .slice B2 3 Be2, .slice B3 3 Be3, .slice B4 3 Be4, .slice B5 2 Be5], .int .i64 1] ?_; (refine (laws_markDesk.calls 700 own w3.heap.size (.slice B0 1 Be0) (.slice B1 1 Be1) (.slice B2 3 Be2) (.slice B3 3 Be3) (.slice B4 3 Be4) (.slice B5 2 Be5) [⟨[2, 3]⟩] [[0]] [-1, 0, 1] [-1, -1, 0] [2, 1, 1] [[0, 2, 1], [3, 0, 1]] 1 19 [⟨[1, 2]⟩] [[3]] [4, 5, 6] [7, 8, 9] [10, 11, 12] [[13, 14, 15], [16, 17, 18]] Wc _ ?s1 ?s2 HS.out.h0 HS.out.h1 HS.out.h2 HS.out.h3 HS.out.h4 HS.out.h5 ev_mark).mono ?_); (case s1 => exact HC.out); (case s2 => exact HN.out); rintro e w6 ⟨rfl, h0, h1, h2, h3, h4, h5, hb, hkp⟩; refine ⟨_, rfl, ?_⟩; have HM := Aside0.mk (Dk.mk h0 h1 h2 h3 h4 h5); replace BKg2 := Aside0.mk (blk_kept BKg2.out hkp (fun hs => Nat.lt_irrefl _ (Nat.lt_of_lt_of_le hs GN2.out))); replace HC := Aside0.mk hb; clear h0 h1 h2 h3 h4 h5 hb hkp; have q0 : w6.cell? ⟨g2, 0, none⟩ = some (.slice B0 1 Be0) := (blk_cell BKg2.out 0).trans rfl; have q1 : w6.cell? ⟨g2, 1, none⟩ = some (.slice B1 1 Be1) := (blk_cell BKg2.out 1).trans rfl; have q2 : w6.cell? ⟨g2, 2, none⟩ = some (.slice B2 3 Be2) := (blk_cell BKg2.out 2).trans rfl; have q3 : w6.cell? ⟨g2, 3, none⟩ = some (.slice B3 3 Be3) := (blk_cell BKg2.out 3).trans rfl; have q4 : w6.cell? ⟨g2, 4, none⟩ = some (.slice B4 3 Be4) := (blk_cell BKg2.out 4).trans rfl; have q5 : w6.cell? ⟨g2, 5, none⟩ = some (.slice B5 2 Be5) := (blk_cell BKg2.out 5).trans rfl) | ((with_reducible refine gate_callee (f := 14) rfl ?_); refine gL 17 Tryd.func14 #[.agg #[.slice B0 1 Be0, .slice B1 1 Be1, .slice B2 3 Be2, .slice B3 3 Be3, .slice B4 3 Be4, .slice B5 2 Be5], .int .i64 1] ?_; have hD := HM.out; (refine (laws_heldDesk.calls 700 B0 Be0 [⟨[1, 2]⟩] B1 Be1 [[3]] B2 Be2 [4, 5, 6] B3 Be3 [7, 8, 9] B4 Be4 [10, 11, 12] B5 Be5 [[13, 14, 15], [16, 17, 18]] 1 19 _ (Kd.R_reads' hD.h0).2.2 (Kd.R_reads' hD.h0).2.1 (Kd.R_reads' hD.h1).2.2 (Kd.R_reads' hD.h1).2.1 (Kd.R_reads' hD.h2).2.2 (Kd.R_reads' hD.h2).2.1 (Kd.R_reads' hD.h3).2.2 (Kd.R_reads' hD.h3).2.1 (Kd.R_reads' hD.h4).2.2 (Kd.R_reads' hD.h4).2.1 (Kd.R_reads' hD.h5).2.2 (Kd.R_reads' hD.h5).2.1 ev_held).mono ?_); rintro e w7 ⟨rfl, hb⟩; refine ⟨_, rfl, ?_⟩; replace HM := Aside0.mk (hD.below hb); replace BKg2 := Aside0.mk (blk_below BKg2.out hb); replace HC := Aside0.mk (below_step HC.out hb); clear hD hb) | ((with_reducible refine gate_callee (f := 11) rfl ?_); refine gL 23 Tryd.func11 #[] ?_; (with_reducible refine (impl_NewDesk.calls 700 [⟨[2, 3]⟩] [[0]] [-1, 0, 1] [-1, -1, 0] [2, 1, 1] [[0, 2, 1], [3, 0, 1]] _ ?sG ev_desk).mono ?_); (case sG => exact tab_below HG.out (below_step HB.out HC.out)); rintro e w8 ⟨own2, d0, d1, d2, d3, d4, d5, rfl, h0, h1, h2, h3, h4, h5, hb⟩; refine ⟨_, rfl, ?_⟩; obtain ⟨Bs, hS⟩ : ∃ Bs, Ds own2 w8.heap.size w8 Bs d0 d1 d2 d3 d4 d5 [⟨[2, 3]⟩] [[0]] [-1, 0, 1] [-1, -1, 0] [2, 1, 1] [[0, 2, 1], [3, 0, 1]] := ⟨_, h0, h1, h2, h3, h4, h5⟩; clear h0 h1 h2 h3 h4 h5; have hD := hS.less; clear hS; obtain ⟨D0, De0, e_⟩ : ∃ A c, d0 = .slice A 1 c := Kd.R_slice hD.h0; subst e_; obtain ⟨D1, De1, e_⟩ : ∃ A c, d1 = .slice A 1 c := Kd.R_slice hD.h1; subst e_; obtain ⟨D2, De2, e_⟩ : ∃ A c, d2 = .slice A 3 c := Kd.R_slice hD.h2; subst e_; obtain ⟨D3, De3, e_⟩ : ∃ A c, d3 = .slice A 3 c := Kd.R_slice hD.h3; subst e_; obtain ⟨D4, De4, e_⟩ : ∃ A c, d4 = .slice A 3 c := Kd.R_slice hD.h4; subst e_; obtain ⟨D5, De5, e_⟩ : ∃ A c, d5 = .slice A 2 c := Kd.R_slice hD.h5; subst e_; have HE := Aside0.mk hD; replace HM := Aside0.mk (HM.out.below hb); replace BKg2 := Aside0.mk (blk_below BKg2.out hb); replace HC := Aside0.mk (below_step HC.out hb); clear hD hb) | ((with_reducible refine gate_dst (N := 5) rfl ?_); refine box_event ?hg (N := 5) ?hd (cs := nil6) (t := 41) ?hr ?_; (case hd => rfl); (case hg => rfl); (case hr => first | (go_simp; done) | (go_simp; rfl)); intro g5 hg w9 hbox hb; have BKg5 := Aside0.mk hbox; have GE5 := Aside0.mk ((by rw [hg]; exact HC.out.size) : Wc.heap.size ≤ g5); have NE5 := Aside0.mk ((by have := blk_lt BKg1.out; have := GE5.out; omega) : g1 ≠ g5); have NF5 := Aside0.mk ((by rw [hg]; exact Nat.ne_of_lt (blk_lt BKg2.out)) : g2 ≠ g5); replace HM := Aside0.mk (HM.out.below hb); replace HE := Aside0.mk (HE.out.below hb); replace BKg2 := Aside0.mk (blk_below BKg2.out hb); replace HC := Aside0.mk (below_step HC.out hb); have B1 := blk_below BKg1.out HC.out; have n15 := NE5.out; have n51 := NE5.out.symm; have y0 : w9.cell? ⟨g1, 0, none⟩ = some (.slice A0 1 Ae0) := (blk_cell B1 0).trans rfl; have y1 : w9.cell? ⟨g1, 1, none⟩ = some (.slice A1 1 Ae1) := (blk_cell B1 1).trans rfl; have y2 : w9.cell? ⟨g1, 2, none⟩ = some (.slice A2 3 Ae2) := (blk_cell B1 2).trans rfl; have y3 : w9.cell? ⟨g1, 3, none⟩ = some (.slice A3 3 Ae3) := (blk_cell B1 3).trans rfl; have y4 : w9.cell? ⟨g1, 4, none⟩ = some (.slice A4 3 Ae4) := (blk_cell B1 4).trans rfl; have y5 : w9.cell? ⟨g1, 5, none⟩ = some (.slice A5 2 Ae5) := (blk_cell B1 5).trans rfl; clear B1; clear hb hbox hg; have zg50 : w9.cell? ⟨g5, 0, none⟩ = some (.slice none 0 0) := (blk_cell BKg5.out 0).trans rfl; have zg51 : w9.cell? ⟨g5, 1, none⟩ = some (.slice none 0 0) := (blk_cell BKg5.out 1).trans rfl; have zg52 : w9.cell? ⟨g5, 2, none⟩ = some (.slice none 0 0) := (blk_cell BKg5.out 2).trans rfl; have zg53 : w9.cell? ⟨g5, 3, none⟩ = some (.slice none 0 0) := (blk_cell BKg5.out 3).trans rfl; have zg54 : w9.cell? ⟨g5, 4, none⟩ = some (.slice none 0 0) := (blk_cell BKg5.out 4).trans rfl; have zg55 : w9.cell? ⟨g5, 5, none⟩ = some (.slice none 0 0) := (blk_cell BKg5.out 5).trans rfl; have fg50 := blk_frozen BKg5.out 0; have fg51 := blk_frozen BKg5.out 1; have fg52 := blk_frozen BKg5.out 2; have fg53 := blk_frozen BKg5.out 3; have fg54 := blk_frozen BKg5.out 4; have fg55 := blk_frozen BKg5.out 5) | ((with_reducible refine gate_callee (f := 12) rfl ?_); refine gL 26 Tryd.func12 #[.agg #[.slice D0 1 De0, .slice D1 1 De1, .slice D2 3 De2, .slice D3 3 De3, .slice D4 3 De4, .slice D5 2 De5], .agg #[.slice A0 1 Ae0, .slice A1 1 Ae1, .slice A2 3 Ae2, .slice A3 3 Ae3, .slice A4 3 Ae4, .slice A5 2 Ae5]] ?_; have F1 := HE.out.set6 BKg5.out (.slice D0 1 De0) (.slice D1 1 De1) (.slice D2 3 De2) (.slice D3 3 De3) (.slice D4 3 De4) (.slice D5 2 De5); have F2 := HM.out.set6 BKg5.out (.slice D0 1 De0) (.slice D1 1 De1) (.slice D2 3 De2) (.slice D3 3 De3) (.slice D4 3 De4) (.slice D5 2 De5); have F3 := below6 HC.out GE5.out (.slice D0 1 De0) (.slice D1 1 De1) (.slice D2 3 De2) (.slice D3 3 De3) (.slice D4 3 De4) (.slice D5 2 De5); have F4 := far_blk6 BKg2.out NF5.out (.slice D0 1 De0) (.slice D1 1 De1) (.slice D2 3 De2) (.slice D3 3 De3) (.slice D4 3 De4) (.slice D5 2 De5); have hA := HD.out.below F3; (refine (laws_eqDesk.calls 700 D0 De0 [⟨[2, 3]⟩] D1 De1 [[0]] D2 De2 [-1, 0, 1] D3 De3 [-1, -1, 0] D4 De4 [2, 1, 1] D5 De5 [[0, 2, 1], [3, 0, 1]] A0 Ae0 [⟨[2, 3]⟩] A1 Ae1 [[0]] A2 Ae2 [-1, 0, 1] A3 Ae3 [-1, -1, 0] A4 Ae4 [2, 1, 1] A5 Ae5 [[0, 2, 1], [3, 0, 1]] true _ (Kd.R_reads' F1.h0).2.2 (Kd.R_reads' F1.h0).2.1 (Kd.R_reads' F1.h1).2.2 (Kd.R_reads' F1.h1).2.1 (Kd.R_reads' F1.h2).2.2 (Kd.R_reads' F1.h2).2.1 (Kd.R_reads' F1.h3).2.2 (Kd.R_reads' F1.h3).2.1 (Kd.R_reads' F1.h4).2.2 (Kd.R_reads' F1.h4).2.1 (Kd.R_reads' F1.h5).2.2 (Kd.R_reads' F1.h5).2.1 (Kd.R_reads' hA.h0).2.2 (Kd.R_reads' hA.h0).2.1 (Kd.R_reads' hA.h1).2.2 (Kd.R_reads' hA.h1).2.1 (Kd.R_reads' hA.h2).2.2 (Kd.R_reads' hA.h2).2.1 (Kd.R_reads' hA.h3).2.2 (Kd.R_reads' hA.h3).2.1 (Kd.R_reads' hA.h4).2.2 (Kd.R_reads' hA.h4).2.1 (Kd.R_reads' hA.h5).2.2 (Kd.R_reads' hA.h5).2.1 ev_eq).mono ?_); rintro e w10 ⟨rfl, hb⟩; refine ⟨_, rfl, ?_⟩; replace HM := Aside0.mk (F2.below hb); replace BKg2 := Aside0.mk (blk_below F4 hb); replace HC := Aside0.mk (below_step F3 hb); clear F1 F2 F3 F4 hA hb; have r0 : w10.cell? ⟨g2, 0, none⟩ = some (.slice B0 1 Be0) := (blk_cell BKg2.out 0).trans rfl; have r1 : w10.cell? ⟨g2, 1, none⟩ = some (.slice B1 1 Be1) := (blk_cell BKg2.out 1).trans rfl; have r2 : w10.cell? ⟨g2, 2, none⟩ = some (.slice B2 3 Be2) := (blk_cell BKg2.out 2).trans rfl; have r3 : w10.cell? ⟨g2, 3, none⟩ = some (.slice B3 3 Be3) := (blk_cell BKg2.out 3).trans rfl; have r4 : w10.cell? ⟨g2, 4, none⟩ = some (.slice B4 3 Be4) := (blk_cell BKg2.out 4).trans rfl; have r5 : w10.cell? ⟨g2, 5, none⟩ = some (.slice B5 2 Be5) := (blk_cell BKg2.out 5).trans rfl) | ((with_reducible refine gate_callee (f := 14) rfl ?_); refine gL 30 Tryd.func14 #[.agg #[.slice B0 1 Be0, .slice B1 1 Be1, .slice B2 3 Be2, .slice B3 3 Be3, .slice B4 3 Be4, .slice B5 2 Be5], .int .i64 1] ?_; have hD := HM.out; (refine (laws_heldDesk.calls 700 B0 Be0 [⟨[1, 2]⟩] B1 Be1 [[3]] B2 Be2 [4, 5, 6] B3 Be3 [7, 8, 9] B4 Be4 [10, 11, 12] B5 Be5 [[13, 14, 15], [16, 17, 18]] 1 19 _ (Kd.R_reads' hD.h0).2.2 (Kd.R_reads' hD.h0).2.1 (Kd.R_reads' hD.h1).2.2 (Kd.R_reads' hD.h1).2.1 (Kd.R_reads' hD.h2).2.2 (Kd.R_reads' hD.h2).2.1 (Kd.R_reads' hD.h3).2.2 (Kd.R_reads' hD.h3).2.1 (Kd.R_reads' hD.h4).2.2 (Kd.R_reads' hD.h4).2.1 (Kd.R_reads' hD.h5).2.2 (Kd.R_reads' hD.h5).2.1 ev_held).mono ?_); rintro e w11 ⟨rfl, hb⟩; refine ⟨_, rfl, ?_⟩; replace HC := Aside0.mk (below_step HC.out hb); clear hD hb))
  go_ret
  exact ⟨rfl, below_step HB.out HC.out⟩
end Go.Proofs.YtkfdfpcdcabcoaaDoor.QDesx
