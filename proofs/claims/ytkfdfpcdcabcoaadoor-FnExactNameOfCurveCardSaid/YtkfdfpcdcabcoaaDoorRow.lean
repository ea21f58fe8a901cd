/- The law on names of curves holds whatever the curve; the card ties the three tables that it reads. -/
import Derived.Test.YtkfdfpcdcabcoaaDoorRows
import Derived.Test.YtkfdfpcdcabcoaaDoorTie
import Derived.Test.YtkfdfpcdcabcoaaDoorCards
import Derived.Test.YtkfdfpcdcabcoaaDoorPB
import Derived.ProofKit
import Derived.LaidMore
import Derived.Lib.LaidTab
import Derived.Lib.LaidIn
import Derived.Lib.SmallJoins
import Derived.Deep.Slices
import Derived.MakeChecks
import Derived.Handed
import Derived.SevenTiedAt
set_option linter.unusedVariables false
set_option linter.unusedSimpArgs false
namespace Go.Proofs.YtkfdfpcdcabcoaaDoor.NameRow
open Go.Joins Go.ChangeShapes Go.WideShapes Go.ChangeAt Go.RowKit Go.Deep
open Go.Proofs.YtkfdfpcdcabcoaaDoorW.PrintWords Go.Proofs.YtkfdfpcdcabcoaaDoor.QName

theorem own : ownKnob Tryd.prog.godebug = none := by kernel_rfl
theorem laidOut : laidOutB Tryd.prog = true := by kernel_rfl
theorem g32 : Tryd.prog.globalNamed "math/bits.deBruijn32tab" = some 1 := by kernel_rfl
theorem g64 : Tryd.prog.globalNamed "math/bits.deBruijn64tab" = some 2 := by kernel_rfl
theorem gPow : Tryd.prog.globalNamed "internal/strconv.uint64pow10" = some 0 := by kernel_rfl
theorem tPow : (Tryd.prog.globals[0]?).map (·.type) = some 146 := by kernel_rfl

/-! ### The argument's parts -/
section
variable {H : Type} {enc : TypeId × Value → H} {w : World} {base : Nat} {held : Bool}
theorem rows_of {α : Type} (d : Kd α) (hd : d.sz = 1) [Inhabited α] {a : Addr} {n : Nat} {V : Nat → Value} (hn : n ≤ maxLen) (h : ∀ i, i < n → w.cell? (a.add i) = some (V i) ∧ ∃ x : α, d.K w x [V i]) :
    ∃ xs : List α, xs.length = n ∧ Kd.C d w (some a) n xs ∧ ∀ i, i < n → d.K w (xs.getD i default) [V i] := by
  obtain ⟨f, hf⟩ := choose_lt (fun i hi => (h i hi).2)
  refine ⟨(List.range n).map f, by simp, ⟨by simp, by unfold maxLen at hn; omega, fun _ => ⟨a, rfl, fun j p hj => ?_⟩⟩, fun i hi => ?_⟩
  · have hjn : j < n := by
      have := (List.getElem?_eq_some_iff.1 hj).1
      simpa using this
    have hp : p = f j := by
      rw [List.getElem?_map, List.getElem?_range hjn] at hj
      simpa using hj.symm
    subst hp
    refine ⟨[V j], by rw [hd]; rfl, hf j hjn, fun i u hu => ?_⟩
    cases i with
    | zero =>
      simp only [List.getElem?_cons_zero, Option.some.injEq] at hu
      subst hu
      rw [hd, Nat.mul_one, Nat.add_zero]
      exact (h j hjn).1
    | succ i => simp at hu
  · rw [List.getD_eq_getElem?_getD, List.getElem?_map, List.getElem?_range hi]
    exact hf i hi
theorem ints_of {fuel : Nat} {v : Value} {x : DataW H × List MemPlace} (h : DataW.trod enc Tryd.prog w base (fun _ => true) held fuel 35 [v] = some x) :
    ∃ xs : List Int, (Kd.slice 2 (Kd.int .i64)).K w xs [v] ∧ xs.length ≤ 9223372036854775807 := by
  rcases open_ints Tryd.underlying35 Tryd.underlying2 (by kernel_rfl) h with ⟨hcs, _⟩ | ⟨a, len, cap, zs, hcs, _, hl, hm, hz, _, hcell, _⟩
  · exact ⟨[], ⟨none, 0, hcs, Nat.le_refl _, ⟨rfl, by simp, fun h0 => absurd h0 (by simp)⟩⟩, by simp⟩
  · simp only [if_true] at hz
    have hlen : (zs.take len).length = len := by simp; omega
    refine ⟨zs.take len, ⟨some a, cap, by rw [hlen]; exact hcs, by omega, ⟨rfl, by unfold maxLen at hm; omega, fun _ => ⟨a, rfl, fun j p hj => ?_⟩⟩⟩, by unfold maxLen at hm; omega⟩
    have hj2 : j < len := by
      have := (List.getElem?_eq_some_iff.1 hj).1
      omega
    have hp : zs.getD j 0 = p := by
      rw [List.getElem?_take_of_lt hj2] at hj
      rw [List.getD_eq_getElem?_getD, hj]
      rfl
    refine ⟨[.int .i64 p], rfl, rfl, fun i u hu => ?_⟩
    cases i with
    | zero =>
      simp only [List.getElem?_cons_zero, Option.some.injEq] at hu
      subst hu
      rw [show j * (Kd.int .i64).sz + 0 = j from by show j * 1 + 0 = j; omega, ← hp]
      exact hcell j (by omega)
    | succ i => simp at hu
instance : Inhabited S71 := ⟨z71⟩
theorem len_of {xs : List Int} {A c} {n : Nat} (h : (Kd.slice 2 (Kd.int .i64)).K w xs [.slice A n c]) : xs.length = n := by
  obtain ⟨A', c', he, _⟩ := h
  injection he with he
  injection he with _ h2
  exact h2.symm
theorem common_of {fuel : Nat} {v : Value} {x : DataW H × List MemPlace} (h : DataW.trod enc Tryd.prog w base (fun _ => true) held fuel 23 [v] = some x) :
    ∃ (A : Option Addr) (c : Nat) (xs : List (List Int)), v = .slice A xs.length c ∧ xs.length ≤ c ∧ Kd.C (Kd.slice 2 (Kd.int .i64)) w A xs.length xs ∧ xs.length ≤ 9223372036854775807 ∧ ∀ i, i < xs.length → (rd_L1 xs (i : Int)).length ≤ 9223372036854775807 := by
  rcases open_slice1 Tryd.underlying23 (by kernel_rfl) h with ⟨hcs, _⟩ | ⟨a, len, cap, m, n, V, D, Pl, hcs, _, hl, hm, hmm, _, hx⟩
  · refine ⟨none, 0, [], by simpa using hcs, Nat.le_refl _, ⟨rfl, by simp, fun h0 => absurd h0 (by simp)⟩, by simp, fun i hi => by simp at hi⟩
  · simp only [if_true] at hmm
    have hm' : len ≤ maxLen := by omega
    have hL : ∀ i, i < len → ∃ xs : List Int, (Kd.slice 2 (Kd.int .i64)).K w xs [V i] ∧ xs.length ≤ 9223372036854775807 := fun i hi => ints_of (hx i (by omega)).2
    obtain ⟨xs, hxl, hC, hK⟩ := rows_of (Kd.slice 2 (Kd.int .i64)) rfl hm' (fun i hi => ⟨(hx i (by omega)).1, (hL i hi).imp fun _ h => h.1⟩)
    subst hxl
    refine ⟨some a, cap, xs, by simpa using hcs, hl, hC, by unfold maxLen at hm'; omega, fun i hi => ?_⟩
    obtain ⟨ys, hy, hyl⟩ := hL i hi
    have h2 := hK i hi
    obtain ⟨A', c', he, _⟩ := hy
    rw [he] at h2
    have := len_of h2
    have e : rd_L1 xs (i : Int) = xs.getD i default := rfl
    rw [e, this]
    exact hyl
theorem branches_of {fuel : Nat} {v : Value} {x : DataW H × List MemPlace} (h : DataW.trod enc Tryd.prog w base (fun _ => true) held fuel 22 [v] = some x) :
    ∃ (A : Option Addr) (c : Nat) (xs : List S71), v = .slice A xs.length c ∧ xs.length ≤ c ∧ Kd.C k71 w A xs.length xs ∧ xs.length ≤ 9223372036854775807 ∧ ∀ i, i < xs.length → (rd_T71 xs (i : Int)).f0.length ≤ 9223372036854775807 := by
  rcases open_slice1 Tryd.underlying22 (by kernel_rfl) h with ⟨hcs, _⟩ | ⟨a, len, cap, m, n, V, D, Pl, hcs, _, hl, hm, hmm, _, hx⟩
  · refine ⟨none, 0, [], by simpa using hcs, Nat.le_refl _, ⟨rfl, by simp, fun h0 => absurd h0 (by simp)⟩, by simp, fun i hi => by simp at hi⟩
  · simp only [if_true] at hmm
    have hm' : len ≤ maxLen := by omega
    have hL : ∀ i, i < len → ∃ xs : S71, k71.K w xs [V i] ∧ xs.f0.length ≤ 9223372036854775807 := fun i hi => by
      obtain ⟨y, n', _, _, hy⟩ := trod_struct1 Tryd.underlying71 (hx i (by omega)).2
      have c1 : Tryd.prog.cellsOf 35 = 1 := by kernel_rfl
      rw [c1] at hy
      obtain ⟨zs, hz, hzl⟩ := ints_of (show DataW.trod enc Tryd.prog w base (fun _ => true) held n' 35 [V i] = some y from hy)
      exact ⟨⟨zs⟩, hz, hzl⟩
    obtain ⟨xs, hxl, hC, hK⟩ := rows_of k71 rfl hm' (fun i hi => ⟨(hx i (by omega)).1, (hL i hi).imp fun _ h => h.1⟩)
    subst hxl
    refine ⟨some a, cap, xs, by simpa using hcs, hl, hC, by unfold maxLen at hm'; omega, fun i hi => ?_⟩
    obtain ⟨ys, hy, hyl⟩ := hL i hi
    have h2 : (Kd.slice 2 (Kd.int .i64)).K w (xs.getD i default).f0 [V i] := hK i hi
    obtain ⟨A', c', he, _⟩ := hy
    rw [he] at h2
    have := len_of h2
    have e : rd_T71 xs (i : Int) = xs.getD i default := rfl
    rw [e, this]
    exact hyl
end

/-! ### The tables -/
/-- What the condition gives the walks. -/
theorem pow_of {W : World} (h : laidMetH Tryd.prog Rows.fnExactNameOfCurveRow.laid W) : Lib.TabIs Tryd.prog W "internal/strconv.uint64pow10" .u64 Lib.pow10Tab := by
  rw [MakeChecks.laidMetH_plain _ _ _ (by kernel_rfl)] at h
  obtain ⟨ps, ⟨g0, t0, cs0, f0, p0, q0, _, _, _, _, ⟨g1, t1, cs1, f1, p1, q1, _, _, _, _, ⟨g2, t2, cs2, f2, p2, q2, hg, ht, hv, hd, _, _⟩, _⟩, _⟩, _, _⟩ := h
  obtain rfl := Option.some.inj (gPow.symm.trans hg)
  obtain rfl := Option.some.inj (tPow.symm.trans ht)
  unfold Lib.TabIs
  have e : cs2.toList = Lib.pow10Tab.map fun z => Value.int .u64 z := Lib.cells_of_tab (zs := Lib.pow10Tab) Tryd.underlying146 Tryd.underlying127 (by kernel_rfl) (by kernel_rfl) hd
  rw [hv, ← e]

/-- The numbers of a listed table. -/
def nums (d : DataW Unit) : Array Value := match d with
  | .agg l => (l.map fun x => match x with
    | .lit (.int k n) => Value.int k n
    | _ => .nilIface).toArray
  | _ => #[]
/-- A world that meets the condition: the settled one, the three tables laid. -/
noncomputable def laidWorld (os : Os) : World :=
  let w0 := World.holding Tryd.prog os ⟨#[], #[], []⟩
  { w0 with heap := ((w0.heap.modify 0 fun
      | .cells _ t frozen => .cells (nums Rows.laid_internal_strconv_uint64pow10) t frozen
      | o => o).modify 1 fun
      | .cells _ t frozen => .cells (nums Rows.laid_math_bits_deBruijn32tab) t frozen
      | o => o).modify 2 fun
      | .cells _ t frozen => .cells (nums Rows.laid_math_bits_deBruijn64tab) t frozen
      | o => o }
abbrev zeroArg : Value := .agg #[.slice none 0 0, .slice none 0 0]
theorem laid_met (os : Os) (args : Array Value) : laidMetH Tryd.prog Rows.fnExactNameOfCurveRow.laid ((laidWorld os).forCall (fun _ _ => 0) ⟨#[], args, []⟩).memory := by
  rw [MakeChecks.laidMetH_plain _ _ _ (by kernel_rfl)]
  exact (LaidIn.of_run [0, 1, 2] 8 (by kernel_rfl) (by kernel_rfl) (by kernel_rfl) (by kernel_rfl)).met

/-! ### The row -/
set_option maxRecDepth 100000 in
theorem lifted (os : Os) (started : os.Started) (H : Type) (enc : TypeId × Value → H) :
    ReturnsInHanded {} Tryd.checked os 3 .any (fun w args => (Rows.fnExactNameOfCurveSpec.pre enc Tryd.prog Tryd.f3 [] false w args ∧ laidMetH Tryd.prog Rows.fnExactNameOfCurveRow.laid w) ∧ sizedMet enc Tryd.prog Tryd.f3 (OpenSpec.ofChange Rows.fnExactNameOfCurveSpec) false w args)
      (Rows.fnExactNameOfCurveSpec.post enc Tryd.prog Tryd.f3 false true false false) := by
  refine returnsInHanded_of_change_and (C := Tryd.checked) (X := fun w _ => laidMetH Tryd.prog Rows.fnExactNameOfCurveRow.laid w) (fun _ _ _ hh h => h.of_heap hh) own started (by kernel_rfl) Tryd.func3
    (ChangeSpec.witness_at (enc := enc) (C := Tryd.checked) (os := os) (X := fun w _ => laidMetH Tryd.prog Rows.fnExactNameOfCurveRow.laid w) false (laidWorld os) #[zeroArg] 8 rfl (by kernel_rfl) (by kernel_rfl) (by kernel_rfl) (by kernel_rfl) (by kernel_rfl) (laid_met os _)) ?_
  intro W base args ds gs before hval0 hW _ _ hL _
  have hval : ∀ (j : Nat) t v, Tryd.f3.params[j]? = some t → args[j]? = some v → Value.okWide Tryd.prog W .any base t v := hval0
  have hW' := hW
  obtain ⟨p, q, hA0, hV, rfl, hfz, hnd⟩ := hW
  have hA : DataW.TrodAll enc Tryd.prog W 0 (fun _ => true) true Tryd.f3.params.toList args.toList ds p := hA0
  rw [Tryd.params3] at hA hval
  obtain ⟨v0, d0, rfl, rfl, h0⟩ := trodAll_one hA
  obtain ⟨rfl, rfl⟩ := trodVars_none hV
  have k0 := h0
  have lt0 : ∀ x ∈ p, x.block < W.heap.size := by
    obtain ⟨m, hm⟩ := k0
    exact DataW.trod_lt m _ _ _ hm
  obtain ⟨u0, u1, y0, y1, n, rfl, rfl, rfl, e0, e1⟩ := open_agg2 Tryd.underlying25 (by kernel_rfl) (by kernel_rfl) (hval 0 25 v0 rfl rfl) h0
  obtain ⟨A0, c0, B, rfl, hc0, hB, hBl, hBi⟩ := branches_of e0
  obtain ⟨A1, c1, C, rfl, hc1, hC, hCl, hCi⟩ := common_of e1
  obtain ⟨K, hK⟩ := Plain.law_ev B C hBl hCl hBi hCi
  clear hA0 hval0
  simp only [List.append_nil] at hW'
  refine (laws_FnExactNameOfCurve.calls K A0 c0 B A1 c1 C true W (pow_of hL) hB hc0 hC hc1 (hK K (Nat.le_refl _))).mono fun e W' ⟨he, bel⟩ => ?_
  subst he
  exact ⟨_, rfl, _, _, _, [], _, [], hW', trodAll_mk1 (shut_bool Tryd.underlying4 _), trodAll_mk1 (Below.trod laidOut (by kernel_rfl) (of_decide_eq_true (by kernel_rfl)) k0 bel lt0), rfl, bel.frame _, fun h => by cases h⟩
theorem said : Rows.FnExactNameOfCurveSaid :=
  OpenClaim.holds_of_wide 3 Tryd.f3 rfl rfl rfl rfl rfl rfl rfl ⟨rfl, rfl, rfl, rfl, rfl⟩ rfl rfl rfl rfl rfl (by kernel_rfl) Tryd.func3 (by kernel_rfl)
    (of_decide_eq_true (by kernel_rfl)) (by unfold Func.isWrapper; first | (rw [if_pos (by decide +kernel)]; kernel_rfl) | (rw [if_neg (by decide +kernel)]; exact ⟨rfl, rfl⟩))
    (fun os started H enc _ => lifted os started H enc)
end Go.Proofs.YtkfdfpcdcabcoaaDoor.NameRow

namespace Go.Proofs.YtkfdfpcdcabcoaaDoor
open Go
/-- THE TIED CARD. -/
theorem nameOfCurve_card : Rows.FnExactNameOfCurveCardSaid :=
  Claim7.holds_tied_plain_at .later [] [.data, .data, .data] true (true, "f6d7430ec1d0fd1dfacbe5206ed1cb42bc5b3a9d760104a4d2777575a6044cef") false
    NameRow.said (fun _ h => by cases h) (by kernel_rfl) (fun _ h => by cases h) fnExactNameOfCurve_row_tie rfl ⟨rfl, rfl⟩ (by kernel_rfl) rfl
    (fun f fn hf hfn => by
      obtain rfl : f = 3 := Option.some.inj ((show Tryd.prog.funcNamed "loop.example/g01140/laws.FnExactNameOfCurve" = some 3 by kernel_rfl).symm.trans hf) |>.symm
      obtain rfl : fn = Tryd.f3 := (Option.some.inj (Tryd.func3.symm.trans hfn)).symm
      exact ⟨by kernel_rfl, fun j t ht => by
        rw [Tryd.params3] at ht
        have h3 : t = 25 := by
          rcases j with _ | j
          · simpa using ht.symm
          · simp at ht
        subst h3
        exact (show Tryd.prog.wantsStandIn 25 = false by kernel_rfl)⟩)
    (by kernel_rfl)
#print axioms nameOfCurve_card
end Go.Proofs.YtkfdfpcdcabcoaaDoor
