/- Plain curves: what a curve is, deltas, tangents, names; the law holds. No program. -/
import Derived.Test.YtkfdfpcdcabcoaaDoorPA
set_option linter.unusedVariables false
set_option linter.unusedSimpArgs false
namespace Go.Proofs.YtkfdfpcdcabcoaaDoor.Plain
open Go.RowKit Go.Proofs.YtkfdfpcdcabcoaaDoorW.PrintWords Go.Proofs.YtkfdfpcdcabcoaaDoor.QName
def Dc (g : Nat → Option Bool) (P : Prop) : Prop := ∃ b : Bool, (b = true ↔ P) ∧ ∃ K, ∀ k, K ≤ k → g k = some b
theorem dc_step {g g' : Nat → Option Bool} {P Q : Prop} (h : Dc g' Q) (hi : Q ↔ P) (K0 : Nat) (he : ∀ k, K0 ≤ k → g (k + 1) = g' k) : Dc g P := by
  obtain ⟨b, hb, K, hK⟩ := h
  exact ⟨b, hb.trans hi, ev_intro (max K K0) fun k hk => by rw [he k (by omega), hK k (by omega)]⟩
theorem dc_same {g g' : Nat → Option Bool} {P Q : Prop} (h : Dc g' Q) (hi : Q ↔ P) (K0 : Nat) (he : ∀ k, K0 ≤ k → g k = g' k) : Dc g P := by
  obtain ⟨b, hb, K, hK⟩ := h
  exact ⟨b, hb.trans hi, max K K0, fun k hk => by rw [he k (by omega), hK k (by omega)]⟩
theorem dc_false {g : Nat → Option Bool} {P : Prop} (hn : ¬ P) (K0 : Nat) (he : ∀ k, K0 ≤ k → g (k + 1) = some false) : Dc g P :=
  ⟨false, ⟨fun h => absurd h (by simp), fun h => absurd h hn⟩, ev_intro K0 he⟩
theorem dc_true {g : Nat → Option Bool} {P : Prop} (hn : P) (K0 : Nat) (he : ∀ k, K0 ≤ k → g (k + 1) = some true) : Dc g P :=
  ⟨true, ⟨fun _ => hn, fun _ => rfl⟩, ev_intro K0 he⟩
theorem all_and {n i : Nat} {c : Nat → Prop} {Q : Prop} (h : i < n) (hc : c i) : ((∀ j, i + 1 ≤ j → j < n → c j) ∧ Q) ↔ ((∀ j, i ≤ j → j < n → c j) ∧ Q) :=
  ⟨fun x => ⟨fun j h1 h2 => by
      rcases Nat.eq_or_lt_of_le h1 with rfl | h3
      · exact hc
      · exact x.1 j h3 h2, x.2⟩, fun x => ⟨fun j h1 h2 => x.1 j (by omega) h2, x.2⟩⟩
theorem all_nil {n i : Nat} {c : Nat → Prop} {Q : Prop} (h : n ≤ i) : Q ↔ ((∀ j, i ≤ j → j < n → c j) ∧ Q) :=
  ⟨fun x => ⟨fun j h1 h2 => absurd h2 (by omega), x⟩, fun x => x.2⟩
theorem all_not {n i : Nat} {c : Nat → Prop} {Q : Prop} (h : i < n) (hc : ¬ c i) : ¬ ((∀ j, i ≤ j → j < n → c j) ∧ Q) := fun x => hc (x.1 i (Nat.le_refl _) h)
def mt (M : List (List Int)) (i j : Nat) : Int := rd (rd_L1 M (i : Int)) (j : Int)
def br (B : List S74) (i : Nat) : List Int := (rd_T74 B (i : Int)).f0
def U (M : List (List Int)) (i j z : Nat) : Prop := i ≠ j → i ≠ z → z ≠ j → ¬ mt M i j < mn (mt M i z) (mt M z j)
structure Tab (B : List S74) (M : List (List Int)) : Prop where
  n6 : B.length ≤ 6
  len : M.length = B.length
  row : ∀ i, i < B.length → (rd_L1 M (i : Int)).length = B.length
theorem pair_evI {t u : List Int} (ht : brB t = true) (hu : brB u = true) {m : Int} (h1 : 1 ≤ m) (h2 : m ≤ 200) : ∃ K, ∀ k, K ≤ k → spec_l09Pair.f k t u m = some (shB t u m.toNat) := by
  obtain ⟨n, rfl⟩ := Int.eq_ofNat_of_zero_le (show 0 ≤ m by omega)
  exact pair_ev ht hu (by omega) (by omega)
theorem share_evI {t u : List Int} {m : Int} (h1 : 1 ≤ m) (h2 : m ≤ 200) : ∃ K, ∀ k, K ≤ k → impl_canShare.f k (code t 200) (code u 200) m = some (shB t u m.toNat) := by
  obtain ⟨n, rfl⟩ := Int.eq_ofNat_of_zero_le (show 0 ≤ m by omega)
  exact share_ev (by omega) (by omega)
section
variable {B : List S74} {M : List (List Int)}
theorem u5 (t : Tab B M) {i j : Nat} (hi : i < B.length) (hj : j < B.length) {Q : Prop} (hn : Dc (fun k => spec_l09Is.l4 k B.length i ((j + 1 : Nat) : Int) B M) Q) :
    ∀ d z : Nat, z + d = B.length → Dc (fun k => spec_l09Is.l5 k B.length i j z B M) ((∀ z', z ≤ z' → z' < B.length → U M i j z') ∧ Q)
  | 0, z, h => dc_step hn (all_nil (by omega)) 0 fun k _ => by
    simp only [spec_l09Is.l5]
    rw [if_neg (by omega), wi j (by have := t.n6; omega)]
  | d + 1, z, h => by
    have hn6 := t.n6
    have hl := t.len
    have hri := t.row i hi
    have hrz := t.row z (by omega)
    have ih := u5 t hi hj hn d (z + 1) (by omega)
    by_cases h1 : i = j
    · exact dc_step ih (all_and (by omega) (fun h => absurd h1 h)) 0 fun k _ => by
        simp only [spec_l09Is.l5]
        rw [if_pos (by omega), if_pos (by omega), wi z (by omega)]
    by_cases h2 : i = z
    · exact dc_step ih (all_and (by omega) (fun _ h => absurd h2 h)) 0 fun k _ => by
        simp only [spec_l09Is.l5]
        rw [if_pos (by omega), if_neg (by omega), if_pos (by omega), wi z (by omega)]
    by_cases h3 : z = j
    · exact dc_step ih (all_and (by omega) (fun _ _ h => absurd h3 h)) 0 fun k _ => by
        simp only [spec_l09Is.l5]
        rw [if_pos (by omega), if_neg (by omega), if_neg (by omega), if_pos (by omega), wi z (by omega)]
    by_cases h4 : mt M i j < mn (mt M i z) (mt M z j)
    · exact dc_false (all_not (by omega) (fun h => h h1 h2 h3 h4)) 0 fun k _ => by
        simp only [spec_l09Is.l5]
        unfold mt at h4
        rw [if_pos (by omega), if_neg (by omega), if_neg (by omega), if_neg (by omega), if_pos (by omega), if_pos (by omega), if_pos (by omega), if_pos (by omega), if_pos (by omega), if_pos (by omega), if_pos (by omega), if_pos (by omega), if_pos h4]
    · exact dc_step ih (all_and (by omega) (fun _ _ _ => h4)) 0 fun k _ => by
        simp only [spec_l09Is.l5]
        unfold mt at h4
        rw [if_pos (by omega), if_neg (by omega), if_neg (by omega), if_neg (by omega), if_pos (by omega), if_pos (by omega), if_pos (by omega), if_pos (by omega), if_pos (by omega), if_pos (by omega), if_pos (by omega), if_pos (by omega), if_neg h4, wi z (by omega)]
theorem all0 {n : Nat} {c : Nat → Prop} {Q : Prop} : ((∀ j, 0 ≤ j → j < n → c j) ∧ Q) ↔ ((∀ j, j < n → c j) ∧ Q) :=
  ⟨fun x => ⟨fun j h => x.1 j (by omega) h, x.2⟩, fun x => ⟨fun j _ h => x.1 j h, x.2⟩⟩
theorem all_cons {n i : Nat} {c : Nat → Prop} {Q : Prop} (h : i < n) : (c i ∧ ((∀ j, i + 1 ≤ j → j < n → c j) ∧ Q)) ↔ ((∀ j, i ≤ j → j < n → c j) ∧ Q) :=
  ⟨fun x => (all_and h x.1).mp x.2, fun x => ⟨x.1 i (Nat.le_refl _) h, (all_and h (x.1 i (Nat.le_refl _) h)).mpr x⟩⟩
theorem u4 (t : Tab B M) {i : Nat} (hi : i < B.length) {Q : Prop} (hn : Dc (fun k => spec_l09Is.l3 k B.length ((i + 1 : Nat) : Int) B M) Q) :
    ∀ d j : Nat, j + d = B.length → Dc (fun k => spec_l09Is.l4 k B.length i j B M) ((∀ j', j ≤ j' → j' < B.length → ∀ z, z < B.length → U M i j' z) ∧ Q)
  | 0, j, h => dc_step hn (all_nil (by omega)) 0 fun k _ => by
    simp only [spec_l09Is.l4]
    rw [if_neg (by omega), wi i (by have := t.n6; omega)]
  | d + 1, j, h => dc_step (u5 t hi (show j < B.length by omega) (u4 t hi hn d (j + 1) (by omega)) B.length 0 (by omega)) (all0.trans (all_cons (c := fun j' => ∀ z, z < B.length → U M i j' z) (show j < B.length by omega))) 0 fun k _ => by
    simp only [spec_l09Is.l4]
    rw [if_pos (by omega)]
    rfl
theorem u3 (t : Tab B M) : ∀ d i : Nat, i + d = B.length → Dc (fun k => spec_l09Is.l3 k B.length i B M) ((∀ i', i ≤ i' → i' < B.length → ∀ j, j < B.length → ∀ z, z < B.length → U M i' j z) ∧ True)
  | 0, i, h => dc_true ⟨fun i' h1 h2 => absurd h2 (by omega), trivial⟩ 0 fun k _ => by
    simp only [spec_l09Is.l3]
    rw [if_neg (by omega)]
  | d + 1, i, h => dc_step (u4 t (show i < B.length by omega) (u3 t d (i + 1) (by omega)) B.length 0 (by omega)) (all0.trans (all_cons (c := fun i' => ∀ j, j < B.length → ∀ z, z < B.length → U M i' j z) (show i < B.length by omega))) 0 fun k _ => by
    simp only [spec_l09Is.l3]
    rw [if_pos (by omega)]
    rfl
end
end Go.Proofs.YtkfdfpcdcabcoaaDoor.Plain
namespace Go.Proofs.YtkfdfpcdcabcoaaDoor.Plain
open Go.RowKit Go.Proofs.YtkfdfpcdcabcoaaDoorW.PrintWords Go.Proofs.YtkfdfpcdcabcoaaDoor.QName
def Cd (B : List S74) (M : List (List Int)) (i j : Nat) : Prop :=
  (i = j → mt M i j = 0) ∧ (i ≠ j → 1 ≤ mt M i j ∧ mt M i j ≤ 200 ∧ mt M i j = mt M j i ∧ (i < j → shB (br B i) (br B j) (mt M i j).toNat = true))
section
variable {B : List S74} {M : List (List Int)}
theorem j4f (t : Tab B M) (hb : ∀ i, i < B.length → brB (br B i) = true) {i j : Nat} (hi : i < B.length) (hj : j < B.length) {m : Int} (h1 : 1 ≤ m) (h2 : m ≤ 200) {Q : Prop} (hn : Dc (fun k => spec_l09Is.l2 k B.length i ((j + 1 : Nat) : Int) B M) Q) :
    Dc (fun k => spec_l09Is.j4 k B.length i j m false B M) ((i < j → shB (br B i) (br B j) m.toNat = true) ∧ Q) := by
  have hn6 := t.n6
  by_cases hij : i < j
  · obtain ⟨K, hK⟩ := pair_evI (hb i hi) (hb j hj) h1 h2
    unfold br at hK
    by_cases hs : shB (br B i) (br B j) m.toNat = true
    · refine dc_step hn ⟨fun h => ⟨fun _ => hs, h⟩, fun h => h.2⟩ K fun k hk => ?_
      simp only [spec_l09Is.j4]
      unfold br at hs
      rw [if_neg (by simp), if_pos (by omega), if_pos (by omega), if_pos (by omega), if_pos (by omega), if_pos (by omega), hK k hk]
      simp only [Option.bind_some]
      rw [if_pos hs, wi j (by omega)]
    · refine dc_false (fun h => hs (h.1 hij)) K fun k hk => ?_
      simp only [spec_l09Is.j4]
      unfold br at hs
      rw [if_neg (by simp), if_pos (by omega), if_pos (by omega), if_pos (by omega), if_pos (by omega), if_pos (by omega), hK k hk]
      simp only [Option.bind_some]
      rw [if_neg hs]
  · refine dc_step hn ⟨fun h => ⟨fun h => absurd h hij, h⟩, fun h => h.2⟩ 0 fun k _ => ?_
    simp only [spec_l09Is.j4]
    rw [if_neg (by simp), if_neg (by omega), wi j (by omega)]
theorem j4t (a b c d : Int) : Dc (fun k => spec_l09Is.j4 k a b c d true B M) False := dc_false id 0 fun k _ => by
  simp only [spec_l09Is.j4]
  rw [if_pos trivial]
theorem c2 (t : Tab B M) (hb : ∀ i, i < B.length → brB (br B i) = true) {i : Nat} (hi : i < B.length) {Q : Prop} (hn : Dc (fun k => spec_l09Is.l1 k B.length ((i + 1 : Nat) : Int) B M) Q) :
    ∀ d j : Nat, j + d = B.length → Dc (fun k => spec_l09Is.l2 k B.length i j B M) ((∀ j', j ≤ j' → j' < B.length → Cd B M i j') ∧ Q)
  | 0, j, h => dc_step hn (all_nil (by omega)) 0 fun k _ => by
    simp only [spec_l09Is.l2]
    rw [if_neg (by omega), wi i (by have := t.n6; omega)]
  | d + 1, j, h => by
    have hn6 := t.n6
    have hl := t.len
    have hri := t.row i hi
    have hrj := t.row j (by omega)
    have ih := c2 t hb hi hn d (j + 1) (by omega)
    by_cases h1 : i = j
    · by_cases h2 : mt M i j = 0
      · refine dc_step ih (all_and (by omega) ⟨fun _ => h2, fun h => absurd h1 h⟩) 0 fun k _ => ?_
        simp only [spec_l09Is.l2]
        unfold mt at h2
        rw [if_pos (by omega), if_pos (by omega), if_pos (by omega), if_pos (by omega), if_pos (by omega), if_pos (by omega), if_pos h2, wi j (by omega)]
      · refine dc_false (all_not (by omega) (fun h => h2 (h.1 h1))) 0 fun k _ => ?_
        simp only [spec_l09Is.l2]
        unfold mt at h2
        rw [if_pos (by omega), if_pos (by omega), if_pos (by omega), if_pos (by omega), if_pos (by omega), if_pos (by omega), if_neg h2]
    · by_cases h2 : 1 ≤ mt M i j ∧ mt M i j ≤ 200
      · by_cases h3 : mt M i j = mt M j i
        · refine dc_step (j4f t hb hi (show j < B.length by omega) h2.1 h2.2 ih) ?_ 0 fun k _ => ?_
          · refine Iff.trans ?_ (all_cons (show j < B.length by omega))
            exact ⟨fun x => ⟨⟨fun h => absurd h h1, fun _ => ⟨h2.1, h2.2, h3, x.1⟩⟩, x.2⟩, fun x => ⟨(x.1.2 h1).2.2.2, x.2⟩⟩
          · simp only [spec_l09Is.l2]
            unfold mt at h2 h3
            rw [if_pos (by omega), if_pos (by omega), if_pos (by omega), if_pos (by omega), if_pos (by omega), if_neg (by omega), inR]
            simp only [Option.bind_some]
            rw [decide_eq_true h2.1, decide_eq_true h2.2, if_pos (show (true && true) = true from rfl), if_pos (by omega), if_pos (by omega), ← h3, bne_self_eq_false]
            rfl
        · refine dc_step (j4t (B := B) (M := M) (B.length : Int) i j (mt M i j)) ⟨False.elim, fun x => h3 ((x.1 j (Nat.le_refl _) (by omega)).2 h1).2.2.1⟩ 0 fun k _ => ?_
          simp only [spec_l09Is.l2]
          unfold mt at h2 h3 ⊢
          rw [if_pos (by omega), if_pos (by omega), if_pos (by omega), if_pos (by omega), if_pos (by omega), if_neg (by omega), inR]
          simp only [Option.bind_some]
          rw [decide_eq_true h2.1, decide_eq_true h2.2, if_pos (show (true && true) = true from rfl), if_pos (by omega), if_pos (by omega), bne_iff_ne.mpr h3]
      · refine dc_step (j4t (B := B) (M := M) (B.length : Int) i j (mt M i j)) ⟨False.elim, fun x => h2 ⟨((x.1 j (Nat.le_refl _) (by omega)).2 h1).1, ((x.1 j (Nat.le_refl _) (by omega)).2 h1).2.1⟩⟩ 0 fun k _ => ?_
        simp only [spec_l09Is.l2]
        unfold mt at h2 ⊢
        rw [if_pos (by omega), if_pos (by omega), if_pos (by omega), if_pos (by omega), if_pos (by omega), if_neg (by omega), inR]
        simp only [Option.bind_some]
        rw [if_neg]
        simp only [Bool.and_eq_true, decide_eq_true_eq]
        exact h2
theorem c1 (t : Tab B M) (hb : ∀ i, i < B.length → brB (br B i) = true) {Q : Prop} (hn : Dc (fun k => spec_l09Is.l3 k B.length ((0 : Nat) : Int) B M) Q) :
    ∀ d i : Nat, i + d = B.length → Dc (fun k => spec_l09Is.l1 k B.length i B M) ((∀ i', i ≤ i' → i' < B.length → ∀ j, j < B.length → Cd B M i' j) ∧ Q)
  | 0, i, h => dc_step hn (all_nil (by omega)) 0 fun k _ => by
    simp only [spec_l09Is.l1]
    rw [if_neg (by omega)]
    rfl
  | d + 1, i, h => dc_step (c2 t hb (show i < B.length by omega) (c1 t hb hn d (i + 1) (by omega)) B.length 0 (by omega)) (all0.trans (all_cons (c := fun i' => ∀ j, j < B.length → Cd B M i' j) (show i < B.length by omega))) 0 fun k _ => by
    simp only [spec_l09Is.l1]
    rw [if_pos (by omega)]
    rfl
/-- The whole of it, once the branches and rows are seen. -/
def Rest (B : List S74) (M : List (List Int)) : Prop := (∀ i, i < B.length → ∀ j, j < B.length → Cd B M i j) ∧ (∀ i, i < B.length → ∀ j, j < B.length → ∀ z, z < B.length → U M i j z)
def Bt (B : List S74) (M : List (List Int)) (i : Nat) : Prop := brB (br B i) = true ∧ (rd_L1 M (i : Int)).length = B.length
theorem c0 (h6 : B.length ≤ 6) (hM : M.length = B.length) (hs : ∀ i, i < B.length → (br B i).length ≤ 1000000000000) :
    ∀ d i : Nat, i + d = B.length → (∀ i', i' < i → Bt B M i') → Dc (fun k => spec_l09Is.l0 k B.length i B M) ((∀ i', i ≤ i' → i' < B.length → Bt B M i') ∧ Rest B M)
  | 0, i, h, hp => by
    have t : Tab B M := ⟨h6, hM, fun i' h' => (hp i' (by omega)).2⟩
    have hb : ∀ i, i < B.length → brB (br B i) = true := fun i' h' => (hp i' (by omega)).1
    have h3 := dc_step (g := fun k => spec_l09Is.l0 k B.length i B M) (c1 t hb (u3 t B.length 0 (by omega)) B.length 0 (by omega)) (P := Rest B M)
      ⟨fun x => ⟨fun i hi => x.1 i (by omega) hi, fun i hi => x.2.1 i (by omega) hi⟩, fun x => ⟨fun i _ hi => x.1 i hi, fun i _ hi => x.2 i hi, trivial⟩⟩ 0 (fun k _ => by
        simp only [spec_l09Is.l0]
        rw [if_neg (by omega)]
        rfl)
    exact dc_same h3 (all_nil (by omega)) 0 fun _ _ => rfl
  | d + 1, i, h, hp => by
    obtain ⟨K, hK⟩ := l03_ev (br B i) (hs i (by omega))
    unfold br at hK
    by_cases h1 : brB (br B i) = true
    · by_cases h2 : (rd_L1 M (i : Int)).length = B.length
      · refine dc_step (c0 h6 hM hs d (i + 1) (by omega) (fun i' h' => by
          by_cases he : i' = i
          · rw [he]
            exact ⟨h1, h2⟩
          · exact hp i' (by omega))) (all_and (by omega) ⟨h1, h2⟩) K fun k hk => ?_
        simp only [spec_l09Is.l0]
        unfold br at h1
        rw [if_pos (by omega), if_pos (by omega), if_pos (by omega), hK k hk]
        simp only [Option.bind_some]
        rw [if_pos h1, if_pos (by omega), if_pos (by omega), wi i (by omega)]
      · refine dc_false (all_not (by omega) (fun x => h2 x.2)) K fun k hk => ?_
        simp only [spec_l09Is.l0]
        unfold br at h1
        rw [if_pos (by omega), if_pos (by omega), if_pos (by omega), hK k hk]
        simp only [Option.bind_some]
        rw [if_pos h1, if_pos (by omega), if_neg (by omega)]
    · refine dc_false (all_not (by omega) (fun x => h1 x.1)) K fun k hk => ?_
      simp only [spec_l09Is.l0]
      unfold br at h1
      rw [if_pos (by omega), if_pos (by omega), if_pos (by omega), hK k hk]
      simp only [Option.bind_some]
      rw [if_neg h1]
def IsC (B : List S74) (M : List (List Int)) : Prop := (1 ≤ B.length ∧ B.length ≤ 6 ∧ M.length = B.length) ∧ (∀ i, i < B.length → Bt B M i) ∧ Rest B M
theorem is_ev (hs : ∀ i, i < B.length → (br B i).length ≤ 1000000000000) : Dc (fun k => spec_l09Is.f k B M) (IsC B M) := by
  have hT : ∀ n : Int, Dc (fun k => spec_l09Is.j0 k n true B M) False := fun n => dc_false id 0 fun k _ => by
    simp only [spec_l09Is.j0]
    rw [if_pos trivial]
  by_cases h1 : B.length < 1
  · refine dc_same (hT B.length) ⟨False.elim, fun x => absurd x.1.1 (by omega)⟩ 0 fun k _ => ?_
    unfold spec_l09Is.f
    rw [if_pos (by omega)]
  by_cases h2 : 6 < B.length
  · refine dc_same (hT B.length) ⟨False.elim, fun x => absurd x.1.2.1 (by omega)⟩ 0 fun k _ => ?_
    unfold spec_l09Is.f
    rw [if_neg (by omega), if_pos (by omega)]
  by_cases h3 : M.length = B.length
  · have h4 : Dc (fun k => spec_l09Is.j0 k B.length false B M) ((∀ i', 0 ≤ i' → i' < B.length → Bt B M i') ∧ Rest B M) := dc_step (c0 (by omega) h3 hs B.length 0 (by omega) (fun i h => absurd h (by omega))) Iff.rfl 0 fun k _ => by
      simp only [spec_l09Is.j0]
      rw [if_neg (by simp)]
      rfl
    refine dc_same h4 (all0.trans ⟨fun x => ⟨⟨by omega, by omega, h3⟩, x⟩, fun x => x.2⟩) 0 fun k _ => ?_
    unfold spec_l09Is.f
    rw [if_neg (by omega), if_neg (by omega), h3, bne_self_eq_false]
  · refine dc_same (hT B.length) ⟨False.elim, fun x => h3 x.1.2.2⟩ 0 fun k _ => ?_
    unfold spec_l09Is.f
    rw [if_neg (by omega), if_neg (by omega), bne_iff_ne.mpr (by omega)]
end
end Go.Proofs.YtkfdfpcdcabcoaaDoor.Plain
namespace Go.Proofs.YtkfdfpcdcabcoaaDoor.Plain
open Go.RowKit Go.Proofs.YtkfdfpcdcabcoaaDoorW.PrintWords Go.Proofs.YtkfdfpcdcabcoaaDoor.QName
def El (M : List (List Int)) (i j : Nat) : Prop := (i = j → mt M i j = 0) ∧ (i ≠ j → 1 ≤ mt M i j ∧ mt M i j ≤ 200)
def Rw (M : List (List Int)) (i : Nat) : Prop := (rd_L1 M (i : Int)).length = M.length ∧ ∀ j, j < M.length → El M i j
def Sy (M : List (List Int)) : Prop := ∀ i, i < M.length → ∀ j, j < M.length → mt M j i = mt M i j
section
variable {B : List S74} {M : List (List Int)}
theorem t3 (h6 : M.length ≤ 6) (hr : ∀ i, i < M.length → (rd_L1 M (i : Int)).length = M.length) {i : Nat} (hi : i < M.length) {Q : Prop} (hn : Dc (fun k => impl_isTable.l2 k M M M.length ((i + 1 : Nat) : Int)) Q) :
    ∀ d j : Nat, j + d = M.length → Dc (fun k => impl_isTable.l3 k M i M M.length i (rd_L1 M (i : Int)) M.length j) ((∀ j', j ≤ j' → j' < M.length → mt M j' i = mt M i j') ∧ Q)
  | 0, j, h => dc_step hn (all_nil (by omega)) 0 fun k _ => by
    simp only [impl_isTable.l3]
    rw [if_neg (by omega), wi i (by omega)]
  | d + 1, j, h => by
    have hri := hr i hi
    have hrj := hr j (by omega)
    by_cases h1 : mt M j i = mt M i j
    · refine dc_step (t3 h6 hr hi hn d (j + 1) (by omega)) (all_and (by omega) h1) 0 fun k _ => ?_
      simp only [impl_isTable.l3]
      unfold mt at h1
      rw [if_pos (by omega), if_pos (by omega), if_pos (by omega), if_pos (by omega), if_pos (by omega), if_pos (by omega), if_pos h1, wi j (by omega)]
    · refine dc_false (all_not (by omega) h1) 0 fun k _ => ?_
      simp only [impl_isTable.l3]
      unfold mt at h1
      rw [if_pos (by omega), if_pos (by omega), if_pos (by omega), if_pos (by omega), if_pos (by omega), if_pos (by omega), if_neg h1]
theorem t2 (h6 : M.length ≤ 6) (hr : ∀ i, i < M.length → (rd_L1 M (i : Int)).length = M.length) :
    ∀ d i : Nat, i + d = M.length → Dc (fun k => impl_isTable.l2 k M M M.length i) ((∀ i', i ≤ i' → i' < M.length → ∀ j, j < M.length → mt M j i' = mt M i' j) ∧ True)
  | 0, i, h => dc_true ⟨fun i' h1 h2 => absurd h2 (by omega), trivial⟩ 0 fun k _ => by
    simp only [impl_isTable.l2]
    rw [if_neg (by omega)]
  | d + 1, i, h => dc_step (t3 h6 hr (show i < M.length by omega) (t2 h6 hr d (i + 1) (by omega)) M.length 0 (by omega)) (all0.trans (all_cons (c := fun i' => ∀ j, j < M.length → mt M j i' = mt M i' j) (show i < M.length by omega))) 0 fun k _ => by
    have hri := hr i (by omega)
    simp only [impl_isTable.l2]
    rw [if_pos (by omega), if_pos (by omega), if_pos (by omega), hri]
    rfl
theorem t1 (h6 : M.length ≤ 6) {i : Nat} (hi : i < M.length) (hri : (rd_L1 M (i : Int)).length = M.length) {Q : Prop} (hn : Dc (fun k => impl_isTable.l0 k M M.length M M.length ((i + 1 : Nat) : Int)) Q) :
    ∀ d j : Nat, j + d = M.length → Dc (fun k => impl_isTable.l1 k M M.length i M M.length i (rd_L1 M (i : Int)) M.length j) ((∀ j', j ≤ j' → j' < M.length → El M i j') ∧ Q)
  | 0, j, h => dc_step hn (all_nil (by omega)) 0 fun k _ => by
    simp only [impl_isTable.l1]
    rw [if_neg (by omega), wi i (by omega)]
  | d + 1, j, h => by
    have ih := t1 h6 hi hri hn d (j + 1) (by omega)
    by_cases h1 : i = j
    · by_cases h2 : mt M i j = 0
      · refine dc_step ih (all_and (by omega) ⟨fun _ => h2, fun h => absurd h1 h⟩) 0 fun k _ => ?_
        simp only [impl_isTable.l1]
        unfold mt at h2
        rw [if_pos (by omega), if_pos (by omega), if_pos (by omega), if_pos (by omega), if_pos h2, wi j (by omega)]
      · refine dc_false (all_not (by omega) (fun h => h2 (h.1 h1))) 0 fun k _ => ?_
        simp only [impl_isTable.l1]
        unfold mt at h2
        rw [if_pos (by omega), if_pos (by omega), if_pos (by omega), if_pos (by omega), if_neg h2]
    · by_cases h2 : 1 ≤ mt M i j ∧ mt M i j ≤ 200
      · refine dc_step ih (all_and (by omega) ⟨fun h => absurd h h1, fun _ => h2⟩) 0 fun k _ => ?_
        simp only [impl_isTable.l1]
        unfold mt at h2
        rw [if_pos (by omega), if_pos (by omega), if_pos (by omega), if_neg (by omega), inRi]
        simp only [Option.bind_some]
        rw [decide_eq_true h2.1, decide_eq_true h2.2, if_pos (show (true && true) = true from rfl), wi j (by omega)]
      · refine dc_false (all_not (by omega) (fun h => h2 (h.2 h1))) 0 fun k _ => ?_
        simp only [impl_isTable.l1]
        unfold mt at h2
        rw [if_pos (by omega), if_pos (by omega), if_pos (by omega), if_neg (by omega), inRi]
        simp only [Option.bind_some]
        rw [if_neg]
        simp only [Bool.and_eq_true, decide_eq_true_eq]
        exact h2
theorem t0 (h6 : M.length ≤ 6) : ∀ d i : Nat, i + d = M.length → (∀ i', i' < i → (rd_L1 M (i' : Int)).length = M.length) → Dc (fun k => impl_isTable.l0 k M M.length M M.length i) ((∀ i', i ≤ i' → i' < M.length → Rw M i') ∧ Sy M)
  | 0, i, h, hp => dc_step (t2 h6 (fun i' h' => hp i' (by omega)) M.length 0 (by omega))
      (Iff.trans ⟨fun x i hi => x.1 i (by omega) hi, fun x => ⟨fun i _ hi => x i hi, trivial⟩⟩ (all_nil (by omega))) 0 fun k _ => by
    simp only [impl_isTable.l0]
    rw [if_neg (by omega)]
    rfl
  | d + 1, i, h, hp => by
    by_cases h1 : (rd_L1 M (i : Int)).length = M.length
    · refine dc_step (t1 h6 (show i < M.length by omega) h1 (t0 h6 d (i + 1) (by omega) (fun i' h' => by
        by_cases he : i' = i
        · rw [he]
          exact h1
        · exact hp i' (by omega))) M.length 0 (by omega)) (Iff.trans (all0.trans ⟨fun x => ⟨⟨h1, x.1⟩, x.2⟩, fun x => ⟨x.1.2, x.2⟩⟩) (all_cons (c := Rw M) (show i < M.length by omega))) 0 fun k _ => ?_
      simp only [impl_isTable.l0]
      rw [if_pos (by omega), if_pos (by omega), if_pos (by omega), if_pos (by omega), h1]
      rfl
    · refine dc_false (all_not (by omega) (fun x => h1 x.1)) 0 fun k _ => ?_
      simp only [impl_isTable.l0]
      rw [if_pos (by omega), if_pos (by omega), if_pos (by omega), if_neg (by omega)]
def Tb (M : List (List Int)) : Prop := (∀ i, i < M.length → Rw M i) ∧ Sy M
theorem table_ev (h6 : B.length ≤ 6) : Dc (fun k => impl_isTable.f k M B.length) (M.length = B.length ∧ Tb M) := by
  by_cases h : M.length = B.length
  · refine dc_same (t0 (by omega) M.length 0 (by omega) (fun i h => absurd h (by omega))) (all0.trans ⟨fun x => ⟨h, x⟩, fun x => x.2⟩) 0 fun k _ => ?_
    unfold impl_isTable.f
    rw [if_pos (by omega), h]
    rfl
  · exact ⟨false, ⟨fun x => absurd x (by simp), fun x => absurd x.1 h⟩, 0, fun k _ => by
      show impl_isTable.f k M B.length = _
      unfold impl_isTable.f
      rw [if_neg (by omega)]⟩
/-! ### The branches and what they share -/
def cds (B : List S74) (n : Nat) : List (List Int) := (List.range n).map (fun i => code (br B i) 200)
theorem v3 (t : Tab B M) {i j : Nat} (hi : i < B.length) (hj : j < B.length) (c : List (List Int)) {Q : Prop} (hn : Dc (fun k => impl_IsCurve.l2 k B.length c i B.length i B.length ((j + 1 : Nat) : Int) B M) Q) :
    ∀ d z : Nat, z + d = B.length → i ≠ j → Dc (fun k => impl_IsCurve.l3 k B.length c i j B.length i B.length j B.length z B M) ((∀ z', z ≤ z' → z' < B.length → U M i j z') ∧ Q)
  | 0, z, h, hij => dc_step hn (all_nil (by omega)) 0 fun k _ => by
    simp only [impl_IsCurve.l3]
    rw [if_neg (by omega), wi j (by have := t.n6; omega)]
  | d + 1, z, h, hij => by
    have hn6 := t.n6
    have hl := t.len
    have hri := t.row i hi
    have hrz := t.row z (by omega)
    have ih := v3 t hi hj c hn d (z + 1) (by omega) hij
    by_cases h2 : i = z
    · exact dc_step ih (all_and (by omega) (fun _ h => absurd h2 h)) 0 fun k _ => by
        simp only [impl_IsCurve.l3]
        rw [if_pos (by omega), if_pos (by omega), wi z (by omega)]
    by_cases h3 : z = j
    · exact dc_step ih (all_and (by omega) (fun _ _ h => absurd h3 h)) 0 fun k _ => by
        simp only [impl_IsCurve.l3]
        rw [if_pos (by omega), if_neg (by omega), if_pos (by omega), wi z (by omega)]
    by_cases h4 : mt M i j < mn (mt M i z) (mt M z j)
    · exact dc_false (all_not (by omega) (fun h => h hij h2 h3 h4)) 0 fun k _ => by
        simp only [impl_IsCurve.l3]
        unfold mt at h4
        rw [if_pos (by omega), if_neg (by omega), if_neg (by omega), if_pos (by omega), if_pos (by omega), if_pos (by omega), if_pos (by omega), if_pos (by omega), if_pos (by omega), if_pos (by omega), if_pos (by omega), if_pos h4]
    · exact dc_step ih (all_and (by omega) (fun _ _ _ => h4)) 0 fun k _ => by
        simp only [impl_IsCurve.l3]
        unfold mt at h4
        rw [if_pos (by omega), if_neg (by omega), if_neg (by omega), if_pos (by omega), if_pos (by omega), if_pos (by omega), if_pos (by omega), if_pos (by omega), if_pos (by omega), if_pos (by omega), if_pos (by omega), if_neg h4, wi z (by omega)]
def Sh (B : List S74) (M : List (List Int)) (i j : Nat) : Prop := i ≠ j → shB (br B i) (br B j) (mt M i j).toNat = true ∧ ∀ z, z < B.length → U M i j z
theorem v2 (t : Tab B M) (he : ∀ i, i < B.length → ∀ j, j < B.length → El M i j) {i : Nat} (hi : i < B.length) {Q : Prop} (hn : Dc (fun k => impl_IsCurve.l1 k B.length (cds B B.length) B.length ((i + 1 : Nat) : Int) B M) Q) :
    ∀ d j : Nat, j + d = B.length → Dc (fun k => impl_IsCurve.l2 k B.length (cds B B.length) i B.length i B.length j B M) ((∀ j', j ≤ j' → j' < B.length → Sh B M i j') ∧ Q)
  | 0, j, h => dc_step hn (all_nil (by omega)) 0 fun k _ => by
    simp only [impl_IsCurve.l2]
    rw [if_neg (by omega), wi i (by have := t.n6; omega)]
  | d + 1, j, h => by
    have hn6 := t.n6
    have hl := t.len
    have hri := t.row i hi
    have ih := v2 t he hi hn d (j + 1) (by omega)
    have hcl : (cds B B.length).length = B.length := by simp [cds]
    by_cases h1 : i = j
    · refine dc_step ih (all_and (by omega) (fun h => absurd h1 h)) 0 fun k _ => ?_
      simp only [impl_IsCurve.l2]
      rw [if_pos (by omega), if_pos (by omega), wi j (by omega)]
    · obtain ⟨hm1, hm2⟩ := (he i hi j (by omega)).2 h1
      obtain ⟨K, hK⟩ := share_evI (t := br B i) (u := br B j) hm1 hm2
      have e1 : rd_L1 (cds B B.length) (i : Int) = code (br B i) 200 := rdM1 _ hi
      have e2 : rd_L1 (cds B B.length) (j : Int) = code (br B j) 200 := rdM1 _ (by omega)
      unfold mt at hK
      by_cases hs : shB (br B i) (br B j) (mt M i j).toNat = true
      · refine dc_step (v3 t hi (show j < B.length by omega) _ ih B.length 0 (by omega) h1) (Iff.trans (all0.trans ⟨fun x => ⟨fun _ => ⟨hs, x.1⟩, x.2⟩, fun x => ⟨(x.1 h1).2, x.2⟩⟩) (all_cons (c := Sh B M i) (show j < B.length by omega))) K fun k hk => ?_
        simp only [impl_IsCurve.l2]
        unfold mt at hs
        rw [if_pos (by omega), if_neg (by omega), if_pos (by omega), if_pos (by omega), if_pos (by omega), if_pos (by omega), if_pos (by omega), if_pos (by omega), e1, e2, hK k hk]
        simp only [Option.bind_some]
        rw [if_pos hs]
        rfl
      · refine dc_false (all_not (by omega) (fun x => hs (x h1).1)) K fun k hk => ?_
        simp only [impl_IsCurve.l2]
        unfold mt at hs
        rw [if_pos (by omega), if_neg (by omega), if_pos (by omega), if_pos (by omega), if_pos (by omega), if_pos (by omega), if_pos (by omega), if_pos (by omega), e1, e2, hK k hk]
        simp only [Option.bind_some]
        rw [if_neg hs]
theorem v1 (t : Tab B M) (he : ∀ i, i < B.length → ∀ j, j < B.length → El M i j) :
    ∀ d i : Nat, i + d = B.length → Dc (fun k => impl_IsCurve.l1 k B.length (cds B B.length) B.length i B M) ((∀ i', i ≤ i' → i' < B.length → ∀ j, j < B.length → Sh B M i' j) ∧ True)
  | 0, i, h => dc_true ⟨fun i' h1 h2 => absurd h2 (by omega), trivial⟩ 0 fun k _ => by
    simp only [impl_IsCurve.l1]
    rw [if_neg (by omega)]
  | d + 1, i, h => dc_step (v2 t he (show i < B.length by omega) (v1 t he d (i + 1) (by omega)) B.length 0 (by omega)) (all0.trans (all_cons (c := fun i' => ∀ j, j < B.length → Sh B M i' j) (show i < B.length by omega))) 0 fun k _ => by
    simp only [impl_IsCurve.l1]
    rw [if_pos (by omega)]
    rfl
theorem v0 (t : Tab B M) (he : ∀ i, i < B.length → ∀ j, j < B.length → El M i j) (hs : ∀ i, i < B.length → (br B i).length ≤ 1000000000000) :
    ∀ d i : Nat, i + d = B.length → Dc (fun k => impl_IsCurve.l0 k B.length (cds B i) B B.length i B M) ((∀ i', i ≤ i' → i' < B.length → brB (br B i') = true) ∧ (∀ i, i < B.length → ∀ j, j < B.length → Sh B M i j))
  | 0, i, h => dc_step (v1 t he B.length 0 (by omega)) (Iff.trans ⟨fun x i hi => x.1 i (by omega) hi, fun x => ⟨fun i _ hi => x i hi, trivial⟩⟩ (all_nil (by omega))) 0 fun k _ => by
    simp only [impl_IsCurve.l0]
    rw [if_neg (by omega), show i = B.length by omega]
    rfl
  | d + 1, i, h => by
    have hn6 := t.n6
    obtain ⟨K, hK⟩ := br_ev (br B i) (hs i (by omega))
    by_cases h1 : brB (br B i) = true
    · obtain ⟨K2, hK2⟩ := codeI_ev h1 200 (by omega)
      rw [show ((200 + 1 : Nat) : Int) = 201 from rfl] at hK2
      refine dc_step (v0 t he hs d (i + 1) (by omega)) (all_and (by omega) h1) (max K K2) fun k hk => ?_
      have hcl : (cds B i).length = i := by simp [cds]
      have hcs : cds B (i + 1) = cds B i ++ [code (br B i) 200] := by simp [cds, List.range_succ]
      have hK' := hK k (by omega)
      have hK2' := hK2 k (by omega)
      unfold br at h1 hK' hK2' hcs
      simp only [impl_IsCurve.l0]
      rw [if_pos (by omega), if_pos (by omega), if_pos (by omega), hK']
      simp only [Option.bind_some]
      rw [if_pos h1, ← Option.bind_assoc, hK2']
      simp only [Option.bind_some]
      rw [if_pos (by omega), wi i (by omega), hcs]
    · refine dc_false (all_not (by omega) h1) K fun k hk => ?_
      simp only [impl_IsCurve.l0]
      have hK' := hK k (by omega)
      unfold br at h1 hK'
      rw [if_pos (by omega), if_pos (by omega), if_pos (by omega), hK']
      simp only [Option.bind_some]
      rw [if_neg h1]
theorem shB_comm (t u : List Int) (m : Nat) : shB t u m = shB u t m := by
  unfold shB
  congr 1
  · exact decide_eq_decide.mpr ⟨Eq.symm, Eq.symm⟩
  · by_cases h : cdOf (mm t) (m - 1) = cdOf (mm u) (m - 1)
    · rw [if_pos h, if_pos h.symm, h]
    · rw [if_neg h, if_neg (fun x => h x.symm)]
theorem isC_iff : ((1 ≤ B.length ∧ B.length ≤ 6) ∧ (M.length = B.length ∧ Tb M) ∧ (∀ i, i < B.length → brB (br B i) = true) ∧ (∀ i, i < B.length → ∀ j, j < B.length → Sh B M i j)) ↔ IsC B M := by
  constructor
  · rintro ⟨⟨h1, h6⟩, ⟨hl, hr, hy⟩, hb, hs⟩
    unfold Sy at hy
    rw [hl] at hr hy
    refine ⟨⟨h1, h6, hl⟩, fun i hi => ⟨hb i hi, by rw [(hr i hi).1, hl]⟩, fun i hi j hj => ?_, fun i hi j hj z hz => ?_⟩
    · have he := (hr i hi).2 j (by omega)
      exact ⟨he.1, fun hij => ⟨(he.2 hij).1, (he.2 hij).2, (hy i hi j hj).symm, fun _ => (hs i hi j hj hij).1⟩⟩
    · intro hij
      exact (hs i hi j hj hij).2 z hz hij
  · rintro ⟨⟨h1, h6, hl⟩, hb, hc, hu⟩
    have hsy : ∀ i, i < B.length → ∀ j, j < B.length → mt M j i = mt M i j := fun i hi j hj => by
      by_cases hij : i = j
      · rw [hij]
      · exact ((hc i hi j hj).2 hij).2.2.1.symm
    refine ⟨⟨h1, h6⟩, ⟨hl, ?_, ?_⟩, fun i hi => (hb i hi).1, fun i hi j hj hij => ⟨?_, fun z hz => hu i hi j hj z hz⟩⟩
    · rw [hl]
      refine fun i hi => ⟨by rw [(hb i hi).2, hl], fun j hj => ?_⟩
      rw [hl] at hj
      exact ⟨(hc i hi j hj).1, fun hij => ⟨((hc i hi j hj).2 hij).1, ((hc i hi j hj).2 hij).2.1⟩⟩
    · unfold Sy
      rw [hl]
      exact hsy
    · rcases Nat.lt_or_ge i j with h | h
      · exact ((hc i hi j hj).2 hij).2.2.2 h
      · rw [shB_comm, ← hsy i hi j hj]
        exact ((hc j hj i hi).2 (fun x => hij x.symm)).2.2.2 (by omega)
theorem isi_ev (hs : ∀ i, i < B.length → (br B i).length ≤ 1000000000000) : Dc (fun k => impl_IsCurve.f k B M) (IsC B M) := by
  have hT : ∀ n : Int, Dc (fun k => impl_IsCurve.j0 k n true B M) False := fun n => dc_false id 0 fun k _ => by
    simp only [impl_IsCurve.j0]
    rw [if_pos trivial]
  by_cases h1 : B.length < 1
  · refine dc_same (hT B.length) ⟨False.elim, fun x => absurd x.1.1 (by omega)⟩ 0 fun k _ => ?_
    unfold impl_IsCurve.f
    rw [if_pos (by omega)]
  by_cases h2 : 6 < B.length
  · refine dc_same (hT B.length) ⟨False.elim, fun x => absurd x.1.2.1 (by omega)⟩ 0 fun k _ => ?_
    unfold impl_IsCurve.f
    rw [if_neg (by omega), if_pos (by omega)]
  obtain ⟨b, hb, K, hK⟩ := table_ev (B := B) (M := M) (by omega)
  simp only at hK
  cases b with
  | false =>
    refine dc_same (hT B.length) ⟨False.elim, fun x => absurd (hb.mpr (isC_iff.mpr x).2.1) (by simp)⟩ K fun k hk => ?_
    unfold impl_IsCurve.f
    rw [if_neg (by omega), if_neg (by omega), hK k hk]
    rfl
  | true =>
    have ht := hb.mp rfl
    have hr := ht.2.1
    rw [ht.1] at hr
    have tb : Tab B M := ⟨by omega, ht.1, fun i hi => by rw [(hr i hi).1, ht.1]⟩
    have he : ∀ i, i < B.length → ∀ j, j < B.length → El M i j := fun i hi j hj => (hr i hi).2 j (by rw [ht.1]; exact hj)
    have h4 : Dc (fun k => impl_IsCurve.j0 k B.length false B M) _ := dc_step (v0 tb he hs B.length 0 (by omega)) Iff.rfl 0 fun k _ => by
      simp only [impl_IsCurve.j0]
      rw [if_neg (by simp)]
      rfl
    refine dc_same h4 (all0.trans (Iff.trans ⟨fun x => ⟨⟨by omega, by omega⟩, ht, x⟩, fun x => x.2.2⟩ isC_iff)) K fun k hk => ?_
    unfold impl_IsCurve.f
    rw [if_neg (by omega), if_neg (by omega), hK k hk]
    rfl
end
end Go.Proofs.YtkfdfpcdcabcoaaDoor.Plain
namespace Go.Proofs.YtkfdfpcdcabcoaaDoor.Plain
open Go.RowKit Go.Proofs.YtkfdfpcdcabcoaaDoorW.PrintWords Go.Proofs.YtkfdfpcdcabcoaaDoor.QName
def Bd (v : Int) : Prop := 1 ≤ v ∧ v ≤ 64
def tri (v : Int) : Int := Int.tdiv (v * (v - 1)) 2
theorem mul_bd {v : Int} (h : Bd v) : 0 ≤ v * (v - 1) ∧ v * (v - 1) ≤ 4032 := by
  obtain ⟨h1, h2⟩ := h
  have e1 := Int.mul_le_mul (show v ≤ 64 from h2) (show v - 1 ≤ 63 by omega) (by omega) (by omega)
  have e2 := Int.mul_nonneg (show 0 ≤ v by omega) (show 0 ≤ v - 1 by omega)
  omega
theorem tri_bd {v : Int} (h : Bd v) : 0 ≤ tri v ∧ tri v ≤ 2016 := by
  obtain ⟨h1, h2⟩ := mul_bd h
  unfold tri
  rw [Int.tdiv_eq_ediv_of_nonneg h1]
  omega
theorem tri_w {v : Int} (h : Bd v) : wrap64 (Int.tdiv (wrap64 (v * wrap64 (v - 1))) 2) = tri v := by
  obtain ⟨h1, h2⟩ := mul_bd h
  obtain ⟨h3, h4⟩ := tri_bd h
  obtain ⟨h5, h6⟩ := h
  rw [w64 (x := v - 1) (by omega) (by omega), w64 (x := v * (v - 1)) (by omega) (by omega)]
  exact w64 (x := tri v) (by omega) (by omega)
def dl : List Int → Int
  | [] => 0
  | x :: xs => tri x + dl xs
theorem dl_append (xs ys : List Int) : dl (xs ++ ys) = dl xs + dl ys := by
  induction xs with
  | nil => simp [dl]
  | cons x xs ih => rw [List.cons_append, dl, dl, ih, Int.add_assoc]
theorem dl_rep (v : Int) : ∀ q : Nat, dl (List.replicate q v) = q * tri v
  | 0 => by simp [dl]
  | q + 1 => by
    rw [List.replicate_succ, dl, dl_rep v q, show ((q + 1 : Nat) : Int) = (q : Int) + 1 by omega, Int.add_mul, Int.one_mul, Int.add_comm]
theorem dl_bd : ∀ l : List Int, (∀ x ∈ l, Bd x) → 0 ≤ dl l ∧ dl l ≤ 2016 * l.length
  | [], _ => by simp [dl]
  | x :: xs, h => by
    have h1 := tri_bd (h x (by simp))
    have h2 := dl_bd xs (fun y hy => h y (by simp [hy]))
    rw [dl, List.length_cons]
    omega
theorem deltaOf_l0 (l : List Int) (hl : l.length ≤ 1000000) (hb : ∀ x ∈ l, Bd x) : ∀ (r : List Int) (i : Nat) (acc : Int), l.drop i = r → i ≤ l.length → 0 ≤ acc → acc ≤ 2016 * i → ∃ K, ∀ k, K ≤ k → impl_deltaOf.l0 k acc l l.length i = some (acc + dl r) := by
  intro r
  induction r with
  | nil =>
    intro i acc hd hi h0 h1
    have := drop_nil hd
    refine ev_intro 0 fun k _ => ?_
    simp only [impl_deltaOf.l0]
    rw [if_neg (by omega), dl, Int.add_zero]
  | cons x xs ih =>
    intro i acc hd hi h0 h1
    obtain ⟨hlt, hs, hd'⟩ := drop_cons hd
    have hx := hb x (List.mem_of_getElem? hs)
    obtain ⟨h3, h4⟩ := tri_bd hx
    obtain ⟨K, hK⟩ := ih (i + 1) (acc + tri x) hd' (by omega) (by omega) (by omega)
    refine ev_intro K fun k hk => ?_
    simp only [impl_deltaOf.l0]
    rw [if_pos (by omega), if_pos (by omega), if_pos (by omega), rd_nat, getD_of hs, tri_w hx, w64 (by omega) (by omega), wi i (by omega), hK k hk, dl, Int.add_assoc]
theorem delta4_l0 (S : List (List Int)) (hS : ∀ s ∈ S, IsStep s) (hSl : S.length ≤ 100000) : ∀ (r : List (List Int)) (i : Nat) (acc : Int), S.drop i = r → i ≤ S.length → 0 ≤ acc → acc ≤ 5000000 * i → ∃ K, ∀ k, K ≤ k → spec_l04Delta.l0 k S acc i = some (acc + dl (ex r)) := by
  intro r
  induction r with
  | nil =>
    intro i acc hd hi h0 h1
    have := drop_nil hd
    refine ev_intro 0 fun k _ => ?_
    simp only [spec_l04Delta.l0]
    rw [if_neg (by omega), ex_nil, dl, Int.add_zero]
  | cons s xs ih =>
    intro i acc hd hi h0 h1
    obtain ⟨hlt, hs, hd'⟩ := drop_cons hd
    obtain ⟨q, v, rfl, hv1, hv2, hq⟩ := hS s (List.mem_of_getElem? hs)
    have hrow : rd_L1 S (i : Int) = [(q : Int), (v : Int)] := by unfold rd_L1; rw [Int.toNat_natCast]; exact getD_of hs
    have hx : Bd (v : Int) := ⟨by omega, by omega⟩
    obtain ⟨h3, h4⟩ := tri_bd hx
    have e1 := Int.mul_le_mul (show (q : Int) ≤ 2000 by omega) h4 h3 (by omega)
    have e2 := Int.mul_nonneg (show 0 ≤ (q : Int) by omega) h3
    obtain ⟨K, hK⟩ := ih (i + 1) (acc + q * tri v) hd' (by omega) (by omega) (by omega)
    refine ev_intro K fun k hk => ?_
    simp only [spec_l04Delta.l0]
    rw [if_pos (by omega), if_pos (by omega), hrow, if_pos (by simp), if_pos (by simp), show rd [(q : Int), (v : Int)] 0 = (q : Int) from rfl, show rd [(q : Int), (v : Int)] 1 = (v : Int) from rfl, tri_w hx]
    rw [w64 (x := (q : Int) * tri v) (by omega) (by omega), w64 (by omega) (by omega), wi i (by omega), hK k hk, ex_pair, dl_append, dl_rep, Int.add_assoc]
theorem sq_len {t : List Int} (h : brB t = true) : (sq t).length ≤ 7000 := by
  cases t with
  | nil => simp [sq]
  | cons a r =>
    obtain ⟨h1, h2, hg, hp, hl⟩ := br_goes h
    have := ex_rn_le r 0 a (by omega) hg
    simp only [sq]
    omega
def dlt (t : List Int) : Int := dl (sq t)
theorem dlt_bd {t : List Int} (h : brB t = true) : 0 ≤ dlt t ∧ dlt t ≤ 15000000 := by
  have h1 := sq_len h
  have h2 := dl_bd (sq t) (sq_step h)
  unfold dlt
  omega
theorem delta4_ev {t : List Int} (h : brB t = true) : ∃ K, ∀ k, K ≤ k → spec_l04Delta.f k t = some (dlt t) := by
  cases t with
  | nil => simp [brB] at h
  | cons a r =>
    obtain ⟨h1, h2, hg, hp, hl⟩ := br_goes h
    rw [List.length_cons] at hl
    have hln := rn_len r 0 a hg
    obtain ⟨K, hK⟩ := runs_ev h
    obtain ⟨K2, hK2⟩ := delta4_l0 (rn 0 a r) (rn_step r 0 a (by omega) hg) (by omega) (rn 0 a r) 0 0 rfl (by omega) (by omega) (by omega)
    refine ⟨max K K2, fun k hk => ?_⟩
    unfold spec_l04Delta.f
    rw [hK k (by omega)]
    simp only [Option.bind_some]
    have := hK2 k (by omega)
    rw [Int.zero_add] at this
    exact this
theorem deltaI_ev {t : List Int} (h : brB t = true) : ∃ K, ∀ k, K ≤ k → ((impl_sequence.f k t).bind fun s => impl_deltaOf.f k s) = some (dlt t) := by
  cases t with
  | nil => simp [brB] at h
  | cons a r =>
    have hb : ∀ x ∈ (if r = [] then [1] else sq (a :: r)), Bd x := by
      intro x hx
      split at hx
      · rw [List.mem_singleton] at hx
        subst hx
        exact ⟨by omega, by omega⟩
      · exact sq_step h x hx
    have hl : (if r = [] then [1] else sq (a :: r)).length ≤ 1000000 := by
      have := sq_len h
      split
      · simp
      · omega
    have hd : dl (if r = [] then [1] else sq (a :: r)) = dlt (a :: r) := by
      split
      next hr =>
        subst hr
        rfl
      next => rfl
    obtain ⟨K, hK⟩ := seq_ev h
    obtain ⟨K2, hK2⟩ := deltaOf_l0 _ hl hb _ 0 0 rfl (by omega) (by omega) (by omega)
    refine ⟨max K K2, fun k hk => ?_⟩
    rw [hK k (by omega)]
    simp only [Option.bind_some]
    unfold impl_deltaOf.f
    have := hK2 k (by omega)
    rw [Int.zero_add, List.drop_zero, hd] at this
    exact this
/-! ### Meetings -/
def dp (f g : Nat → Int) : Nat → Int
  | 0 => 0
  | n + 1 => dp f g n + f n * g n
theorem one_bd {v u : Int} (h : Bd v) (h2 : Bd u) : 1 ≤ v * u ∧ v * u ≤ 4096 := by
  obtain ⟨a, b⟩ := h
  obtain ⟨c, d⟩ := h2
  have e1 := Int.mul_le_mul b d (by omega) (by omega)
  have e2 := Int.mul_le_mul a c (by omega) (by omega)
  omega
theorem dp_bd {f g : Nat → Int} (hf : ∀ i, Bd (f i)) (hg : ∀ i, Bd (g i)) : ∀ n : Nat, (n : Int) ≤ dp f g n ∧ dp f g n ≤ 4096 * n
  | 0 => by simp [dp]
  | n + 1 => by
    have := dp_bd hf hg n
    have := one_bd (hf n) (hg n)
    rw [dp]
    omega
theorem prod_l0 {f g : Nat → Int} (hf : ∀ i, Bd (f i)) (hg : ∀ i, Bd (g i)) (n : Nat) (hn : n ≤ 1000000) : ∀ d i : Nat, i + d = n → ∃ K, ∀ k, K ≤ k → spec_l07Product.l0 k ((List.range n).map f) ((List.range n).map g) (dp f g i) i = some (dp f g n)
  | 0, i, h => ev_intro 0 fun k _ => by
    simp only [spec_l07Product.l0]
    rw [List.length_map, List.length_range, if_neg (by omega), show i = n by omega]
  | d + 1, i, h => by
    obtain ⟨K, hK⟩ := prod_l0 hf hg n hn d (i + 1) (by omega)
    have h1 := dp_bd hf hg i
    have h2 := one_bd (hf i) (hg i)
    refine ev_intro K fun k hk => ?_
    simp only [spec_l07Product.l0]
    rw [rdM f (show i < n by omega), rdM g (show i < n by omega), List.length_map, List.length_range, List.length_map, List.length_range, if_pos (by omega), if_pos (by omega), if_pos (by omega), w64 (x := f i * g i) (by omega) (by omega), w64 (by omega) (by omega), wi i (by omega)]
    exact hK k hk
theorem scal_l0 {f g : Nat → Int} (hf : ∀ i, Bd (f i)) (hg : ∀ i, Bd (g i)) (n : Nat) (hn : n ≤ 1000000) : ∀ d i : Nat, i + d = n → ∃ K, ∀ k, K ≤ k → impl_scalar.l0 k ((List.range n).map g) (dp f g i) ((List.range n).map f) n i = some (dp f g n)
  | 0, i, h => ev_intro 0 fun k _ => by
    simp only [impl_scalar.l0]
    rw [if_neg (by omega), show i = n by omega]
  | d + 1, i, h => by
    obtain ⟨K, hK⟩ := scal_l0 hf hg n hn d (i + 1) (by omega)
    have h1 := dp_bd hf hg i
    have h2 := one_bd (hf i) (hg i)
    refine ev_intro K fun k hk => ?_
    simp only [impl_scalar.l0]
    rw [rdM f (show i < n by omega), rdM g (show i < n by omega), List.length_map, List.length_range, List.length_map, List.length_range, if_pos (by omega), if_pos (by omega), if_pos (by omega), if_pos (by omega), w64 (x := f i * g i) (by omega) (by omega), w64 (by omega) (by omega), wi i (by omega)]
    exact hK k hk
theorem meet_ev {t u : List Int} (ht : brB t = true) (hu : brB u = true) {m : Int} (h1 : 1 ≤ m) (h2 : m ≤ 200) : ∃ K, ∀ k, K ≤ k → spec_l09Meet.f k t u m = some (dp (mm t) (mm u) m.toNat) := by
  obtain ⟨n, rfl⟩ := Int.eq_ofNat_of_zero_le (show 0 ≤ m by omega)
  obtain ⟨K, hK⟩ := seq6_ev ht n (by omega)
  obtain ⟨K2, hK2⟩ := seq6_ev hu n (by omega)
  obtain ⟨K3, hK3⟩ := prod_l0 (mm_bound ht) (mm_bound hu) n (by omega) n 0 (by omega)
  refine ⟨max K (max K2 K3), fun k hk => ?_⟩
  unfold spec_l09Meet.f
  rw [hK k (by omega)]
  simp only [Option.bind_some]
  rw [hK2 k (by omega)]
  simp only [Option.bind_some]
  unfold spec_l07Product.f
  have := hK3 k (by omega)
  rw [dp, show ((0 : Nat) : Int) = (0 : Int) from rfl] at this
  unfold ml
  rw [this]
  rfl
theorem inter_ev {t u : List Int} (ht : brB t = true) (hu : brB u = true) {m : Int} (h1 : 1 ≤ m) (h2 : m ≤ 200) : ∃ K, ∀ k, K ≤ k → impl_intersection.f k t u m = some (dp (mm t) (mm u) m.toNat) := by
  obtain ⟨n, rfl⟩ := Int.eq_ofNat_of_zero_le (show 0 ≤ m by omega)
  obtain ⟨K, hK⟩ := first_ev ht n (by omega)
  obtain ⟨K2, hK2⟩ := first_ev hu n (by omega)
  obtain ⟨K3, hK3⟩ := scal_l0 (mm_bound ht) (mm_bound hu) n (by omega) n 0 (by omega)
  refine ⟨max K (max K2 K3), fun k hk => ?_⟩
  unfold impl_intersection.f
  rw [hK k (by omega)]
  simp only [Option.bind_some]
  rw [hK2 k (by omega)]
  simp only [Option.bind_some]
  unfold impl_scalar.f
  have := hK3 k (by omega)
  rw [dp, show ((0 : Nat) : Int) = (0 : Int) from rfl] at this
  unfold ml
  rw [List.length_map, List.length_range, this]
  rfl
end Go.Proofs.YtkfdfpcdcabcoaaDoor.Plain
namespace Go.Proofs.YtkfdfpcdcabcoaaDoor.Plain
open Go.RowKit Go.Proofs.YtkfdfpcdcabcoaaDoorW.PrintWords Go.Proofs.YtkfdfpcdcabcoaaDoor.QName
section
variable {B : List S74} {M : List (List Int)}
structure Cv (B : List S74) (M : List (List Int)) : Prop where
  n1 : 1 ≤ B.length
  n6 : B.length ≤ 6
  len : M.length = B.length
  row : ∀ i, i < B.length → (rd_L1 M (i : Int)).length = B.length
  b : ∀ i, i < B.length → brB (br B i) = true
  m : ∀ i, i < B.length → ∀ j, j < B.length → i ≠ j → 1 ≤ mt M i j ∧ mt M i j ≤ 200
theorem cv_of (h : IsC B M) : Cv B M :=
  ⟨h.1.1, h.1.2.1, h.1.2.2, fun i hi => (h.2.1 i hi).2, fun i hi => (h.2.1 i hi).1, fun i hi j hj hij => ⟨((h.2.2.1 i hi j hj).2 hij).1, ((h.2.2.1 i hi j hj).2 hij).2.1⟩⟩
/-- Two programs that answer one number, within bounds. -/
def Both (lo hi : Int) (g g' : Nat → Option Int) : Prop := ∃ r : Int, lo ≤ r ∧ r ≤ hi ∧ (∃ K, ∀ k, K ≤ k → g k = some r) ∧ (∃ K, ∀ k, K ≤ k → g' k = some r)
theorem both_step {lo hi : Int} {g g' f f' : Nat → Option Int} (h : Both lo hi g g') (K0 : Nat) (h1 : ∀ k, K0 ≤ k → f (k + 1) = g k) (h2 : ∀ k, K0 ≤ k → f' (k + 1) = g' k) : Both lo hi f f' := by
  obtain ⟨r, a, b, ⟨K, hK⟩, ⟨K2, hK2⟩⟩ := h
  exact ⟨r, a, b, ev_intro (max K K0) fun k hk => by rw [h1 k (by omega), hK k (by omega)], ev_intro (max K2 K0) fun k hk => by rw [h2 k (by omega), hK2 k (by omega)]⟩
theorem dlta1 (c : Cv B M) {i : Nat} (hi : i < B.length)
    (hn : ∀ acc : Int, (i : Int) ≤ acc → acc ≤ 100000000 * (i + 1) → Both (B.length - 1) 700000000 (fun k => spec_l09Delta.l0 k acc ((i + 1 : Nat) : Int) B M) (fun k => impl_curveDelta.l0 k acc B B.length ((i + 1 : Nat) : Int) B M)) :
    ∀ (d j : Nat) (acc : Int), j + d = i → 0 ≤ acc → (i : Int) - 1 + (if j = 0 then 0 else 1) ≤ acc → acc ≤ 100000000 * i + 20000000 + 1000000 * j →
    Both (B.length - 1) 700000000 (fun k => spec_l09Delta.l1 k acc i j B M) (fun k => impl_curveDelta.l1 k acc i B B.length i i j B M)
  | 0, j, acc, h, h0, h1, h2 => by
    have hn6 := c.n6
    refine both_step (hn acc ?_ (by omega)) 0 (fun k _ => ?_) (fun k _ => ?_)
    · split at h1 <;> omega
    · simp only [spec_l09Delta.l1]
      rw [if_neg (by omega), wi i (by omega)]
    · simp only [impl_curveDelta.l1]
      rw [if_neg (by omega), wi i (by omega)]
  | d + 1, j, acc, h, h0, h1, h2 => by
    have hn6 := c.n6
    have hl := c.len
    have hri := c.row i hi
    obtain ⟨hm1, hm2⟩ := c.m i hi j (by omega) (by omega)
    obtain ⟨K, hK⟩ := meet_ev (c.b i hi) (c.b j (by omega)) hm1 hm2
    obtain ⟨K2, hK2⟩ := inter_ev (c.b i hi) (c.b j (by omega)) hm1 hm2
    have hb := dp_bd (mm_bound (c.b i hi)) (mm_bound (c.b j (by omega))) (mt M i j).toNat
    have hv : ∃ v : Int, v = dp (mm (br B i)) (mm (br B j)) (mt M i j).toNat := ⟨_, rfl⟩
    obtain ⟨v, hv⟩ := hv
    rw [← hv] at hK hK2 hb
    unfold br mt at hK hK2
    refine both_step (dlta1 c hi hn d (j + 1) (acc + v) (by omega) (by omega) ?_ (by omega)) (max K K2) (fun k hk => ?_) (fun k hk => ?_)
    · rw [if_neg (by omega)]
      split at h1 <;> omega
    · simp only [spec_l09Delta.l1]
      rw [if_pos (by omega), if_pos (by omega), if_pos (by omega), if_pos (by omega), if_pos (by omega), if_pos (by omega), if_pos (by omega), hK k (by omega)]
      simp only [Option.bind_some]
      rw [w64 (by omega) (by omega), wi j (by omega)]
    · simp only [impl_curveDelta.l1]
      unfold impl_meeting.f
      rw [if_pos (by omega), if_pos (by omega), if_pos (by omega), if_pos (by omega), if_pos (by omega), if_pos (by omega), if_pos (by omega), hK2 k (by omega)]
      simp only [Option.bind_some]
      rw [w64 (by omega) (by omega), wi j (by omega)]
theorem dlta0 (c : Cv B M) : ∀ (d i : Nat) (acc : Int), i + d = B.length → 0 ≤ acc → (i : Int) - 1 ≤ acc → acc ≤ 100000000 * i →
    Both (B.length - 1) 700000000 (fun k => spec_l09Delta.l0 k acc i B M) (fun k => impl_curveDelta.l0 k acc B B.length i B M)
  | 0, i, acc, h, h0, h1, h2 => by
    have hn6 := c.n6
    refine ⟨acc, by omega, by omega, ev_intro 0 fun k _ => ?_, ev_intro 0 fun k _ => ?_⟩
    · simp only [spec_l09Delta.l0]
      rw [if_neg (by omega)]
    · simp only [impl_curveDelta.l0]
      rw [if_neg (by omega)]
  | d + 1, i, acc, h, h0, h1, h2 => by
    have hn6 := c.n6
    have hi : i < B.length := by omega
    obtain ⟨K, hK⟩ := delta4_ev (c.b i hi)
    obtain ⟨K2, hK2⟩ := deltaI_ev (c.b i hi)
    have hb := dlt_bd (c.b i hi)
    have hv : ∃ v : Int, v = dlt (br B i) := ⟨_, rfl⟩
    obtain ⟨v, hv⟩ := hv
    rw [← hv] at hK hK2 hb
    unfold br at hK hK2
    refine both_step (dlta1 c hi (fun acc' a1 a2 => dlta0 c d (i + 1) acc' (by omega) (by omega) (by omega) (by omega)) i 0 (acc + v) (by omega) (by omega) (by rw [if_pos rfl]; omega) (by omega)) (max K K2) (fun k hk => ?_) (fun k hk => ?_)
    · simp only [spec_l09Delta.l0]
      rw [if_pos (by omega), if_pos (by omega), hK k (by omega)]
      simp only [Option.bind_some]
      rw [w64 (by omega) (by omega)]
      rfl
    · simp only [impl_curveDelta.l0]
      rw [if_pos (by omega), if_pos (by omega), if_pos (by omega), ← Option.bind_assoc, hK2 k (by omega)]
      simp only [Option.bind_some]
      rw [w64 (by omega) (by omega)]
      rfl
theorem milnor_ev (c : Cv B M) : Both 0 2000000000 (fun k => spec_l09Milnor.f k B M) (fun k => impl_curveMilnor.f k B M) := by
  have hn6 := c.n6
  have hn1 := c.n1
  obtain ⟨r, a, b, ⟨K, hK⟩, ⟨K2, hK2⟩⟩ := dlta0 c B.length 0 0 (by omega) (by omega) (by omega) (by omega)
  have hw : wrap64 (wrap64 (wrap64 (2 * r) - (B.length : Int)) + 1) = 2 * r - B.length + 1 := by
    rw [w64 (x := 2 * r) (by omega) (by omega), w64 (x := 2 * r - (B.length : Int)) (by omega) (by omega), w64 (by omega) (by omega)]
  refine ⟨2 * r - B.length + 1, by omega, by omega, ⟨K, fun k hk => ?_⟩, ⟨K2, fun k hk => ?_⟩⟩
  · have := hK k hk
    show spec_l09Milnor.f k B M = _
    unfold spec_l09Milnor.f spec_l09Delta.f
    simp only at this
    rw [show ((0 : Nat) : Int) = (0 : Int) from rfl] at this
    rw [this]
    simp only [Option.bind_some]
    rw [hw]
  · have := hK2 k hk
    show impl_curveMilnor.f k B M = _
    unfold impl_curveMilnor.f impl_curveDelta.f
    simp only at this
    rw [show ((0 : Nat) : Int) = (0 : Int) from rfl] at this
    rw [this]
    simp only [Option.bind_some]
    rw [hw]
/-! ### Multiplicity -/
theorem mult_ev (c : Cv B M) (u : Int) : ∀ (d i : Nat) (acc : Int), i + d = B.length → ∃ m : Int, (∃ K, ∀ k, K ≤ k → impl_multiplicity.l0 k acc B B.length i = some m) ∧
    (∀ r, (∃ K, ∀ k, K ≤ k → spec_l19Name.l0 k u m ((B.length : Nat) : Int) B M = some r) → ∃ K, ∀ k, K ≤ k → spec_l19Name.l0 k u acc i B M = some r)
  | 0, i, acc, h => by
    refine ⟨acc, ev_intro 0 fun k _ => ?_, fun r hr => ?_⟩
    · simp only [impl_multiplicity.l0]
      rw [if_neg (by omega)]
    · rwa [show i = B.length by omega]
  | d + 1, i, acc, h => by
    have hn6 := c.n6
    obtain ⟨m, ⟨K, hK⟩, hs⟩ := mult_ev c u d (i + 1) (wrap64 (acc + rd (br B i) 0)) (by omega)
    have hne : 0 < (br B i).length := by
      have := c.b i (by omega)
      cases hh : br B i with
      | nil => rw [hh] at this; simp [brB] at this
      | cons a r => simp
    unfold br at hne hK hs
    refine ⟨m, ev_intro K fun k hk => ?_, fun r hr => ?_⟩
    · simp only [impl_multiplicity.l0]
      rw [if_pos (by omega), if_pos (by omega), if_pos (by omega), if_pos (by omega), wi i (by omega), hK k hk]
    · obtain ⟨K2, hK2⟩ := hs r hr
      refine ev_intro K2 fun k hk => ?_
      simp only [spec_l19Name.l0]
      rw [if_pos (by omega), if_pos (by omega), if_pos (by omega), wi i (by omega), hK2 k hk]
/-! ### Tangents -/
def BothL (n : Nat) (g g' : Nat → Option (List Int)) : Prop := ∃ r : List Int, r.length = n ∧ (∃ K, ∀ k, K ≤ k → g k = some r) ∧ (∃ K, ∀ k, K ≤ k → g' k = some r)
theorem bothL_step {n : Nat} {g g' f f' : Nat → Option (List Int)} (h : BothL n g g') (h1 : ∀ k, f (k + 2) = g k) (h2 : ∀ k, f' (k + 1) = g' k) : BothL n f f' := by
  obtain ⟨r, a, ⟨K, hK⟩, ⟨K2, hK2⟩⟩ := h
  refine ⟨r, a, ⟨K + 2, fun k hk => ?_⟩, ev_intro K2 fun k hk => by rw [h2 k, hK2 k (by omega)]⟩
  obtain ⟨m, rfl⟩ : ∃ m, k = m + 2 := ⟨k - 2, by omega⟩
  rw [h1 m, hK m (by omega)]
theorem bothL_step1 {n : Nat} {g g' f f' : Nat → Option (List Int)} (h : BothL n g g') (h1 : ∀ k, f (k + 1) = g k) (h2 : ∀ k, f' (k + 1) = g' k) : BothL n f f' := by
  obtain ⟨r, a, ⟨K, hK⟩, ⟨K2, hK2⟩⟩ := h
  exact ⟨r, a, ev_intro K fun k hk => by rw [h1 k, hK k (by omega)], ev_intro K2 fun k hk => by rw [h2 k, hK2 k (by omega)]⟩
theorem bothL_left {n : Nat} {g g' f : Nat → Option (List Int)} (h : BothL n g g') (h1 : ∀ k, f (k + 2) = g k) : BothL n f g' := by
  obtain ⟨r, a, ⟨K, hK⟩, hK2⟩ := h
  refine ⟨r, a, ⟨K + 2, fun k hk => ?_⟩, hK2⟩
  obtain ⟨m, rfl⟩ : ∃ m, k = m + 2 := ⟨k - 2, by omega⟩
  rw [h1 m, hK m (by omega)]
theorem tan1 (c : Cv B M) {i : Nat} (hi : i < B.length) (x : List Int) (n : Int) (hx : x.length = i) (hb : ∀ j, j < i → 0 ≤ rd x (j : Int) ∧ rd x (j : Int) < n) (h0 : 0 ≤ n) (h9 : n ≤ i)
    (hold : ∀ e : Int, 0 ≤ e → e < n → BothL B.length (fun k => spec_l10Tangents.l0 k (x ++ [e]) n ((i + 1 : Nat) : Int) B M) (fun k => impl_tangents.l0 k (x ++ [e]) n B.length ((i + 1 : Nat) : Int) B M))
    (hnew : BothL B.length (fun k => spec_l10Tangents.l0 k (x ++ [n]) (n + 1) ((i + 1 : Nat) : Int) B M) (fun k => impl_tangents.l0 k (x ++ [n]) (n + 1) B.length ((i + 1 : Nat) : Int) B M)) :
    ∀ d j : Nat, j + d = i → BothL B.length (fun k => spec_l10Tangents.l1 k x n i (-1) j B M) (fun k => impl_tangents.l1 k x n i n B.length i i j B M)
  | 0, j, h => by
    have hn6 := c.n6
    refine bothL_step hnew (fun k => ?_) (fun k => ?_)
    · simp only [spec_l10Tangents.l1, spec_l10Tangents.j2]
      rw [if_neg (by omega), if_neg (by simp), if_pos (by omega), if_pos (by omega), wi i (by omega), w64 (by omega) (by omega)]
    · simp only [impl_tangents.l1]
      rw [if_neg (by omega), if_pos trivial, if_pos (by omega), wi i (by omega), w64 (by omega) (by omega)]
  | d + 1, j, h => by
    have hn6 := c.n6
    have hl := c.len
    have hri := c.row i hi
    by_cases h2 : 2 ≤ mt M i j
    · obtain ⟨e1, e2⟩ := hb j (by omega)
      have h3 := hold (rd x (j : Int)) e1 e2
      unfold mt at h2
      have h4 : BothL B.length (fun k => spec_l10Tangents.l1 k x n i (rd x (j : Int)) ((j + 1 : Nat) : Int) B M) (fun k => impl_tangents.l0 k (x ++ [rd x (j : Int)]) n B.length ((i + 1 : Nat) : Int) B M) := bothL_left h3 fun k => by
        simp only [spec_l10Tangents.l1, spec_l10Tangents.j2]
        rw [show decide (rd x (j : Int) < 0) = false from decide_eq_false (by omega), ite_self, if_neg (by simp), if_neg (by omega), if_pos (by omega), wi i (by omega)]
      refine bothL_step h4 (fun k => ?_) (fun k => ?_)
      · simp only [spec_l10Tangents.l1, spec_l10Tangents.j2]
        rw [if_pos (by omega), show decide ((-1 : Int) < 0) = true from rfl, if_pos (show true = true from rfl), if_pos (by omega), if_pos (by omega), if_pos (by omega), if_pos (by omega), if_pos h2, if_pos (by omega), wi j (by omega)]
      · simp only [impl_tangents.l1]
        rw [if_pos (by omega), if_pos (by omega), if_pos (by omega), if_pos (by omega), if_pos (by omega), if_pos h2, if_pos (by omega), if_neg (by omega), if_pos (by omega), wi i (by omega)]
    · have ih := tan1 c hi x n hx hb h0 h9 hold hnew d (j + 1) (by omega)
      unfold mt at h2
      refine bothL_step ih (fun k => ?_) (fun k => ?_)
      · simp only [spec_l10Tangents.l1, spec_l10Tangents.j2]
        rw [if_pos (by omega), show decide ((-1 : Int) < 0) = true from rfl, if_pos (show true = true from rfl), if_pos (by omega), if_pos (by omega), if_pos (by omega), if_pos (by omega), if_neg h2, wi j (by omega)]
      · simp only [impl_tangents.l1]
        rw [if_pos (by omega), if_pos (by omega), if_pos (by omega), if_pos (by omega), if_pos (by omega), if_neg h2, wi j (by omega)]
theorem rd_app (x : List Int) (e : Int) {j : Nat} : rd (x ++ [e]) (j : Int) = if j < x.length then rd x (j : Int) else if j = x.length then e else 0 := by
  rw [rd_nat, rd_nat, List.getD_eq_getElem?_getD, List.getD_eq_getElem?_getD]
  by_cases h : j < x.length
  · rw [if_pos h, List.getElem?_append_left h]
  · rw [if_neg h, List.getElem?_append_right (by omega)]
    by_cases h2 : j = x.length
    · subst h2
      simp
    · rw [if_neg h2, List.getElem?_eq_none (by simp; omega)]
      rfl
theorem tan0 (c : Cv B M) : ∀ (d i : Nat) (x : List Int) (n : Int), i + d = B.length → x.length = i → (∀ j, j < i → 0 ≤ rd x (j : Int) ∧ rd x (j : Int) < n) → 0 ≤ n → n ≤ i →
    BothL B.length (fun k => spec_l10Tangents.l0 k x n i B M) (fun k => impl_tangents.l0 k x n B.length i B M)
  | 0, i, x, n, h, hx, hb, h0, h9 => by
    refine ⟨x, by omega, ev_intro 0 fun k _ => ?_, ev_intro 0 fun k _ => ?_⟩
    · simp only [spec_l10Tangents.l0]
      rw [if_neg (by omega)]
    · simp only [impl_tangents.l0]
      rw [if_neg (by omega)]
  | d + 1, i, x, n, h, hx, hb, h0, h9 => by
    have hn6 := c.n6
    refine bothL_step1 (tan1 c (show i < B.length by omega) x n hx hb h0 h9 (fun e he1 he2 => ?_) ?_ i 0 (by omega)) (fun k => ?_) (fun k => ?_)
    · refine tan0 c d (i + 1) (x ++ [e]) n (by omega) (by simp; omega) (fun j hj => ?_) h0 (by omega)
      rw [rd_app]
      by_cases hjj : j < i
      · rw [if_pos (by omega)]
        exact hb j hjj
      · rw [if_neg (by omega), if_pos (by omega)]
        exact ⟨he1, he2⟩
    · refine tan0 c d (i + 1) (x ++ [n]) (n + 1) (by omega) (by simp; omega) (fun j hj => ?_) (by omega) (by omega)
      rw [rd_app]
      by_cases hjj : j < i
      · rw [if_pos (by omega)]
        have := hb j hjj
        omega
      · rw [if_neg (by omega), if_pos (by omega)]
        omega
    · simp only [spec_l10Tangents.l0]
      rw [if_pos (by omega)]
      rfl
    · simp only [impl_tangents.l0]
      rw [if_pos (by omega)]
      rfl
end
end Go.Proofs.YtkfdfpcdcabcoaaDoor.Plain
namespace Go.Proofs.YtkfdfpcdcabcoaaDoor.Plain
open Go.RowKit Go.Proofs.YtkfdfpcdcabcoaaDoorW.PrintWords Go.Proofs.YtkfdfpcdcabcoaaDoor.QName
def Ev {α : Type} (g : Nat → Option α) (r : α) : Prop := ∃ K, ∀ k, K ≤ k → g k = some r
theorem digit (n : Nat) (h : n < 10) : UInt8.ofNat (wrap64 (48 + (n : Int)) % 256).toNat = UInt8.ofNat (48 + n) := by
  rw [w64 (by omega) (by omega)]
  congr 1
  omega
theorem ba_append (a b : List UInt8) : (⟨a.toArray⟩ : ByteArray) ++ (⟨b.toArray⟩ : ByteArray) = ⟨(a ++ b).toArray⟩ := by
  apply ByteArray.ext
  rw [ByteArray.data_append]
  simp
theorem dig_len (n : Nat) : (Lib.decDigits n).length ≤ n + 1 := by
  induction n using Nat.strongRecOn with
  | _ n ih =>
    rw [Lib.decDigits]
    by_cases h : n < 10
    · rw [dif_pos h]
      simp
    · rw [dif_neg h, List.length_append, List.length_singleton]
      have := ih (n / 10) (by omega)
      omega
theorem dec_ev (n : Nat) : n ≤ 4000000000 → Ev (fun k => spec_l01Dec.f k n) ⟨(Lib.decDigits n).toArray⟩ := by
  induction n using Nat.strongRecOn with
  | _ n ih =>
    intro hn
    by_cases h : n < 10
    · refine ev_intro 0 fun k _ => ?_
      simp only [spec_l01Dec.f]
      rw [if_pos (by omega), Lib.decDigits, dif_pos h]
      simp only [strOfNums, List.map_cons, List.map_nil]
      rw [digit n h]
    · obtain ⟨K, hK⟩ := ih (n / 10) (by omega) (by omega)
      have hd : wrap64 (Int.tdiv (n : Int) 10) = ((n / 10 : Nat) : Int) := by
        rw [show Int.tdiv (n : Int) 10 = ((n / 10 : Nat) : Int) from rfl, w64 (by omega) (by omega)]
      have hm : Int.tmod (n : Int) 10 = ((n % 10 : Nat) : Int) := rfl
      refine ev_intro K fun k hk => ?_
      have hk' := hK k hk
      have hl := dig_len (n / 10)
      simp only [spec_l01Dec.f]
      simp only at hk'
      rw [if_neg (by omega), hd, hk', hm]
      simp only [Option.bind_some, strOfNums, List.map_cons, List.map_nil]
      rw [digit (n % 10) (by omega), ba_append, if_pos]
      · rw [Lib.decDigits.eq_1 n, dif_neg h]
      · simp only [ByteArray.size, List.size_toArray, List.length_singleton]
        omega
theorem itoa_nat (n : Nat) : Lib.itoa (n : Int) = Lib.decDigits n := by
  unfold Lib.itoa
  rw [if_neg (by omega)]
  rfl
def nm (c : UInt8) (n : Nat) : ByteArray := (⟨#[c]⟩ : ByteArray) ++ (⟨(Lib.decDigits n).toArray⟩ : ByteArray)
theorem nm_ne (c : UInt8) (n : Nat) : ¬ (nm c n).toList = ([] : List UInt8) := by
  unfold nm
  rw [ByteArray.toList_eq, ByteArray.data_append]
  simp
theorem nm_size (n : Nat) (h : n ≤ 4000000000) : 1 + (⟨(Lib.decDigits n).toArray⟩ : ByteArray).size ≤ 9223372036854775807 := by
  have := dig_len n
  simp only [ByteArray.size, List.size_toArray]
  omega
theorem decimal_ev (n : Nat) (h : n ≤ 4000000000) : impl_decimal.f n = some ⟨(Lib.decDigits n).toArray⟩ := by
  unfold impl_decimal.f
  rw [if_pos (by omega), if_pos (by omega), itoa_nat]
theorem max_l0 (l : List Int) (hl : l.length ≤ 1000000) : ∀ (d i : Nat) (acc : Int), i + d = l.length → ∃ v : Int, Ev (fun k => slices_Max_int64_int64.l0 k l acc i) v ∧ (0 < v ↔ 0 < acc ∨ ∃ j, i ≤ j ∧ j < l.length ∧ 0 < rd l (j : Int))
  | 0, i, acc, h => ⟨acc, ev_intro 0 fun k _ => by
      simp only [slices_Max_int64_int64.l0]
      rw [if_neg (by omega)], ⟨.inl, fun x => x.elim id fun ⟨j, h1, h2, _⟩ => absurd h2 (by omega)⟩⟩
  | d + 1, i, acc, h => by
    obtain ⟨v, ⟨K, hK⟩, hv⟩ := max_l0 l hl d (i + 1) (mx acc (rd l (i : Int))) (by omega)
    refine ⟨v, ev_intro K fun k hk => ?_, hv.trans ?_⟩
    · simp only [slices_Max_int64_int64.l0]
      rw [if_pos (by omega), if_pos (by omega), wi i (by omega)]
      exact hK k hk
    · unfold mx
      constructor
      · rintro (h1 | ⟨j, h1, h2, h3⟩)
        · split at h1
          · exact .inr ⟨i, Nat.le_refl _, by omega, h1⟩
          · exact .inl h1
        · exact .inr ⟨j, by omega, h2, h3⟩
      · rintro (h1 | ⟨j, h1, h2, h3⟩)
        · left
          split <;> omega
        · by_cases hj : j = i
          · subst hj
            left
            split <;> omega
          · exact .inr ⟨j, by omega, h2, h3⟩
theorem any_l1 (u : Nat) (hu : u ≤ 4000000000) (l : List Int) (hl : l.length ≤ 1000000) : ∀ d i : Nat, i + d = l.length →
    ((∃ j, i ≤ j ∧ j < l.length ∧ 0 < rd l (j : Int)) → Ev (fun k => spec_l19Name.l1 k u l i) (nm 68 u)) ∧
    (¬ (∃ j, i ≤ j ∧ j < l.length ∧ 0 < rd l (j : Int)) → Ev (fun k => spec_l19Name.l1 k u l i) (if 8 < u then ⟨#[]⟩ else nm 69 u))
  | 0, i, h => by
    refine ⟨fun ⟨j, h1, h2, _⟩ => absurd h2 (by omega), fun _ => ?_⟩
    obtain ⟨K, hK⟩ := dec_ev u hu
    refine ev_intro K fun k hk => ?_
    have hk' := hK k hk
    simp only at hk'
    simp only [spec_l19Name.l1]
    rw [if_neg (by omega), hk']
    simp only [Option.bind_some]
    rw [if_pos (nm_size u hu)]
    by_cases h8 : 8 < u
    · rw [if_pos h8, if_pos (by omega)]
    · rw [if_neg h8, if_neg (by omega)]
      rfl
  | d + 1, i, h => by
    obtain ⟨i1, i2⟩ := any_l1 u hu l hl d (i + 1) (by omega)
    obtain ⟨K, hK⟩ := dec_ev u hu
    by_cases hp : 0 < rd l (i : Int)
    · refine ⟨fun _ => ev_intro K fun k hk => ?_, fun hn => absurd ⟨i, Nat.le_refl _, by omega, hp⟩ hn⟩
      have hk' := hK k hk
      simp only at hk'
      simp only [spec_l19Name.l1]
      rw [if_pos (by omega), if_pos (by omega), if_pos hp, hk']
      simp only [Option.bind_some]
      rw [if_pos (nm_size u hu)]
      rfl
    · have hi : (∃ j, i ≤ j ∧ j < l.length ∧ 0 < rd l (j : Int)) ↔ (∃ j, i + 1 ≤ j ∧ j < l.length ∧ 0 < rd l (j : Int)) := by
        constructor
        · rintro ⟨j, h1, h2, h3⟩
          refine ⟨j, ?_, h2, h3⟩
          rcases Nat.eq_or_lt_of_le h1 with rfl | h4
          · exact absurd h3 hp
          · exact h4
        · rintro ⟨j, h1, h2, h3⟩
          exact ⟨j, by omega, h2, h3⟩
      have st : ∀ r, Ev (fun k => spec_l19Name.l1 k u l ((i + 1 : Nat) : Int)) r → Ev (fun k => spec_l19Name.l1 k u l i) r := by
        rintro r ⟨K2, hK2⟩
        refine ev_intro K2 fun k hk => ?_
        have hk' := hK2 k hk
        simp only at hk'
        simp only [spec_l19Name.l1]
        rw [if_pos (by omega), if_pos (by omega), if_neg hp, wi i (by omega), hk']
      exact ⟨fun hx => st _ (i1 (hi.mp hx)), fun hx => st _ (i2 (fun hy => hx (hi.mpr hy)))⟩
theorem name_ev {B : List S74} {M : List (List Int)} (hs : ∀ i, i < B.length → (br B i).length ≤ 1000000000000) : ∃ r : ByteArray × Int, Ev (fun k => spec_NameOfCurve.f k B M) r ∧ Ev (fun k => impl_NameOfCurve.f k B M) r := by
  obtain ⟨b, hb, K, hK⟩ := is_ev (M := M) hs
  obtain ⟨b2, hb2, K2, hK2⟩ := isi_ev (M := M) hs
  have hbb : b2 = b := Bool.eq_iff_iff.mpr (hb2.trans hb.symm)
  subst hbb
  simp only at hK hK2
  cases b2 with
  | false =>
    refine ⟨(⟨#[]⟩, 1), ⟨K, fun k hk => ?_⟩, ⟨K2, fun k hk => ?_⟩⟩
    · show spec_NameOfCurve.f k B M = _
      unfold spec_NameOfCurve.f
      rw [hK k hk]
      rfl
    · show impl_NameOfCurve.f k B M = _
      unfold impl_NameOfCurve.f
      rw [hK2 k hk]
      rfl
  | true =>
    have c := cv_of (hb.mp rfl)
    have hn1 := c.n1
    have hn6 := c.n6
    obtain ⟨u, hu0, hu1, ⟨K3, hK3⟩, ⟨K4, hK4⟩⟩ := milnor_ev c
    obtain ⟨u, rfl⟩ := Int.eq_ofNat_of_zero_le hu0
    have hu : u ≤ 4000000000 := by omega
    obtain ⟨m, ⟨K5, hK5⟩, hm⟩ := mult_ev c u B.length 0 0 (by omega)
    obtain ⟨t, htl, ⟨K6, hK6⟩, ⟨K7, hK7⟩⟩ := tan0 c B.length 0 [] 0 (by omega) rfl (fun j hj => absurd hj (by omega)) (by omega) (by omega)
    obtain ⟨v, ⟨K8, hK8⟩, hv⟩ := max_l0 t (by omega) (t.length - 1) 1 (rd t 0) (by omega)
    obtain ⟨K9, hK9⟩ := dec_ev u hu
    obtain ⟨i1, i2⟩ := any_l1 u hu t (by omega) t.length 0 (by omega)
    simp only at hK3 hK4 hK6 hK7 hK8 hK9
    have hmf : ∀ k, K5 ≤ k → impl_multiplicity.f k B M = some m := fun k hk => hK5 k hk
    have htf : ∀ k, K6 ≤ k → spec_l10Tangents.f k B M = some t := fun k hk => hK6 k hk
    have htg : ∀ k, K7 ≤ k → impl_tangents.f k B M = some t := fun k hk => hK7 k hk
    have hmx : ∀ k, K8 ≤ k → slices_Max_int64_int64.f k t = some v := fun k hk => by
      unfold slices_Max_int64_int64.f
      rw [if_neg (by omega), if_pos (by omega)]
      exact hK8 k hk
    have hv' : 0 < v ↔ ∃ j, 0 ≤ j ∧ j < t.length ∧ 0 < rd t (j : Int) := by
      refine hv.trans ⟨?_, ?_⟩
      · rintro (h | ⟨j, h1, h2, h3⟩)
        · exact ⟨0, by omega, by omega, h⟩
        · exact ⟨j, by omega, h2, h3⟩
      · rintro ⟨j, h1, h2, h3⟩
        by_cases hj : j = 0
        · subst hj
          exact .inl h3
        · exact .inr ⟨j, by omega, h2, h3⟩
    -- the specification, once its name is known
    have spec : ∀ s : ByteArray, Ev (fun k => spec_l19Name.l0 k u m ((B.length : Nat) : Int) B M) s → Ev (fun k => spec_NameOfCurve.f k B M) (if s.toList = ([] : List UInt8) then (⟨#[]⟩, 4) else (s, 0)) := by
      intro s h
      obtain ⟨K', hK'⟩ := hm s h
      refine ⟨max K (max K3 K'), fun k hk => ?_⟩
      show spec_NameOfCurve.f k B M = _
      unfold spec_NameOfCurve.f spec_l19Name.f
      rw [hK k (by omega)]
      simp only [Option.bind_some]
      rw [if_pos trivial, hK3 k (by omega)]
      simp only [Option.bind_some]
      have := hK' k (by omega)
      rw [show ((0 : Nat) : Int) = (0 : Int) from rfl] at this
      rw [this]
      simp only [Option.bind_some]
      split <;> rfl
    have impl : ∀ r, Ev (fun k => if m = 2 then ((impl_decimal.f u).bind fun t533 => (if 1 + t533.size ≤ 9223372036854775807 then (some ((⟨#[65]⟩ : ByteArray) ++ t533, (0 : Int))) else (none))) else (if m = 3 then (impl_NameOfCurve.j0 k u (decide (v > 0)) B M) else (impl_NameOfCurve.j0 k u false B M))) r → Ev (fun k => impl_NameOfCurve.f k B M) r := by
      rintro r ⟨K', hK'⟩
      refine ⟨max K2 (max K4 (max K5 (max K7 (max K8 K')))), fun k hk => ?_⟩
      show impl_NameOfCurve.f k B M = _
      unfold impl_NameOfCurve.f
      rw [hK2 k (by omega)]
      simp only [Option.bind_some]
      rw [if_pos trivial, hK4 k (by omega)]
      simp only [Option.bind_some]
      rw [hmf k (by omega)]
      simp only [Option.bind_some]
      rw [htg k (by omega)]
      simp only [Option.bind_some]
      rw [hmx k (by omega)]
      simp only [Option.bind_some]
      exact hK' k (by omega)
    have e0 : ((⟨#[]⟩ : ByteArray).toList = ([] : List UInt8)) := by
      rw [ByteArray.toList_eq]
    by_cases h2 : m = 2
    · refine ⟨_, spec (nm 65 u) (ev_intro K9 fun k hk => ?_), impl _ ⟨0, fun k _ => ?_⟩⟩
      · have hk' := hK9 k hk
        simp only [spec_l19Name.l0]
        rw [if_neg (by omega), if_pos h2, hk']
        simp only [Option.bind_some]
        rw [if_pos (nm_size u hu)]
        rfl
      · simp only
        rw [if_pos h2, decimal_ev u hu, if_neg (nm_ne 65 u)]
        simp only [Option.bind_some]
        rw [if_pos (nm_size u hu)]
        rfl
    by_cases h3 : m = 3
    · by_cases hp : 0 < v
      · obtain ⟨K', hK'⟩ := i1 (hv'.mp hp)
        refine ⟨_, spec (nm 68 u) (ev_intro (max K6 K') fun k hk => ?_), impl _ (ev_intro 0 fun k _ => ?_)⟩
        · simp only [spec_l19Name.l0]
          rw [if_neg (by omega), if_neg h2, if_pos h3, htf k (by omega)]
          exact hK' k (by omega)
        · simp only [impl_NameOfCurve.j0]
          rw [if_neg h2, if_pos h3, decide_eq_true hp, if_pos rfl, decimal_ev u hu, if_neg (nm_ne 68 u)]
          simp only [Option.bind_some]
          rw [if_pos (nm_size u hu)]
          rfl
      · obtain ⟨K', hK'⟩ := i2 (fun hx => hp (hv'.mpr hx))
        refine ⟨_, spec (if 8 < u then ⟨#[]⟩ else nm 69 u) (ev_intro (max K6 K') fun k hk => ?_), impl _ (ev_intro K5 fun k hk => ?_)⟩
        · simp only [spec_l19Name.l0]
          rw [if_neg (by omega), if_neg h2, if_pos h3, htf k (by omega)]
          exact hK' k (by omega)
        · simp only [impl_NameOfCurve.j0]
          rw [if_neg h2, if_pos h3, decide_eq_false hp, if_neg (by simp), hmf k hk]
          simp only [Option.bind_some]
          rw [if_pos h3]
          by_cases h8 : 8 < u
          · rw [if_neg (by omega), if_pos h8, if_pos e0]
          · rw [if_pos (by omega), if_neg h8, if_neg (nm_ne 69 u), decimal_ev u hu]
            simp only [Option.bind_some]
            rw [if_pos (nm_size u hu)]
            rfl
    · refine ⟨_, spec ⟨#[]⟩ (ev_intro 0 fun k hk => ?_), impl _ (ev_intro K5 fun k hk => ?_)⟩
      · simp only [spec_l19Name.l0]
        rw [if_neg (by omega), if_neg h2, if_neg h3]
      · simp only [impl_NameOfCurve.j0]
        rw [if_neg h2, if_neg h3, if_neg (by simp), hmf k hk, if_pos e0]
        simp only [Option.bind_some]
        rw [if_neg h3]
end Go.Proofs.YtkfdfpcdcabcoaaDoor.Plain
namespace Go.Proofs.YtkfdfpcdcabcoaaDoor.Plain
open Go.RowKit Go.Proofs.YtkfdfpcdcabcoaaDoorW.PrintWords Go.Proofs.YtkfdfpcdcabcoaaDoor.QName
theorem szI (l : List Int) (a : Int) (h0 : 0 ≤ a) (h1 : a ≤ 1048576) (hl : l.length ≤ 9223372036854775807) : ∃ v : Int, laws_szInt64S.f l a = some v ∧ (v = -1 ∨ (0 ≤ v ∧ v ≤ a ∧ l.length ≤ 1048576)) := by
  unfold laws_szInt64S.f
  rw [w64 (by omega) (by omega)]
  by_cases h : a - (l.length : Int) < 0
  · rw [if_pos h]
    exact ⟨-1, rfl, .inl rfl⟩
  · rw [if_neg h]
    exact ⟨_, rfl, .inr ⟨by omega, by omega, by omega⟩⟩
theorem szB (l : List Int) (a : Int) (h0 : 0 ≤ a) (h1 : a ≤ 1048576) (hl : l.length ≤ 9223372036854775807) : ∃ v : Int, laws_szBranch.f l a = some v ∧ (v = -1 ∨ (0 ≤ v ∧ v ≤ a ∧ l.length ≤ 1048576)) := by
  obtain ⟨v, hv, hc⟩ := szI l a h0 h1 hl
  unfold laws_szBranch.f
  rw [hv]
  simp only [Option.bind_some]
  by_cases h : v < 0
  · rw [if_pos h]
    exact ⟨-1, rfl, .inl rfl⟩
  · rw [if_neg h]
    exact ⟨v, rfl, hc⟩
theorem szBS_l0 (B : List S71) (hB : B.length ≤ 1048576) (hl : ∀ i, i < B.length → (rd_T71 B (i : Int)).f0.length ≤ 9223372036854775807) : ∀ (d i : Nat) (a : Int), i + d = B.length → 0 ≤ a → a ≤ 1048576 →
    ∃ v : Int, Ev (fun k => laws_szBranchS.l0 k B a i) v ∧ (v = -1 ∨ (0 ≤ v ∧ v ≤ a ∧ ∀ j, i ≤ j → j < B.length → (rd_T71 B (j : Int)).f0.length ≤ 1048576))
  | 0, i, a, h, h0, h1 => ⟨a, ev_intro 0 fun k _ => by
      simp only [laws_szBranchS.l0]
      rw [if_neg (by omega)], .inr ⟨h0, Int.le_refl _, fun j h2 h3 => absurd h3 (by omega)⟩⟩
  | d + 1, i, a, h, h0, h1 => by
    obtain ⟨v, hv, hc⟩ := szB (rd_T71 B (i : Int)).f0 a h0 h1 (hl i (by omega))
    rcases hc with rfl | ⟨c0, c1, c2⟩
    · refine ⟨-1, ev_intro 0 fun k _ => ?_, .inl rfl⟩
      simp only [laws_szBranchS.l0]
      rw [if_pos (by omega), if_pos (by omega), hv]
      rfl
    · obtain ⟨r, ⟨K, hK⟩, hr⟩ := szBS_l0 B hB hl d (i + 1) v (by omega) c0 (by omega)
      refine ⟨r, ev_intro K fun k hk => ?_, hr.imp id fun ⟨r0, r1, r2⟩ => ⟨r0, by omega, fun j h2 h3 => ?_⟩⟩
      · simp only [laws_szBranchS.l0]
        rw [if_pos (by omega), if_pos (by omega), hv]
        simp only [Option.bind_some]
        rw [if_neg (by omega), wi i (by omega)]
        exact hK k hk
      · by_cases hj : j = i
        · rw [hj]
          exact c2
        · exact r2 j (by omega) h3
theorem szIS_l0 (B : List (List Int)) (hB : B.length ≤ 1048576) (hl : ∀ i, i < B.length → (rd_L1 B (i : Int)).length ≤ 9223372036854775807) : ∀ (d i : Nat) (a : Int), i + d = B.length → 0 ≤ a → a ≤ 1048576 →
    ∃ v : Int, Ev (fun k => laws_szInt64SS.l0 k B a i) v ∧ (v = -1 ∨ (0 ≤ v ∧ v ≤ a ∧ ∀ j, i ≤ j → j < B.length → (rd_L1 B (j : Int)).length ≤ 1048576))
  | 0, i, a, h, h0, h1 => ⟨a, ev_intro 0 fun k _ => by
      simp only [laws_szInt64SS.l0]
      rw [if_neg (by omega)], .inr ⟨h0, Int.le_refl _, fun j h2 h3 => absurd h3 (by omega)⟩⟩
  | d + 1, i, a, h, h0, h1 => by
    obtain ⟨v, hv, hc⟩ := szI (rd_L1 B (i : Int)) a h0 h1 (hl i (by omega))
    rcases hc with rfl | ⟨c0, c1, c2⟩
    · refine ⟨-1, ev_intro 0 fun k _ => ?_, .inl rfl⟩
      simp only [laws_szInt64SS.l0]
      rw [if_pos (by omega), if_pos (by omega), hv]
      rfl
    · obtain ⟨r, ⟨K, hK⟩, hr⟩ := szIS_l0 B hB hl d (i + 1) v (by omega) c0 (by omega)
      refine ⟨r, ev_intro K fun k hk => ?_, hr.imp id fun ⟨r0, r1, r2⟩ => ⟨r0, by omega, fun j h2 h3 => ?_⟩⟩
      · simp only [laws_szInt64SS.l0]
        rw [if_pos (by omega), if_pos (by omega), hv]
        simp only [Option.bind_some]
        rw [if_neg (by omega), wi i (by omega)]
        exact hK k hk
      · by_cases hj : j = i
        · rw [hj]
          exact c2
        · exact r2 j (by omega) h3
def Small (B : List S71) (C : List (List Int)) : Prop :=
  (B.length ≤ 1048576 ∧ ∀ i, i < B.length → (rd_T71 B (i : Int)).f0.length ≤ 1048576) ∧ (C.length ≤ 1048576 ∧ ∀ i, i < C.length → (rd_L1 C (i : Int)).length ≤ 1048576)
theorem sz_ev (B : List S71) (C : List (List Int)) (hB : B.length ≤ 9223372036854775807) (hC : C.length ≤ 9223372036854775807) (hb : ∀ i, i < B.length → (rd_T71 B (i : Int)).f0.length ≤ 9223372036854775807) (hc : ∀ i, i < C.length → (rd_L1 C (i : Int)).length ≤ 9223372036854775807) :
    ∃ v : Int, Ev (fun k => laws_szCurve.f k B C 1048576) v ∧ (v = -1 ∨ (0 ≤ v ∧ Small B C)) := by
  have hBS : ∃ v : Int, Ev (fun k => laws_szBranchS.f k B 1048576) v ∧ (v = -1 ∨ (0 ≤ v ∧ v ≤ 1048576 ∧ B.length ≤ 1048576 ∧ ∀ i, i < B.length → (rd_T71 B (i : Int)).f0.length ≤ 1048576)) := by
    by_cases h : (1048576 : Int) - (B.length : Int) < 0
    · refine ⟨-1, ⟨0, fun k _ => ?_⟩, .inl rfl⟩
      show laws_szBranchS.f k B 1048576 = _
      unfold laws_szBranchS.f
      rw [w64 (by omega) (by omega), if_pos h]
    · obtain ⟨v, ⟨K, hK⟩, hv⟩ := szBS_l0 B (by omega) hb B.length 0 (1048576 - (B.length : Int)) (by omega) (by omega) (by omega)
      refine ⟨v, ⟨K, fun k hk => ?_⟩, hv.imp id fun ⟨r0, r1, r2⟩ => ⟨r0, by omega, by omega, fun i hi => r2 i (by omega) hi⟩⟩
      show laws_szBranchS.f k B 1048576 = _
      unfold laws_szBranchS.f
      rw [w64 (by omega) (by omega), if_neg h]
      exact hK k hk
  obtain ⟨v, ⟨K, hK⟩, hv⟩ := hBS
  simp only at hK
  rcases hv with rfl | ⟨v0, v1, v2, v3⟩
  · refine ⟨-1, ⟨K, fun k hk => ?_⟩, .inl rfl⟩
    show laws_szCurve.f k B C 1048576 = _
    unfold laws_szCurve.f
    rw [hK k hk]
    rfl
  have hCS : ∃ u : Int, Ev (fun k => laws_szInt64SS.f k C v) u ∧ (u = -1 ∨ (0 ≤ u ∧ C.length ≤ 1048576 ∧ ∀ i, i < C.length → (rd_L1 C (i : Int)).length ≤ 1048576)) := by
    by_cases h : v - (C.length : Int) < 0
    · refine ⟨-1, ⟨0, fun k _ => ?_⟩, .inl rfl⟩
      show laws_szInt64SS.f k C v = _
      unfold laws_szInt64SS.f
      rw [w64 (by omega) (by omega), if_pos h]
    · obtain ⟨u, ⟨K, hK⟩, hu⟩ := szIS_l0 C (by omega) hc C.length 0 (v - (C.length : Int)) (by omega) (by omega) (by omega)
      refine ⟨u, ⟨K, fun k hk => ?_⟩, hu.imp id fun ⟨r0, r1, r2⟩ => ⟨r0, by omega, fun i hi => r2 i (by omega) hi⟩⟩
      show laws_szInt64SS.f k C v = _
      unfold laws_szInt64SS.f
      rw [w64 (by omega) (by omega), if_neg h]
      exact hK k hk
  obtain ⟨u, ⟨K2, hK2⟩, hu⟩ := hCS
  simp only at hK2
  refine ⟨u, ⟨max K K2, fun k hk => ?_⟩, hu.imp id fun ⟨u0, u1, u2⟩ => ⟨u0, ⟨v2, v3⟩, u1, u2⟩⟩
  show laws_szCurve.f k B C 1048576 = _
  unfold laws_szCurve.f
  rw [hK k (by omega)]
  simp only [Option.bind_some]
  rw [if_neg (by omega), hK2 k (by omega)]
  simp only [Option.bind_some]
  by_cases h : u < 0
  · rw [if_pos h]
    rcases hu with rfl | hu
    · rfl
    · omega
  · rw [if_neg h]
/-! ### Copies -/
theorem list_same {α : Type} {l m : List α} {z : α} (hl : l.length = m.length) (h : ∀ j, j < m.length → l.getD j z = m.getD j z) : l = m := by
  apply List.ext_getElem hl
  intro i h1 h2
  have := h i h2
  rw [List.getD_eq_getElem?_getD, List.getD_eq_getElem?_getD, List.getElem?_eq_getElem h1, List.getElem?_eq_getElem h2] at this
  simpa using this
theorem toI_l0 (l : List Int) (hl : l.length ≤ 1048576) : ∀ (d i : Nat) (x : List Int), i + d = l.length → x.length = l.length → (∀ j, j < i → x.getD j 0 = l.getD j 0) → Ev (fun k => laws_toInt64S.l0 k l x i) l
  | 0, i, x, h, hx, hc => ev_intro 0 fun k _ => by
      simp only [laws_toInt64S.l0]
      rw [if_neg (by omega), list_same hx (fun j hj => hc j (by omega))]
  | d + 1, i, x, h, hx, hc => by
    obtain ⟨K, hK⟩ := toI_l0 l hl d (i + 1) (x.set i (rd l (i : Int))) (by omega) (by simpa using hx) (fun j hj => by
      rw [getD_set]
      by_cases hj2 : i = j
      · subst hj2
        rw [if_pos ⟨rfl, by omega⟩, rd_nat]
      · rw [if_neg (by omega)]
        exact hc j (by omega))
    refine ev_intro K fun k hk => ?_
    simp only [laws_toInt64S.l0]
    rw [if_pos (by omega), if_pos (by omega), if_pos (by omega), wi i (by omega), Int.toNat_natCast]
    exact hK k hk
theorem toI_ev (l : List Int) (hl : l.length ≤ 1048576) : Ev (fun k => laws_toInt64S.f k l) l := by
  obtain ⟨K, hK⟩ := toI_l0 l hl l.length 0 (List.replicate l.length 0) (by omega) (by simp) (fun j hj => absurd hj (by omega))
  refine ⟨K, fun k hk => ?_⟩
  show laws_toInt64S.f k l = _
  unfold laws_toInt64S.f
  rw [if_pos (by omega), Int.toNat_natCast, if_pos (by omega)]
  exact hK k hk
def cvB (B : List S71) : List S74 := B.map fun x => ⟨x.f0⟩
theorem cvB_get (B : List S71) {j : Nat} (h : j < B.length) : (cvB B).getD j z74 = ⟨(rd_T71 B (j : Int)).f0⟩ := by
  unfold cvB rd_T71
  rw [Int.toNat_natCast, List.getD_eq_getElem?_getD, List.getD_eq_getElem?_getD, List.getElem?_map, List.getElem?_eq_getElem h]
  rfl
theorem toB_l0 (B : List S71) (hB : B.length ≤ 1048576) (hb : ∀ i, i < B.length → (rd_T71 B (i : Int)).f0.length ≤ 1048576) : ∀ (d i : Nat) (x : List S74), i + d = B.length → x.length = B.length → (∀ j, j < i → x.getD j z74 = (cvB B).getD j z74) → Ev (fun k => laws_toBranchS.l0 k B x i) (cvB B)
  | 0, i, x, h, hx, hc => ev_intro 0 fun k _ => by
      simp only [laws_toBranchS.l0]
      rw [if_neg (by omega), list_same (z := z74) (m := cvB B) (by simpa [cvB] using hx) (fun j hj => hc j (by simp [cvB] at hj; omega))]
  | d + 1, i, x, h, hx, hc => by
    obtain ⟨K, hK⟩ := toB_l0 B hB hb d (i + 1) (x.set i ⟨(rd_T71 B (i : Int)).f0⟩) (by omega) (by simpa using hx) (fun j hj => by
      rw [getD_set]
      by_cases hj2 : i = j
      · subst hj2
        rw [if_pos ⟨rfl, by omega⟩, cvB_get B (by omega)]
      · rw [if_neg (by omega)]
        exact hc j (by omega))
    obtain ⟨K2, hK2⟩ := toI_ev _ (hb i (by omega))
    simp only at hK2
    refine ev_intro (max K K2) fun k hk => ?_
    simp only [laws_toBranchS.l0]
    unfold laws_toBranch.f
    rw [if_pos (by omega), if_pos (by omega), hK2 k (by omega)]
    simp only [Option.bind_some]
    rw [if_pos (by omega), wi i (by omega), Int.toNat_natCast]
    exact hK k (by omega)
theorem toC_l0 (C : List (List Int)) (hC : C.length ≤ 1048576) (hc : ∀ i, i < C.length → (rd_L1 C (i : Int)).length ≤ 1048576) : ∀ (d i : Nat) (x : List (List Int)), i + d = C.length → x.length = C.length → (∀ j, j < i → x.getD j [] = C.getD j []) → Ev (fun k => laws_toInt64SS.l0 k C x i) C
  | 0, i, x, h, hx, hc => ev_intro 0 fun k _ => by
      simp only [laws_toInt64SS.l0]
      rw [if_neg (by omega), list_same hx (fun j hj => hc j (by omega))]
  | d + 1, i, x, h, hx, hc2 => by
    obtain ⟨K, hK⟩ := toC_l0 C hC hc d (i + 1) (x.set i (rd_L1 C (i : Int))) (by omega) (by simpa using hx) (fun j hj => by
      rw [getD_set]
      by_cases hj2 : i = j
      · subst hj2
        rw [if_pos ⟨rfl, by omega⟩]
        rfl
      · rw [if_neg (by omega)]
        exact hc2 j (by omega))
    obtain ⟨K2, hK2⟩ := toI_ev _ (hc i (by omega))
    simp only at hK2
    refine ev_intro (max K K2) fun k hk => ?_
    simp only [laws_toInt64SS.l0]
    rw [if_pos (by omega), if_pos (by omega), hK2 k (by omega)]
    simp only [Option.bind_some]
    rw [if_pos (by omega), wi i (by omega), Int.toNat_natCast]
    exact hK k (by omega)
theorem to_ev {B : List S71} {C : List (List Int)} (h : Small B C) : Ev (fun k => laws_toCurve.f k B C) (cvB B, C) := by
  obtain ⟨⟨hB, hb⟩, hC, hc⟩ := h
  obtain ⟨K, hK⟩ := toB_l0 B hB hb B.length 0 (List.replicate B.length z74) (by omega) (by simp) (fun j hj => absurd hj (by omega))
  obtain ⟨K2, hK2⟩ := toC_l0 C hC hc C.length 0 (List.replicate C.length []) (by omega) (by simp) (fun j hj => absurd hj (by omega))
  simp only at hK hK2
  rw [show ((0 : Nat) : Int) = (0 : Int) from rfl] at hK hK2
  refine ⟨max K K2, fun k hk => ?_⟩
  show laws_toCurve.f k B C = _
  unfold laws_toCurve.f laws_toBranchS.f
  rw [if_pos (by omega), Int.toNat_natCast, if_pos (by omega), hK k (by omega)]
  simp only [Option.bind_some]
  unfold laws_toInt64SS.f
  rw [if_pos (by omega), Int.toNat_natCast, if_pos (by omega), hK2 k (by omega)]
  rfl
/-! ### Comparing a copy with itself -/
theorem eqI_l0 (l : List Int) (hl : l.length ≤ 1048576) : ∀ d i : Nat, i + d = l.length → Ev (fun k => laws_eqInt64S.l0 k l l i) true
  | 0, i, h => ev_intro 0 fun k _ => by
      simp only [laws_eqInt64S.l0]
      rw [if_neg (by omega)]
  | d + 1, i, h => by
    obtain ⟨K, hK⟩ := eqI_l0 l hl d (i + 1) (by omega)
    refine ev_intro K fun k hk => ?_
    simp only [laws_eqInt64S.l0]
    rw [if_pos (by omega), if_pos (by omega), if_pos (by omega), if_pos trivial, wi i (by omega)]
    exact hK k hk
theorem eqI_ev (l : List Int) (hl : l.length ≤ 1048576) : Ev (fun k => laws_eqInt64S.f k l l) true := by
  obtain ⟨K, hK⟩ := eqI_l0 l hl l.length 0 (by omega)
  refine ⟨K, fun k hk => ?_⟩
  show laws_eqInt64S.f k l l = _
  unfold laws_eqInt64S.f
  rw [if_pos rfl]
  exact hK k hk
theorem eqB_l0 (B : List S74) (hB : B.length ≤ 1048576) (hb : ∀ i, i < B.length → (rd_T74 B (i : Int)).f0.length ≤ 1048576) : ∀ d i : Nat, i + d = B.length → Ev (fun k => laws_eqBranchS.l0 k B B i) true
  | 0, i, h => ev_intro 0 fun k _ => by
      simp only [laws_eqBranchS.l0]
      rw [if_neg (by omega)]
  | d + 1, i, h => by
    obtain ⟨K, hK⟩ := eqB_l0 B hB hb d (i + 1) (by omega)
    obtain ⟨K2, hK2⟩ := eqI_ev _ (hb i (by omega))
    simp only at hK2
    refine ev_intro (max K K2) fun k hk => ?_
    simp only [laws_eqBranchS.l0]
    unfold laws_eqBranch.f
    rw [if_pos (by omega), if_pos (by omega), if_pos (by omega), hK2 k (by omega)]
    simp only [Option.bind_some]
    rw [if_pos trivial, wi i (by omega)]
    simp only [Option.bind_some]
    rw [if_pos trivial]
    exact hK k (by omega)
theorem eqC_l0 (B : List (List Int)) (hB : B.length ≤ 1048576) (hb : ∀ i, i < B.length → (rd_L1 B (i : Int)).length ≤ 1048576) : ∀ d i : Nat, i + d = B.length → Ev (fun k => laws_eqInt64SS.l0 k B B i) true
  | 0, i, h => ev_intro 0 fun k _ => by
      simp only [laws_eqInt64SS.l0]
      rw [if_neg (by omega)]
  | d + 1, i, h => by
    obtain ⟨K, hK⟩ := eqC_l0 B hB hb d (i + 1) (by omega)
    obtain ⟨K2, hK2⟩ := eqI_ev _ (hb i (by omega))
    simp only at hK2
    refine ev_intro (max K K2) fun k hk => ?_
    simp only [laws_eqInt64SS.l0]
    rw [if_pos (by omega), if_pos (by omega), if_pos (by omega), hK2 k (by omega)]
    simp only [Option.bind_some]
    rw [if_pos trivial, wi i (by omega)]
    exact hK k (by omega)
theorem eq_ev (B : List S74) (C : List (List Int)) (hB : B.length ≤ 1048576) (hb : ∀ i, i < B.length → (rd_T74 B (i : Int)).f0.length ≤ 1048576) (hC : C.length ≤ 1048576) (hc : ∀ i, i < C.length → (rd_L1 C (i : Int)).length ≤ 1048576) : Ev (fun k => laws_eqCurve.f k B C B C) true := by
  obtain ⟨K, hK⟩ := eqB_l0 B hB hb B.length 0 (by omega)
  obtain ⟨K2, hK2⟩ := eqC_l0 C hC hc C.length 0 (by omega)
  simp only at hK hK2
  rw [show ((0 : Nat) : Int) = (0 : Int) from rfl] at hK hK2
  refine ⟨max K K2, fun k hk => ?_⟩
  show laws_eqCurve.f k B C B C = _
  unfold laws_eqCurve.f laws_eqBranchS.f laws_eqInt64SS.f
  rw [if_pos rfl, hK k (by omega)]
  simp only [Option.bind_some]
  rw [if_pos trivial, if_pos trivial, hK2 k (by omega)]
  simp only [Option.bind_some]
  rw [if_pos trivial]
/-- THE LAW: true at every curve whose parts are of lengths that a machine can hold. -/
theorem law_ev (B : List S71) (C : List (List Int)) (hB : B.length ≤ 9223372036854775807) (hC : C.length ≤ 9223372036854775807) (hb : ∀ i, i < B.length → (rd_T71 B (i : Int)).f0.length ≤ 9223372036854775807) (hc : ∀ i, i < C.length → (rd_L1 C (i : Int)).length ≤ 9223372036854775807) :
    Ev (fun k => laws_FnExactNameOfCurve.f k B C) true := by
  obtain ⟨v, ⟨K, hK⟩, hv⟩ := sz_ev B C hB hC hb hc
  simp only at hK
  rcases hv with rfl | ⟨v0, hs⟩
  · refine ⟨K, fun k hk => ?_⟩
    show laws_FnExactNameOfCurve.f k B C = _
    unfold laws_FnExactNameOfCurve.f
    rw [hK k hk]
    rfl
  obtain ⟨K2, hK2⟩ := to_ev hs
  have hl : (cvB B).length = B.length := by simp [cvB]
  have hbr : ∀ i, i < (cvB B).length → (rd_T74 (cvB B) (i : Int)).f0.length ≤ 1048576 := fun i hi => by
    have := cvB_get B (j := i) (by omega)
    unfold rd_T74
    rw [Int.toNat_natCast, this]
    exact hs.1.2 i (by omega)
  obtain ⟨r, ⟨K3, hK3⟩, ⟨K4, hK4⟩⟩ := name_ev (B := cvB B) (M := C) (fun i hi => Nat.le_trans (hbr i hi) (by omega))
  obtain ⟨K5, hK5⟩ := eq_ev (cvB B) C (by rw [hl]; exact hs.1.1) hbr hs.2.1 hs.2.2
  simp only at hK2 hK3 hK4 hK5
  refine ⟨max K (max K2 (max K3 (max K4 K5))) + 1, fun k hk => ?_⟩
  obtain ⟨k, rfl⟩ : ∃ m, k = m + 1 := ⟨k - 1, by omega⟩
  show laws_FnExactNameOfCurve.f (k + 1) B C = _
  unfold laws_FnExactNameOfCurve.f
  rw [hK (k + 1) (by omega)]
  simp only [Option.bind_some]
  rw [if_neg (by omega), hK2 (k + 1) (by omega)]
  simp only [Option.bind_some]
  rw [hK3 (k + 1) (by omega)]
  simp only [Option.bind_some]
  rw [hK4 (k + 1) (by omega)]
  simp only [Option.bind_some]
  rw [if_pos trivial]
  simp only [laws_FnExactNameOfCurve.j0]
  rw [bne_self_eq_false, if_neg (by simp), hK2 k (by omega)]
  simp only [Option.bind_some]
  rw [hK5 k (by omega)]
  simp only [Option.bind_some]
  rw [if_pos trivial]
end Go.Proofs.YtkfdfpcdcabcoaaDoor.Plain
