/- Plain lists and numbers: branches, sequences of multiplicities, codes. No program. -/
import Derived.Test.YtkfdfpcdcabcoaaDoorGO
set_option linter.unusedVariables false
set_option linter.unusedSimpArgs false
namespace Go.Proofs.YtkfdfpcdcabcoaaDoor.Plain
open Go.RowKit Go.Proofs.YtkfdfpcdcabcoaaDoorW.PrintWords
theorem w64 {x : Int} (h1 : -9223372036854775808 ≤ x) (h2 : x ≤ 9223372036854775807) : wrap64 x = x := by
  unfold wrap64
  omega
theorem w64_add (x y : Int) : wrap64 (wrap64 x + y) = wrap64 (x + y) := by
  unfold wrap64
  omega
theorem rd_nat (l : List Int) (i : Nat) : rd l (i : Int) = l.getD i 0 := by simp [rd]
theorem drop_nil {α : Type} {t : List α} {i : Nat} (h : t.drop i = []) : t.length ≤ i := List.drop_eq_nil_iff.mp h
theorem drop_cons {α : Type} {t : List α} {i : Nat} {x : α} {xs : List α} (h : t.drop i = x :: xs) : i < t.length ∧ t[i]? = some x ∧ t.drop (i + 1) = xs := by
  have hl : i < t.length := by
    rcases Nat.lt_or_ge i t.length with h1 | h1
    · exact h1
    · rw [List.drop_eq_nil_of_le h1] at h
      cases h
  rw [List.drop_eq_getElem_cons hl] at h
  injection h with h1 h2
  exact ⟨hl, by rw [List.getElem?_eq_getElem hl, h1], h2⟩
theorem getD_of {α : Type} {t : List α} {i : Nat} {x z : α} (h : t[i]? = some x) : t.getD i z = x := by rw [List.getD_eq_getElem?_getD, h]; rfl
theorem ev_intro {α : Type} {g : Nat → Option α} {r : α} (K : Nat) (h : ∀ k, K ≤ k → g (k + 1) = some r) : ∃ K, ∀ k, K ≤ k → g k = some r :=
  ⟨K + 1, fun k hk => by
    obtain ⟨m, rfl⟩ : ∃ m, k = m + 1 := ⟨k - 1, by omega⟩
    exact h m (by omega)⟩
/-! ### Branches -/
def chain : Int → Int → List Int → Bool
  | e, _, [] => e == 1
  | e, last, x :: xs => decide (last < x) && decide (x ≤ 2000) && ((Int.gcd e x : Int) != e) && chain (Int.gcd e x) x xs
def brB : List Int → Bool
  | [] => false
  | a :: r => decide (1 ≤ a) && decide (a ≤ 64) && chain a a r
def dv : Int → List Int → List Int
  | _, [] => []
  | e, x :: xs => (Int.gcd e x : Int) :: dv (Int.gcd e x) xs
theorem gcd_pos {e x : Int} (h : 0 < e) : 0 < (Int.gcd e x : Int) := by
  have := Int.gcd_pos_of_ne_zero_left x (a := e) (by omega)
  omega
theorem gcd_le {e x : Int} (h : 0 < e) : (Int.gcd e x : Int) ≤ e := by
  have := Int.gcd_le_natAbs_left x (a := e) (by omega)
  omega
def ascF : Int → List Int → Bool
  | _, [] => true
  | last, x :: xs => decide (last < x) && ascF x xs
def fallF : Int → List Int → Bool
  | last, [] => last == 1
  | last, x :: xs => decide (x < last) && fallF x xs
def inB (a b : Int) (x : Int) : Bool := decide (a ≤ x) && decide (x ≤ b)
theorem chain_eq : ∀ (r : List Int) (e last : Int), 0 < e → 1 ≤ last → chain e last r = (ascF last r && (r.all (inB 1 2000) && fallF e (dv e r)))
  | [], e, last, _, _ => by simp [chain, ascF, fallF, dv]
  | x :: xs, e, last, he, hl => by
    have ih := chain_eq xs (Int.gcd e x) x (gcd_pos he)
    have hg := gcd_le (x := x) he
    simp only [chain, ascF, fallF, dv, List.all_cons, inB]
    by_cases h1 : last < x
    · rw [ih (by omega), decide_eq_true h1, decide_eq_true (show (1 : Int) ≤ x by omega)]
      by_cases h2 : x ≤ 2000
      · rw [decide_eq_true h2]
        by_cases h3 : (Int.gcd e x : Int) = e
        · rw [h3, decide_eq_false (show ¬ e < e by omega)]
          simp
        · rw [decide_eq_true (show (Int.gcd e x : Int) < e by omega), show ((Int.gcd e x : Int) != e) = true by simpa using h3]
          simp
      · rw [decide_eq_false h2]
        simp
    · rw [decide_eq_false h1]
      simp
theorem brB_eq (a : Int) (r : List Int) : brB (a :: r) = (inB 1 64 a && (ascF a r && ((a :: r).all (inB 1 2000) && fallF a (dv a r)))) := by
  simp only [brB]
  by_cases h : 1 ≤ a ∧ a ≤ 64
  · rw [chain_eq r a a (by omega) (by omega)]
    have h2 : inB 1 2000 a = true := by unfold inB; rw [decide_eq_true h.1, decide_eq_true (show a ≤ 2000 by omega)]; rfl
    rw [List.all_cons, h2]
    simp only [Bool.true_and, inB, decide_eq_true h.1, decide_eq_true h.2]
  · have : (decide (1 ≤ a) && decide (a ≤ 64)) = false := by
      by_cases h1 : 1 ≤ a
      · rw [decide_eq_false (fun h2 => h ⟨h1, h2⟩), Bool.and_false]
      · rw [decide_eq_false h1, Bool.false_and]
    simp only [inB, this, Bool.false_and]
/-! ### Steps, runs, sequences -/
def st (a b : Nat) : List (List Int) := if h : b = 0 then [] else [((a / b : Nat) : Int), (b : Int)] :: st b (a % b)
  termination_by b
  decreasing_by exact Nat.mod_lt _ (by omega)
theorem st_zero (a : Nat) : st a 0 = [] := by rw [st]; rfl
theorem st_pos (a : Nat) {b : Nat} (h : 0 < b) : st a b = [((a / b : Nat) : Int), (b : Int)] :: st b (a % b) := by rw [st, dif_neg (by omega)]
def IsStep (s : List Int) : Prop := ∃ q r : Nat, s = [(q : Int), (r : Int)] ∧ 1 ≤ r ∧ r ≤ 64 ∧ q ≤ 2000
def ex (s : List (List Int)) : List Int := s.flatMap fun p => List.replicate (p.getD 0 0).toNat (p.getD 1 0)
theorem ex_nil : ex [] = [] := rfl
theorem ex_cons (p : List Int) (s : List (List Int)) : ex (p :: s) = List.replicate (p.getD 0 0).toNat (p.getD 1 0) ++ ex s := by simp [ex]
theorem ex_append (s u : List (List Int)) : ex (s ++ u) = ex s ++ ex u := by simp [ex]
theorem ex_pair (q r : Nat) (s : List (List Int)) : ex ([(q : Int), (r : Int)] :: s) = List.replicate q (r : Int) ++ ex s := by rw [ex_cons]; rfl
theorem st_step (b : Nat) : ∀ a : Nat, b ≤ 64 → a ≤ 2000 → ∀ s ∈ st a b, IsStep s := by
  induction b using Nat.strongRecOn with
  | _ b ih =>
    intro a hb ha s hs
    by_cases h : b = 0
    · subst h
      rw [st_zero] at hs
      cases hs
    · rw [st_pos a (by omega)] at hs
      rcases List.mem_cons.mp hs with rfl | hs
      · exact ⟨a / b, b, rfl, by omega, hb, Nat.le_trans (Nat.div_le_self a b) ha⟩
      · have := Nat.mod_lt a (show 0 < b by omega)
        exact ih (a % b) this b (by omega) (by omega) s hs
theorem ex_st_le (b : Nat) : ∀ a : Nat, (ex (st a b)).length ≤ a + b := by
  induction b using Nat.strongRecOn with
  | _ b ih =>
    intro a
    by_cases h : b = 0
    · subst h
      rw [st_zero]
      simp [ex]
    · rw [st_pos a (by omega), ex_pair, List.length_append, List.length_replicate]
      have h1 := ih (a % b) (Nat.mod_lt a (by omega)) b
      have h2 := Nat.div_add_mod a b
      have h3 : a / b ≤ b * (a / b) := Nat.le_mul_of_pos_left _ (by omega)
      omega
theorem st_len (b : Nat) : ∀ a : Nat, (st a b).length ≤ b := by
  induction b using Nat.strongRecOn with
  | _ b ih =>
    intro a
    by_cases h : b = 0
    · subst h
      rw [st_zero]
      simp
    · rw [st_pos a (by omega), List.length_cons]
      have h1 := Nat.mod_lt a (show 0 < b by omega)
      have := ih (a % b) h1 b
      omega
def rn : Int → Int → List Int → List (List Int)
  | _, _, [] => []
  | last, e, x :: xs => st (x - last).toNat e.toNat ++ rn x (Int.gcd e x) xs
/-- What a branch's terms are, from a term on. -/
def Goes : Int → Int → List Int → Prop
  | _, _, [] => True
  | last, e, x :: xs => last < x ∧ x ≤ 2000 ∧ 1 ≤ e ∧ e ≤ 64 ∧ (Int.gcd e x : Int) < e ∧ Goes x (Int.gcd e x) xs
theorem goes_of : ∀ (r : List Int) (e last : Int), chain e last r = true → 1 ≤ e → e ≤ 64 → Goes last e r
  | [], _, _, _, _, _ => trivial
  | x :: xs, e, last, h, h1, h2 => by
    simp only [chain, Bool.and_eq_true, decide_eq_true_eq, bne_iff_ne, ne_eq] at h
    obtain ⟨⟨⟨ha, hb⟩, hc⟩, hd⟩ := h
    have hp := gcd_pos (x := x) (show 0 < e by omega)
    have hl := gcd_le (x := x) (show 0 < e by omega)
    exact ⟨ha, hb, h1, h2, by omega, goes_of xs (Int.gcd e x) x hd (by omega) (by omega)⟩
theorem rn_step : ∀ (r : List Int) (last e : Int), 0 ≤ last → Goes last e r → ∀ s ∈ rn last e r, IsStep s
  | [], _, _, _, _ => by simp [rn]
  | x :: xs, last, e, h0, h => by
    obtain ⟨ha, hb, hc, hd, he, hf⟩ := h
    intro s hs
    simp only [rn, List.mem_append] at hs
    rcases hs with hs | hs
    · exact st_step _ _ (by omega) (by omega) s hs
    · exact rn_step xs x _ (by omega) hf s hs
theorem ex_rn_le : ∀ (r : List Int) (last e : Int), 0 ≤ last → Goes last e r → (ex (rn last e r)).length ≤ 2000 - last.toNat + 64 * e.toNat
  | [], _, _, _, _ => by simp [rn, ex]
  | x :: xs, last, e, h0, h => by
    obtain ⟨ha, hb, hc, hd, he, hf⟩ := h
    have ih := ex_rn_le xs x _ (by omega) hf
    have h1 := ex_st_le e.toNat (x - last).toNat
    rw [rn, ex_append, List.length_append]
    omega
theorem rn_len : ∀ (r : List Int) (last e : Int), Goes last e r → (rn last e r).length ≤ 64 * r.length
  | [], _, _, _ => by simp [rn]
  | x :: xs, last, e, h => by
    obtain ⟨ha, hb, hc, hd, he, hf⟩ := h
    have ih := rn_len xs x _ hf
    have h1 := st_len e.toNat (x - last).toNat
    rw [rn, List.length_append, List.length_cons]
    omega
theorem goes_len : ∀ (r : List Int) (last e : Int), Goes last e r → r.length ≤ e.toNat ∨ r = []
  | [], _, _, _ => .inr rfl
  | [x], last, e, h => by
    obtain ⟨ha, hb, hc, hd, he, hf⟩ := h
    left
    simp
    omega
  | x :: y :: xs, last, e, h => by
    obtain ⟨ha, hb, hc, hd, he, hf⟩ := h
    rcases goes_len (y :: xs) x _ hf with h1 | h1
    · left
      simp only [List.length_cons] at h1 ⊢
      omega
    · cases h1
/-! ### The first multiplicities -/
def sq (t : List Int) : List Int := match t with | [] => [] | a :: r => ex (rn 0 a r)
def mm (t : List Int) (j : Nat) : Int := (sq t).getD j 1
def ml (t : List Int) (n : Nat) : List Int := (List.range n).map (mm t)
def padTo (n : Nat) (l : List Int) : List Int := l ++ List.replicate (n - l.length) 1
theorem pad_take (n : Nat) (l : List Int) : padTo n (l.take n) = (List.range n).map (fun j => l.getD j 1) := by
  apply List.ext_getElem
  · simp [padTo]
    omega
  · intro i h1 h2
    simp only [List.length_map, List.length_range] at h2
    simp only [padTo, List.getElem_map, List.getElem_range]
    by_cases h : i < l.length
    · rw [List.getElem_append_left (by simp; omega), List.getElem_take, List.getD_eq_getElem?_getD, List.getElem?_eq_getElem h]
      rfl
    · rw [List.getElem_append_right (by simp; omega), List.getElem_replicate, List.getD_eq_getElem?_getD, List.getElem?_eq_none (by omega)]
      rfl
theorem take_more {n : Nat} {y : List Int} (h : y.length = n) (z : List Int) : (y ++ z).take n = y := by
  subst h
  simp
theorem range_of (n : Nat) (x : List Int) : (x ++ List.replicate (n - x.length) 1).take n = (List.range n).map (fun j => x.getD j 1) := by
  apply List.ext_getElem
  · simp
    omega
  · intro i h1 h2
    simp only [List.length_map, List.length_range] at h2
    simp only [List.getElem_map, List.getElem_range, List.getElem_take]
    by_cases h : i < x.length
    · rw [List.getElem_append_left h, List.getD_eq_getElem?_getD, List.getElem?_eq_getElem h]
      rfl
    · rw [List.getElem_append_right (by omega), List.getElem_replicate, List.getD_eq_getElem?_getD, List.getElem?_eq_none (by omega)]
      rfl
end Go.Proofs.YtkfdfpcdcabcoaaDoor.Plain
namespace Go.Proofs.YtkfdfpcdcabcoaaDoor.Plain
open Go.RowKit Go.Proofs.YtkfdfpcdcabcoaaDoorW.PrintWords Go.Proofs.YtkfdfpcdcabcoaaDoor.QName
theorem inR (a b c : Int) : spec_l01In.f a b c = some (decide (b ≤ a) && decide (a ≤ c)) := by
  unfold spec_l01In.f
  by_cases h : a ≥ b <;> simp [h]
theorem inRi (a b c : Int) : impl_inRange.f a b c = some (decide (b ≤ a) && decide (a ≤ c)) := by
  unfold impl_inRange.f
  by_cases h : b ≤ a <;> simp [h]
theorem tmod_nat (a b : Nat) : Int.tmod (a : Int) (b : Int) = ((a % b : Nat) : Int) := rfl
theorem tdiv_nat (a b : Nat) : Int.tdiv (a : Int) (b : Int) = ((a / b : Nat) : Int) := rfl
theorem gcd_l0 (b : Nat) : ∀ a : Nat, ∃ K, ∀ k, K ≤ k → spec_l01Gcd.l0 k a b = some ((Nat.gcd a b : Nat) : Int) := by
  induction b using Nat.strongRecOn with
  | _ b ih =>
    intro a
    by_cases hb : b = 0
    · subst hb
      exact ev_intro 0 fun k _ => by simp [spec_l01Gcd.l0]
    · obtain ⟨K, hK⟩ := ih (a % b) (Nat.mod_lt _ (by omega)) b
      refine ev_intro K fun k hk => ?_
      simp only [spec_l01Gcd.l0]
      rw [if_pos (by omega), if_neg (by omega), tmod_nat, hK k hk, Nat.gcd_comm b (a % b), ← Nat.gcd_rec b a, Nat.gcd_comm b a]
theorem gcd_l0i (b : Nat) : ∀ a : Nat, ∃ K, ∀ k, K ≤ k → impl_divisor.l0 k a b = some ((Nat.gcd a b : Nat) : Int) := by
  induction b using Nat.strongRecOn with
  | _ b ih =>
    intro a
    by_cases hb : b = 0
    · subst hb
      exact ev_intro 0 fun k _ => by simp [impl_divisor.l0]
    · obtain ⟨K, hK⟩ := ih (a % b) (Nat.mod_lt _ (by omega)) b
      refine ev_intro K fun k hk => ?_
      simp only [impl_divisor.l0]
      rw [if_pos (by omega), if_neg (by omega), tmod_nat, hK k hk, Nat.gcd_comm b (a % b), ← Nat.gcd_rec b a, Nat.gcd_comm b a]
theorem gcd_ev {a b : Int} (ha : 0 ≤ a) (hb : 0 ≤ b) : ∃ K, ∀ k, K ≤ k → spec_l01Gcd.f k a b = some (Int.gcd a b : Int) := by
  obtain ⟨m, rfl⟩ := Int.eq_ofNat_of_zero_le ha
  obtain ⟨n, rfl⟩ := Int.eq_ofNat_of_zero_le hb
  obtain ⟨K, hK⟩ := gcd_l0 n m
  refine ⟨K + 2, fun k hk => ?_⟩
  obtain ⟨q, rfl⟩ : ∃ q, k = q + 2 := ⟨k - 2, by omega⟩
  unfold spec_l01Gcd.f
  rw [if_neg (by omega)]
  simp only [spec_l01Gcd.j0]
  rw [if_neg (by omega)]
  simp only [spec_l01Gcd.j1]
  rw [hK q (by omega)]
  rfl
theorem gcd_evi {a b : Int} (ha : 0 ≤ a) (hb : 0 ≤ b) : ∃ K, ∀ k, K ≤ k → impl_divisor.f k a b = some (Int.gcd a b : Int) := by
  obtain ⟨m, rfl⟩ := Int.eq_ofNat_of_zero_le ha
  obtain ⟨n, rfl⟩ := Int.eq_ofNat_of_zero_le hb
  obtain ⟨K, hK⟩ := gcd_l0i n m
  refine ⟨K, fun k hk => ?_⟩
  unfold impl_divisor.f impl_abs.f
  rw [if_neg (by omega), if_neg (by omega)]
  simp only [Option.bind_some]
  rw [hK k hk]
  rfl
/-! ### spec.l03Is -/
theorem l03_l0 (t : List Int) (ht : t.length ≤ 1000000000000) : ∀ (r : List Int) (i : Nat) (e : Int), t.drop i = r → 1 ≤ i → i ≤ t.length → 0 < e → (1 ≤ t.getD (i - 1) 0 ∧ t.getD (i - 1) 0 ≤ 2000) →
    ∃ K, ∀ k, K ≤ k → spec_l03Is.l0 k t e i = some (chain e (t.getD (i - 1) 0) r) := by
  intro r
  induction r with
  | nil =>
    intro i e hd h1 hi he hp
    have hl := drop_nil hd
    exact ev_intro 0 fun k _ => by simp only [spec_l03Is.l0]; rw [if_neg (by omega)]; rfl
  | cons x xs ih =>
    intro i e hd h1 hi he hp
    obtain ⟨hl, hx, hd'⟩ := drop_cons hd
    have hx' : t.getD i 0 = x := getD_of hx
    have hw : wrap64 ((i : Int) - 1) = ((i - 1 : Nat) : Int) := by rw [w64 (by omega) (by omega)]; omega
    have hw1 : wrap64 ((i : Int) + 1) = ((i + 1 : Nat) : Int) := by rw [w64 (by omega) (by omega)]; omega
    have hw2 : wrap64 (t.getD (i - 1) 0 + 1) = t.getD (i - 1) 0 + 1 := w64 (by omega) (by omega)
    have step : ∀ k, spec_l03Is.l0 (k + 1) t e i = (if (decide (t.getD (i - 1) 0 + 1 ≤ x) && decide (x ≤ 2000)) = true then ((spec_l01Gcd.f k e x).bind fun g => (if g = e then (some false) else (spec_l03Is.l0 k t g ((i + 1 : Nat) : Int)))) else (some false)) := by
      intro k
      simp only [spec_l03Is.l0]
      rw [if_pos (by omega), if_pos (by omega), hw, if_pos (by omega), if_pos (by omega), rd_nat, rd_nat, hx', hw2, inR, hw1]
      rfl
    by_cases hin : (decide (t.getD (i - 1) 0 + 1 ≤ x) && decide (x ≤ 2000)) = true
    · have hin' : t.getD (i - 1) 0 + 1 ≤ x ∧ x ≤ 2000 := by simpa using hin
      obtain ⟨K, hK⟩ := gcd_ev (a := e) (b := x) (by omega) (by omega)
      by_cases hg : (Int.gcd e x : Int) = e
      · refine ev_intro K fun k hk => ?_
        rw [step, if_pos hin, hK k hk]
        simp [chain, hg]
      · obtain ⟨K2, hK2⟩ := ih (i + 1) (Int.gcd e x) hd' (by omega) (by omega) (gcd_pos he) (by rw [Nat.add_sub_cancel, hx']; omega)
        refine ev_intro (max K K2) fun k hk => ?_
        have h2 := hK2 k (by omega)
        simp only [Nat.add_sub_cancel, hx'] at h2
        rw [step, if_pos hin, hK k (by omega)]
        simp only [Option.bind_some]
        rw [if_neg hg, h2]
        have e1 : decide (t.getD (i - 1) 0 < x) = true := decide_eq_true (by omega)
        have e2 : decide (x ≤ 2000) = true := decide_eq_true (by omega)
        simp only [chain, e1, e2, Bool.true_and]
        have e3 : ((Int.gcd e x : Int) != e) = true := by simpa using hg
        rw [e3, Bool.true_and]
    · refine ev_intro 0 fun k _ => ?_
      rw [step, if_neg hin]
      have : (decide (t.getD (i - 1) 0 < x) && decide (x ≤ 2000)) = false := by
        have h3 : ¬ (t.getD (i - 1) 0 + 1 ≤ x ∧ x ≤ 2000) := by simpa using hin
        by_cases h4 : t.getD (i - 1) 0 < x
        · by_cases h5 : x ≤ 2000
          · exact absurd ⟨by omega, h5⟩ h3
          · rw [decide_eq_false h5, Bool.and_false]
        · rw [decide_eq_false h4, Bool.false_and]
      simp only [chain, this, Bool.false_and]
theorem l03_ev (t : List Int) (ht : t.length ≤ 1000000000000) : ∃ K, ∀ k, K ≤ k → spec_l03Is.f k t = some (brB t) := by
  cases t with
  | nil => exact ev_intro 0 fun k _ => by unfold spec_l03Is.f; rw [if_pos (by simp)]; simp [spec_l03Is.j0, brB]
  | cons a r =>
    have hlen : ((a :: r).length : Int) ≠ 0 := by rw [List.length_cons]; omega
    have h0 : rd (a :: r) 0 = a := rfl
    have step : ∀ k, spec_l03Is.f (k + 1) (a :: r) = if (decide (1 ≤ a) && decide (a ≤ 64)) = true then spec_l03Is.l0 k (a :: r) a ((1 : Nat) : Int) else some false := by
      intro k
      unfold spec_l03Is.f
      rw [if_neg hlen, if_pos (by rw [List.length_cons]; omega), h0, inR]
      simp only [Option.bind_some, spec_l03Is.j0, h0]
      by_cases hc : (decide (1 ≤ a) && decide (a ≤ 64)) = true
      · rw [if_pos hc, hc]
        rw [if_neg (by simp), if_pos (by rw [List.length_cons]; omega)]
        rfl
      · rw [if_neg hc]
        have : (decide (1 ≤ a) && decide (a ≤ 64)) = false := by simpa using hc
        rw [this]
        simp
    by_cases hc : (decide (1 ≤ a) && decide (a ≤ 64)) = true
    · have hc' : 1 ≤ a ∧ a ≤ 64 := by simpa using hc
      obtain ⟨K, hK⟩ := l03_l0 (a :: r) ht r 1 a rfl (by omega) (by simp) (by omega) (by simp; omega)
      refine ev_intro K fun k hk => ?_
      rw [step, if_pos hc, hK k hk]
      simp only [brB, hc, Bool.true_and]
      rfl
    · refine ev_intro 0 fun k _ => ?_
      rw [step, if_neg hc]
      have : (decide (1 ≤ a) && decide (a ≤ 64)) = false := by simpa using hc
      simp only [brB, this, Bool.false_and]
/-! ### impl.IsBranch -/
theorem within_l0 (l : List Int) (a b : Int) (hl : l.length ≤ 1000000000000) : ∀ (r : List Int) (i : Nat), l.drop i = r → i ≤ l.length → ∃ K, ∀ k, K ≤ k → impl_within.l0 k a b l l.length i = some (r.all (inB a b)) := by
  intro r
  induction r with
  | nil =>
    intro i hd hi
    have := drop_nil hd
    exact ev_intro 0 fun k _ => by simp only [impl_within.l0]; rw [if_neg (by omega)]; rfl
  | cons x xs ih =>
    intro i hd hi
    obtain ⟨hlt, hx, hd'⟩ := drop_cons hd
    obtain ⟨K, hK⟩ := ih (i + 1) hd' (by omega)
    have hw1 : wrap64 ((i : Int) + 1) = ((i + 1 : Nat) : Int) := by rw [w64 (by omega) (by omega)]; omega
    refine ev_intro K fun k hk => ?_
    simp only [impl_within.l0]
    rw [if_pos (by omega), if_pos (by omega), if_pos (by omega), rd_nat, getD_of hx, inRi, hw1, hK k hk]
    simp only [Option.bind_some, List.all_cons]
    rw [show (decide (a ≤ x) && decide (x ≤ b)) = inB a b x from rfl]
    cases hb : inB a b x
    · rfl
    · rw [if_pos rfl, Bool.true_and]
theorem within_ev (l : List Int) (a b : Int) (hl : l.length ≤ 1000000000000) : ∃ K, ∀ k, K ≤ k → impl_within.f k l a b = some (l.all (inB a b)) :=
  within_l0 l a b hl l 0 rfl (by omega)
theorem ascends_l0 (l : List Int) (hl : l.length ≤ 1000000000000) : ∀ (r : List Int) (i : Nat), l.drop i = r → 1 ≤ i → ∃ K, ∀ k, K ≤ k → impl_ascends.l0 k l i = some (ascF (l.getD (i - 1) 0) r) := by
  intro r
  induction r with
  | nil =>
    intro i hd hi
    have := drop_nil hd
    exact ev_intro 0 fun k _ => by simp only [impl_ascends.l0]; rw [if_neg (by omega)]; rfl
  | cons x xs ih =>
    intro i hd hi
    obtain ⟨hlt, hx, hd'⟩ := drop_cons hd
    obtain ⟨K, hK⟩ := ih (i + 1) hd' (by omega)
    have hw1 : wrap64 ((i : Int) + 1) = ((i + 1 : Nat) : Int) := by rw [w64 (by omega) (by omega)]; omega
    have hw : wrap64 ((i : Int) - 1) = ((i - 1 : Nat) : Int) := by rw [w64 (by omega) (by omega)]; omega
    refine ev_intro K fun k hk => ?_
    have h2 := hK k hk
    rw [Nat.add_sub_cancel, getD_of hx] at h2
    simp only [impl_ascends.l0]
    rw [if_pos (by omega), if_pos (by omega), hw, if_pos (by omega), if_pos (by omega), rd_nat, rd_nat, getD_of hx, hw1, h2]
    simp only [ascF]
    by_cases h : x ≤ l.getD (i - 1) 0
    · rw [if_pos h, decide_eq_false (by omega), Bool.false_and]
    · rw [if_neg h, decide_eq_true (by omega), Bool.true_and]
theorem divisors_l0 (l : List Int) (hl : l.length ≤ 1000000000000) : ∀ (r : List Int) (i : Nat) (acc : List Int) (d : Int), l.drop i = r → i ≤ l.length → acc.length = i → 0 ≤ d → (∀ x ∈ r, (0 : Int) ≤ x) → ∃ K, ∀ k, K ≤ k → impl_divisors.l0 k acc d l l.length i = some (acc ++ dv d r) := by
  intro r
  induction r with
  | nil =>
    intro i acc d hd hi ha _ _
    have := drop_nil hd
    exact ev_intro 0 fun k _ => by simp only [impl_divisors.l0]; rw [if_neg (by omega)]; simp [dv]
  | cons x xs ih =>
    intro i acc d hd hi ha h0 hx0
    obtain ⟨hlt, hx, hd'⟩ := drop_cons hd
    have hw1 : wrap64 ((i : Int) + 1) = ((i + 1 : Nat) : Int) := by rw [w64 (by omega) (by omega)]; omega
    obtain ⟨K, hK⟩ := ih (i + 1) (acc ++ [(Int.gcd d x : Int)]) (Int.gcd d x) hd' (by omega) (by simp [ha]) (by omega) (fun y hy => hx0 y (List.mem_cons_of_mem _ hy))
    obtain ⟨K2, hK2⟩ := gcd_evi (a := d) (b := x) h0 (hx0 x List.mem_cons_self)
    refine ev_intro (max K K2) fun k hk => ?_
    simp only [impl_divisors.l0]
    rw [if_pos (by omega), if_pos (by omega), if_pos (by omega), rd_nat, getD_of hx, hK2 k (by omega)]
    simp only [Option.bind_some]
    rw [if_pos (by omega), hw1, hK k (by omega)]
    simp [dv]
theorem divisors_ev (l : List Int) (hl : l.length ≤ 1000000000000) (h : ∀ x ∈ l, (0 : Int) ≤ x) : ∃ K, ∀ k, K ≤ k → impl_divisors.f k l = some (dv 0 l) := by
  have := divisors_l0 l hl l 0 [] 0 rfl (by omega) rfl (by omega) h
  simpa [impl_divisors.f] using this
theorem falls_l0 (e : List Int) (hl : e.length ≤ 1000000000000) : ∀ (r : List Int) (i : Nat), e.drop i = r → 1 ≤ i → i ≤ e.length → ∃ K, ∀ k, K ≤ k → impl_falls.l0 k e i = some (fallF (e.getD (i - 1) 0) r) := by
  intro r
  induction r with
  | nil =>
    intro i hd hi hle
    have := drop_nil hd
    have hw : wrap64 ((e.length : Int) - 1) = ((i - 1 : Nat) : Int) := by rw [w64 (by omega) (by omega)]; omega
    exact ev_intro 0 fun k _ => by simp only [impl_falls.l0]; rw [if_neg (by omega), hw, if_pos (by omega), if_pos (by omega), rd_nat]; rfl
  | cons x xs ih =>
    intro i hd hi hle
    obtain ⟨hlt, hx, hd'⟩ := drop_cons hd
    obtain ⟨K, hK⟩ := ih (i + 1) hd' (by omega) (by omega)
    have hw1 : wrap64 ((i : Int) + 1) = ((i + 1 : Nat) : Int) := by rw [w64 (by omega) (by omega)]; omega
    have hw : wrap64 ((i : Int) - 1) = ((i - 1 : Nat) : Int) := by rw [w64 (by omega) (by omega)]; omega
    refine ev_intro K fun k hk => ?_
    have h2 := hK k hk
    rw [Nat.add_sub_cancel, getD_of hx] at h2
    simp only [impl_falls.l0]
    rw [if_pos (by omega), if_pos (by omega), hw, if_pos (by omega), if_pos (by omega), rd_nat, rd_nat, getD_of hx, hw1, h2]
    simp only [fallF]
    by_cases h : x ≥ e.getD (i - 1) 0
    · rw [if_pos h, decide_eq_false (by omega), Bool.false_and]
    · rw [if_neg h, decide_eq_true (by omega), Bool.true_and]
theorem br_ev (t : List Int) (ht : t.length ≤ 1000000000000) : ∃ K, ∀ k, K ≤ k → impl_IsBranch.f k t = some (brB t) := by
  cases t with
  | nil => exact ⟨0, fun k _ => by unfold impl_IsBranch.f; rw [if_neg (by simp)]; rfl⟩
  | cons a r =>
    rw [brB_eq]
    obtain ⟨K1, h1⟩ := ascends_l0 (a :: r) ht r 1 rfl (by omega)
    obtain ⟨K2, h2⟩ := within_ev (a :: r) 1 2000 ht
    have hp : 0 < ((a :: r).length : Int) := by rw [List.length_cons]; omega
    have h0 : rd (a :: r) 0 = a := rfl
    have step : ∀ k, K1 ≤ k → K2 ≤ k → impl_IsBranch.f k (a :: r) = if inB 1 64 a = true then (if ascF a r = true then (if (a :: r).all (inB 1 2000) = true then impl_falls.f k (a :: r) else some false) else some false) else some false := by
      intro k hk1 hk2
      have h1' : impl_ascends.f k (a :: r) = some (ascF a r) := h1 k hk1
      unfold impl_IsBranch.f
      rw [if_pos hp, if_pos hp, h0, inRi, h1', h2 k hk2]
      simp only [Option.bind_some]
      cases impl_falls.f k (a :: r) <;> rfl
    by_cases c1 : inB 1 64 a = true
    · by_cases c2 : ascF a r = true
      · by_cases c3 : (a :: r).all (inB 1 2000) = true
        · have hpos : ∀ x ∈ (a :: r), (0 : Int) ≤ x := fun x hx => by
            have := List.all_eq_true.mp c3 x hx
            simp only [inB, Bool.and_eq_true, decide_eq_true_eq] at this
            omega
          have ha : 0 < a := by simp only [inB, Bool.and_eq_true, decide_eq_true_eq] at c1; omega
          obtain ⟨K3, h3⟩ := divisors_ev (a :: r) ht hpos
          have hdv : dv 0 (a :: r) = a :: dv a r := by
            have : (Int.gcd 0 a : Int) = a := by rw [Int.gcd_zero_left]; omega
            simp only [dv, this]
          have hdl : ∀ (l : List Int) (e : Int), (dv e l).length = l.length := fun l => by
            induction l with
            | nil => intro e; rfl
            | cons x xs ih => intro e; simp [dv, ih]
          obtain ⟨K4, h4⟩ := falls_l0 (a :: dv a r) (by have := hdl r a; simp only [List.length_cons] at ht ⊢; omega) (dv a r) 1 rfl (by omega) (by simp)
          refine ⟨max (max K1 K2) (max K3 K4), fun k hk => ?_⟩
          rw [step k (by omega) (by omega), if_pos c1, if_pos c2, if_pos c3, c1, c2, c3]
          unfold impl_falls.f
          rw [h3 k (by omega), hdv]
          simp only [Option.bind_some, Bool.true_and]
          exact h4 k (by omega)
        · exact ⟨max K1 K2, fun k hk => by rw [step k (by omega) (by omega), if_pos c1, if_pos c2, if_neg c3, c1, c2, (Bool.not_eq_true _).mp c3]; rfl⟩
      · exact ⟨max K1 K2, fun k hk => by rw [step k (by omega) (by omega), if_pos c1, if_neg c2, c1, (Bool.not_eq_true _).mp c2]; rfl⟩
    · exact ⟨max K1 K2, fun k hk => by rw [step k (by omega) (by omega), if_neg c1, (Bool.not_eq_true _).mp c1]; rfl⟩
end Go.Proofs.YtkfdfpcdcabcoaaDoor.Plain
namespace Go.Proofs.YtkfdfpcdcabcoaaDoor.Plain
open Go.RowKit Go.Proofs.YtkfdfpcdcabcoaaDoorW.PrintWords Go.Proofs.YtkfdfpcdcabcoaaDoor.QName
theorem wi (i : Nat) (h : i ≤ 4611686018427387904) : wrap64 ((i : Int) + 1) = ((i + 1 : Nat) : Int) := by rw [w64 (by omega) (by omega)]; omega
theorem wd (i : Nat) (h1 : 1 ≤ i) (h : i ≤ 4611686018427387904) : wrap64 ((i : Int) - 1) = ((i - 1 : Nat) : Int) := by rw [w64 (by omega) (by omega)]; omega
theorem steps_l0 (b : Nat) : ∀ (a : Nat) (acc : List (List Int)), a ≤ 1000000 → b ≤ 1000000 → acc.length + b ≤ 1000000000 → ∃ K, ∀ k, K ≤ k → spec_l01Steps.l0 k a b acc = some (acc ++ st a b) := by
  induction b using Nat.strongRecOn with
  | _ b ih =>
    intro a acc ha hb hl
    by_cases h : b = 0
    · subst h
      rw [st_zero]
      exact ev_intro 0 fun k _ => by simp [spec_l01Steps.l0]
    · have hm := Nat.mod_lt a (show 0 < b by omega)
      obtain ⟨K, hK⟩ := ih (a % b) hm b (acc ++ [[((a / b : Nat) : Int), (b : Int)]]) hb (by omega) (by simp; omega)
      have hd : wrap64 (((a / b : Nat) : Int)) = ((a / b : Nat) : Int) := by have := Nat.div_le_self a b; generalize a / b = q at this ⊢; exact w64 (by omega) (by omega)
      refine ev_intro K fun k hk => ?_
      simp only [spec_l01Steps.l0]
      rw [if_pos (by omega), if_neg (by omega), if_pos (by omega), tmod_nat, tdiv_nat, hd, hK k hk, st_pos a (by omega)]
      simp
theorem steps_l0i (b : Nat) : ∀ (a : Nat) (acc : List (List Int)), a ≤ 1000000 → b ≤ 1000000 → acc.length + b ≤ 1000000000 → ∃ K, ∀ k, K ≤ k → impl_steps.l0 k a b acc = some (acc ++ st a b) := by
  induction b using Nat.strongRecOn with
  | _ b ih =>
    intro a acc ha hb hl
    by_cases h : b = 0
    · subst h
      rw [st_zero]
      exact ev_intro 0 fun k _ => by simp [impl_steps.l0]
    · have hm := Nat.mod_lt a (show 0 < b by omega)
      obtain ⟨K, hK⟩ := ih (a % b) hm b (acc ++ [[((a / b : Nat) : Int), (b : Int)]]) hb (by omega) (by simp; omega)
      have hd : wrap64 (((a / b : Nat) : Int)) = ((a / b : Nat) : Int) := by have := Nat.div_le_self a b; generalize a / b = q at this ⊢; exact w64 (by omega) (by omega)
      refine ev_intro K fun k hk => ?_
      simp only [impl_steps.l0]
      rw [if_pos (by omega), if_neg (by omega), if_pos (by omega), tmod_nat, tdiv_nat, hd, hK k hk, st_pos a (by omega)]
      simp
theorem steps_ev {a b : Int} (ha : 0 ≤ a) (ha2 : a ≤ 1000000) (hb : 0 ≤ b) (hb2 : b ≤ 1000000) : ∃ K, ∀ k, K ≤ k → spec_l01Steps.f k a b = some (st a.toNat b.toNat) := by
  obtain ⟨m, rfl⟩ := Int.eq_ofNat_of_zero_le ha
  obtain ⟨n, rfl⟩ := Int.eq_ofNat_of_zero_le hb
  have := steps_l0 n m [] (by omega) (by omega) (by simp; omega)
  simpa [spec_l01Steps.f] using this
theorem steps_evi {a b : Int} (ha : 0 ≤ a) (ha2 : a ≤ 1000000) (hb : 0 ≤ b) (hb2 : b ≤ 1000000) : ∃ K, ∀ k, K ≤ k → impl_steps.f k a b = some (st a.toNat b.toNat) := by
  obtain ⟨m, rfl⟩ := Int.eq_ofNat_of_zero_le ha
  obtain ⟨n, rfl⟩ := Int.eq_ofNat_of_zero_le hb
  have := steps_l0i n m [] (by omega) (by omega) (by simp; omega)
  simpa [impl_steps.f] using this
/-! ### runOf -/
theorem runOf_l (S : List (List Int)) (hS : ∀ s ∈ S, IsStep s) (hSl : S.length ≤ 1000000) : ∀ (r : List (List Int)) (i : Nat) (x : List Int), S.drop i = r → i ≤ S.length → x.length + (ex r).length ≤ 1000000000 → ∃ K, ∀ k, K ≤ k → impl_runOf.l0 k x S S.length i = some (x ++ ex r) := by
  intro r
  induction r with
  | nil =>
    intro i x hd hi _
    have := drop_nil hd
    exact ev_intro 0 fun k _ => by simp only [impl_runOf.l0]; rw [if_neg (by omega), ex_nil, List.append_nil]
  | cons s xs ih =>
    intro i x hd hi hl
    obtain ⟨hlt, hs, hd'⟩ := drop_cons hd
    obtain ⟨q, v, rfl, hv1, hv2, hq⟩ := hS s (List.mem_of_getElem? hs)
    rw [ex_pair, List.length_append, List.length_replicate] at hl
    have hw1 := wi i (by omega)
    have inner : ∀ (d j : Nat) (y : List Int), j + d = q → y.length + d + (ex xs).length ≤ 1000000000 → ∃ K, ∀ k, K ≤ k → impl_runOf.l1 k y [(q : Int), (v : Int)] j S S.length i = some (y ++ (List.replicate d (v : Int) ++ ex xs)) := by
      intro d
      induction d with
      | zero =>
        intro j y hj hy
        obtain ⟨K, hK⟩ := ih (i + 1) y hd' (by omega) (by omega)
        refine ev_intro K fun k hk => ?_
        simp only [impl_runOf.l1]
        rw [if_pos (by simp), if_neg (by simp [rd]; omega), hw1, hK k hk]
        simp
      | succ d ihd =>
        intro j y hj hy
        obtain ⟨K, hK⟩ := ihd (j + 1) (y ++ [(v : Int)]) (by omega) (by simp; omega)
        refine ev_intro K fun k hk => ?_
        simp only [impl_runOf.l1]
        rw [if_pos (by simp), if_pos (by simp [rd]; omega), if_pos (by simp), if_pos (by omega), wi j (by omega), show rd [(q : Int), (v : Int)] 1 = (v : Int) from rfl, hK k hk, List.replicate_succ]
        simp
    obtain ⟨K, hK⟩ := inner q 0 x (by omega) (by omega)
    refine ev_intro K fun k hk => ?_
    have hK' := hK k hk
    simp only [impl_runOf.l0]
    rw [if_pos (by omega), if_pos (by omega), if_pos (by omega), show rd_L1 S (i : Int) = [(q : Int), (v : Int)] from by unfold rd_L1; rw [Int.toNat_natCast]; exact getD_of hs, ex_pair]
    exact hK'
theorem runOf_ev {a b : Int} (x : List Int) (ha : 0 ≤ a) (ha2 : a ≤ 2000) (hb : 0 ≤ b) (hb2 : b ≤ 64) (hx : x.length ≤ 100000000) : ∃ K, ∀ k, K ≤ k → impl_runOf.f k x a b = some (x ++ ex (st a.toNat b.toNat)) := by
  obtain ⟨K1, h1⟩ := steps_evi ha (by omega) hb (by omega)
  have hl := st_len b.toNat a.toNat
  have he := ex_st_le b.toNat a.toNat
  obtain ⟨K2, h2⟩ := runOf_l (st a.toNat b.toNat) (st_step _ _ (by omega) (by omega)) (by omega) _ 0 x rfl (by omega) (by rw [List.drop_zero]; omega)
  refine ⟨max K1 K2, fun k hk => ?_⟩
  unfold impl_runOf.f
  rw [h1 k (by omega)]
  simp only [Option.bind_some]
  exact h2 k (by omega)
/-! ### The divisors as the reference tells them; runs -/
theorem divs_l0 (t : List Int) (ht : t.length ≤ 1000000) : ∀ (r : List Int) (i : Nat) (acc : List Int) (d : Int), t.drop i = r → 1 ≤ i → i ≤ t.length → acc.length = i → acc.getD (i - 1) 0 = d → 0 ≤ d → (∀ x ∈ r, (0 : Int) ≤ x) → ∃ K, ∀ k, K ≤ k → spec_l03Divisors.l0 k acc i t = some (acc ++ dv d r) := by
  intro r
  induction r with
  | nil =>
    intro i acc d hd _ hi ha _ _ _
    have := drop_nil hd
    exact ev_intro 0 fun k _ => by simp only [spec_l03Divisors.l0]; rw [if_neg (by omega)]; simp [dv]
  | cons x xs ih =>
    intro i acc d hd h1 hi ha hg h0 hx0
    obtain ⟨hlt, hx, hd'⟩ := drop_cons hd
    obtain ⟨K, hK⟩ := ih (i + 1) (acc ++ [(Int.gcd d x : Int)]) (Int.gcd d x) hd' (by omega) (by omega) (by simp [ha]) (by rw [List.getD_eq_getElem?_getD, Nat.add_sub_cancel, ← ha]; simp) (by omega) (fun y hy => hx0 y (List.mem_cons_of_mem _ hy))
    obtain ⟨K2, hK2⟩ := gcd_ev (a := d) (b := x) h0 (hx0 x List.mem_cons_self)
    refine ev_intro (max K K2) fun k hk => ?_
    simp only [spec_l03Divisors.l0]
    rw [if_pos (by omega), wd i h1 (by omega), if_pos (by omega), if_pos (by omega), if_pos (by omega), rd_nat, rd_nat, getD_of hx, hg, hK2 k (by omega)]
    simp only [Option.bind_some]
    rw [if_pos (by omega), wi i (by omega), hK k (by omega)]
    simp [dv]
theorem divs_ev (a : Int) (r : List Int) (hl : (a :: r).length ≤ 1000000) (h : ∀ x ∈ (a :: r), (0 : Int) ≤ x) : ∃ K, ∀ k, K ≤ k → spec_l03Divisors.f k (a :: r) = some (a :: dv a r) := by
  obtain ⟨K, hK⟩ := divs_l0 (a :: r) hl r 1 [a] a rfl (by omega) (by simp) rfl rfl (h a List.mem_cons_self) (fun x hx => h x (List.mem_cons_of_mem _ hx))
  refine ⟨K, fun k hk => ?_⟩
  unfold spec_l03Divisors.f
  rw [if_pos (by rw [List.length_cons]; omega)]
  exact hK k hk
theorem dv_len : ∀ (l : List Int) (e : Int), (dv e l).length = l.length
  | [], _ => rfl
  | x :: xs, e => by simp [dv, dv_len xs]
theorem runs_l0 (t E : List Int) (ht : t.length ≤ 1000000) (hE : E.length = t.length) : ∀ (r : List Int) (i : Nat) (acc : List (List Int)) (last e : Int), t.drop i = r → 1 ≤ i → i ≤ t.length → E.drop i = dv e r → E.getD (i - 1) 0 = e → (last = if i = 1 then 0 else t.getD (i - 1) 0) → 0 ≤ last → Goes last e r → acc.length ≤ 100000000 + 64 * i → ∃ K, ∀ k, K ≤ k → spec_l04Runs.l0 k E acc i t = some (acc ++ rn last e r) := by
  intro r
  induction r with
  | nil =>
    intro i acc last e hd _ hi _ _ _ _ _ _
    have := drop_nil hd
    exact ev_intro 0 fun k _ => by simp only [spec_l04Runs.l0]; rw [if_neg (by omega)]; simp [rn]
  | cons x xs ih =>
    intro i acc last e hd h1 hi hEd hEg hlast h0 hg hacc
    obtain ⟨hlt, hx, hd'⟩ := drop_cons hd
    rw [dv] at hEd
    obtain ⟨_, hEx, hEd'⟩ := drop_cons hEd
    obtain ⟨ha, hb, hc, hdd, he, hf⟩ := hg
    have hsl := st_len e.toNat (x - last).toNat
    obtain ⟨K, hK⟩ := ih (i + 1) (acc ++ st (x - last).toNat e.toNat) x (Int.gcd e x) hd' (by omega) (by omega) hEd' (by rw [Nat.add_sub_cancel]; exact getD_of hEx) (by rw [if_neg (by omega), Nat.add_sub_cancel, getD_of hx]) (by omega) hf (by rw [List.length_append]; omega)
    obtain ⟨K2, hK2⟩ := steps_ev (a := x - last) (b := e) (by omega) (by omega) (by omega) (by omega)
    refine ev_intro (max K K2) fun k hk => ?_
    have hK' := hK k (by omega)
    have hK2' := hK2 k (by omega)
    simp only [spec_l04Runs.l0]
    rw [if_pos (by omega), if_pos (by omega), if_pos (by omega), wd i h1 (by omega), wi i (by omega), rd_nat, rd_nat, rd_nat, getD_of hx, hEg]
    by_cases h : i = 1
    · subst h
      rw [if_pos rfl] at hlast
      subst hlast
      rw [Int.sub_zero] at hK2' hK' hsl
      rw [if_neg (by omega), if_pos (by omega), if_pos (by omega), hK2']
      simp only [Option.bind_some]
      rw [if_pos (by omega), hK', rn, Int.sub_zero, List.append_assoc]
    · rw [if_neg h] at hlast
      rw [if_pos (by omega), if_pos (by omega), if_pos (by omega), if_pos (by omega), ← hlast, w64 (show -9223372036854775808 ≤ x - last by omega) (by omega), hK2']
      simp only [Option.bind_some]
      rw [if_pos (by omega), hK', rn, List.append_assoc]
theorem br_goes {a : Int} {r : List Int} (h : brB (a :: r) = true) : 1 ≤ a ∧ a ≤ 64 ∧ Goes 0 a r ∧ (∀ x ∈ (a :: r), (0 : Int) ≤ x) ∧ (a :: r).length ≤ 65 := by
  have h2 := h
  rw [brB_eq] at h2
  simp only [brB, Bool.and_eq_true, decide_eq_true_eq] at h
  simp only [Bool.and_eq_true] at h2
  have hg := goes_of r a a h.2 h.1.1 h.1.2
  refine ⟨h.1.1, h.1.2, ?_, fun x hx => ?_, ?_⟩
  · cases r with
    | nil => trivial
    | cons x xs => obtain ⟨h1, h2, h3⟩ := hg; exact ⟨by omega, h2, h3⟩
  · have := List.all_eq_true.mp h2.2.2.1 x hx
    simp only [inB, Bool.and_eq_true, decide_eq_true_eq] at this
    omega
  · rw [List.length_cons]
    rcases goes_len r a a hg with h3 | h3
    · omega
    · rw [h3]; simp
theorem runs_ev {a : Int} {r : List Int} (h : brB (a :: r) = true) : ∃ K, ∀ k, K ≤ k → spec_l04Runs.f k (a :: r) = some (rn 0 a r) := by
  obtain ⟨h1, h2, hg, hp, hl⟩ := br_goes h
  obtain ⟨K, hK⟩ := divs_ev a r (by omega) hp
  obtain ⟨K2, hK2⟩ := runs_l0 (a :: r) (a :: dv a r) (by omega) (by simp [dv_len]) r 1 [] 0 a rfl (by omega) (by simp) rfl rfl rfl (by omega) hg (by simp)
  refine ⟨max K K2, fun k hk => ?_⟩
  unfold spec_l04Runs.f
  rw [hK k (by omega)]
  simp only [Option.bind_some]
  exact hK2 k (by omega)
/-! ### The sequence as the program makes it -/
theorem seq_l0 (t E : List Int) (ht : t.length ≤ 1000000) (hE : E.length = t.length) : ∀ (r : List Int) (i : Nat) (acc : List Int) (last e : Int), t.drop i = r → 1 ≤ i → i ≤ t.length → E.drop i = dv e r → E.getD (i - 1) 0 = e → 0 ≤ last → Goes last e r → acc.length + 3000 * r.length ≤ 90000000 → ∃ K, ∀ k, K ≤ k → impl_sequence.l0 k E acc last i t = some (acc ++ ex (rn last e r)) := by
  intro r
  induction r with
  | nil =>
    intro i acc last e hd _ hi _ _ _ _ _
    have := drop_nil hd
    exact ev_intro 0 fun k _ => by simp only [impl_sequence.l0]; rw [if_neg (by omega)]; simp [rn, ex]
  | cons x xs ih =>
    intro i acc last e hd h1 hi hEd hEg h0 hg hacc
    obtain ⟨hlt, hx, hd'⟩ := drop_cons hd
    rw [dv] at hEd
    obtain ⟨_, hEx, hEd'⟩ := drop_cons hEd
    obtain ⟨ha, hb, hc, hdd, he, hf⟩ := hg
    rw [List.length_cons] at hacc
    have hsl := ex_st_le e.toNat (x - last).toNat
    obtain ⟨K, hK⟩ := ih (i + 1) (acc ++ ex (st (x - last).toNat e.toNat)) x (Int.gcd e x) hd' (by omega) (by omega) hEd' (by rw [Nat.add_sub_cancel]; exact getD_of hEx) (by omega) hf (by rw [List.length_append]; omega)
    obtain ⟨K2, hK2⟩ := runOf_ev (a := x - last) (b := e) acc (by omega) (by omega) (by omega) (by omega) (by omega)
    refine ev_intro (max K K2) fun k hk => ?_
    have hK' := hK k (by omega)
    have hK2' := hK2 k (by omega)
    simp only [impl_sequence.l0]
    rw [if_pos (by omega), if_pos (by omega), if_pos (by omega), wd i h1 (by omega), if_pos (by omega), if_pos (by omega), wi i (by omega), rd_nat, rd_nat, getD_of hx, hEg, w64 (show -9223372036854775808 ≤ x - last by omega) (by omega), hK2']
    simp only [Option.bind_some]
    rw [hK', rn, ex_append, List.append_assoc]
theorem dv_zero {a : Int} (r : List Int) (h : 0 < a) : dv 0 (a :: r) = a :: dv a r := by
  have : (Int.gcd 0 a : Int) = a := by rw [Int.gcd_zero_left]; omega
  simp only [dv, this]
theorem seq_ev {a : Int} {r : List Int} (h : brB (a :: r) = true) : ∃ K, ∀ k, K ≤ k → impl_sequence.f k (a :: r) = some (if r = [] then [1] else sq (a :: r)) := by
  obtain ⟨h1, h2, hg, hp, hl⟩ := br_goes h
  have hpair : impl_pairsOf.f (a :: r) = some ((r.length : Nat) : Int) := by
    unfold impl_pairsOf.f
    rw [List.length_cons, wd (r.length + 1) (by omega) (by rw [List.length_cons] at hl; omega)]
    rfl
  by_cases hr : r = []
  · subst hr
    exact ⟨0, fun k _ => by unfold impl_sequence.f; rw [hpair]; rfl⟩
  · have hr' : ((r.length : Nat) : Int) ≠ 0 := by
      have := List.length_pos_iff.mpr hr
      omega
    obtain ⟨K, hK⟩ := divisors_ev (a :: r) (by omega) hp
    obtain ⟨K2, hK2⟩ := seq_l0 (a :: r) (a :: dv a r) (by omega) (by simp [dv_len]) r 1 [] 0 a rfl (by omega) (by simp) rfl rfl (by omega) hg (by rw [List.length_cons] at hl; simp; omega)
    refine ⟨max K K2, fun k hk => ?_⟩
    unfold impl_sequence.f
    rw [hpair, if_neg hr]
    simp only [Option.bind_some]
    rw [if_neg hr', hK k (by omega), dv_zero r (by omega)]
    simp only [Option.bind_some]
    exact hK2 k (by omega)
/-! ### The first multiplicities -/
theorem seq6_l2 (n : Nat) (hn : n ≤ 1000000) : ∀ (d : Nat) (x : List Int), x.length + d = n → ∃ K, ∀ k, K ≤ k → spec_l06Sequence.l2 k n x = some (padTo n x) := by
  intro d
  induction d with
  | zero =>
    intro x hx
    exact ev_intro 0 fun k _ => by
      simp only [spec_l06Sequence.l2]
      rw [if_neg (by omega)]
      simp [padTo, show n - x.length = 0 by omega]
  | succ d ih =>
    intro x hx
    obtain ⟨K, hK⟩ := ih (x ++ [1]) (by simp; omega)
    refine ev_intro K fun k hk => ?_
    simp only [spec_l06Sequence.l2]
    rw [if_pos (by omega), if_pos (by omega), hK k hk]
    simp only [padTo, List.length_append, List.length_singleton, List.append_assoc, List.singleton_append]
    rw [show n - x.length = (n - (x.length + 1)) + 1 by omega, List.replicate_succ]
theorem seq6_l (n : Nat) (hn : n ≤ 1000000) (S : List (List Int)) (hS : ∀ s ∈ S, IsStep s) (hSl : S.length ≤ 1000000) : ∀ (r : List (List Int)) (i : Nat) (x : List Int), S.drop i = r → i ≤ S.length → x.length ≤ n → ∃ K, ∀ k, K ≤ k → spec_l06Sequence.l0 k n x S i = some (padTo n ((x ++ ex r).take n)) := by
  intro r
  induction r with
  | nil =>
    intro i x hd hi hx
    have := drop_nil hd
    obtain ⟨K, hK⟩ := seq6_l2 n hn (n - x.length) x (by omega)
    refine ev_intro K fun k hk => ?_
    simp only [spec_l06Sequence.l0]
    rw [if_neg (by omega), hK k hk, ex_nil, List.append_nil, List.take_of_length_le hx]
  | cons s xs ih =>
    intro i x hd hi hx
    obtain ⟨hlt, hs, hd'⟩ := drop_cons hd
    obtain ⟨q, v, rfl, hv1, hv2, hq⟩ := hS s (List.mem_of_getElem? hs)
    have hrow : rd_L1 S (i : Int) = [(q : Int), (v : Int)] := by unfold rd_L1; rw [Int.toNat_natCast]; exact getD_of hs
    have inner : ∀ (d : Nat) (y : List Int), d ≤ 2000 → y.length ≤ n → ∃ K, ∀ k, K ≤ k → spec_l06Sequence.l1 k n y S i d = some (padTo n ((y ++ (List.replicate d (v : Int) ++ ex xs)).take n)) := by
      intro d
      induction d with
      | zero =>
        intro y _ hy
        obtain ⟨K, hK⟩ := ih (i + 1) y hd' (by omega) hy
        refine ev_intro K fun k hk => ?_
        simp only [spec_l06Sequence.l1]
        rw [if_neg (by omega), wi i (by omega), hK k hk]
        simp
      | succ d ihd =>
        intro y hd2 hy
        by_cases hy2 : y.length < n
        · obtain ⟨K, hK⟩ := ihd (y ++ [(v : Int)]) (by omega) (by simp; omega)
          refine ev_intro K fun k hk => ?_
          simp only [spec_l06Sequence.l1]
          rw [if_pos (by omega), if_pos (by omega), if_pos (by omega), if_pos (by omega), hrow, if_pos (by simp), if_pos (by omega), wd (d + 1) (by omega) (by omega), show rd [(q : Int), (v : Int)] 1 = (v : Int) from rfl, Nat.add_sub_cancel, hK k hk, List.replicate_succ]
          simp
        · obtain ⟨K, hK⟩ := ih (i + 1) y hd' (by omega) hy
          refine ev_intro K fun k hk => ?_
          simp only [spec_l06Sequence.l1]
          rw [if_pos (by omega), if_neg (by omega), wi i (by omega), hK k hk, take_more (by omega), take_more (by omega)]
    obtain ⟨K, hK⟩ := inner q x hq hx
    refine ev_intro K fun k hk => ?_
    simp only [spec_l06Sequence.l0]
    rw [if_pos (by omega), if_pos (by omega), hrow, if_pos (by simp), show rd [(q : Int), (v : Int)] 0 = (q : Int) from rfl, hK k hk, ex_pair]
theorem seq6_ev {t : List Int} (h : brB t = true) (n : Nat) (hn : n ≤ 1000000) : ∃ K, ∀ k, K ≤ k → spec_l06Sequence.f k t n = some (ml t n) := by
  cases t with
  | nil => simp [brB] at h
  | cons a r =>
    obtain ⟨h1, h2, hg, hp, hl⟩ := br_goes h
    rw [List.length_cons] at hl
    have hln := rn_len r 0 a hg
    obtain ⟨K, hK⟩ := runs_ev h
    obtain ⟨K2, hK2⟩ := seq6_l n hn (rn 0 a r) (rn_step r 0 a (by omega) hg) (by omega) (rn 0 a r) 0 [] rfl (by omega) (by simp)
    refine ⟨max K K2, fun k hk => ?_⟩
    unfold spec_l06Sequence.f
    rw [hK k (by omega)]
    simp only [Option.bind_some]
    have := hK2 k (by omega)
    rw [List.nil_append, pad_take] at this
    exact this
theorem first_l0 (n : Nat) (hn : n ≤ 1000000) : ∀ (d : Nat) (x : List Int), n - x.length = d → ∃ K, ∀ k, K ≤ k → impl_firstOf.l0 k n x = some ((x ++ List.replicate d 1).take n) := by
  intro d
  induction d with
  | zero =>
    intro x hx
    refine ev_intro 0 fun k _ => ?_
    simp only [impl_firstOf.l0]
    rw [if_neg (by omega), if_pos (by omega), if_pos (by omega)]
    simp
  | succ d ih =>
    intro x hx
    obtain ⟨K, hK⟩ := ih (x ++ [1]) (by simp; omega)
    refine ev_intro K fun k hk => ?_
    simp only [impl_firstOf.l0]
    rw [if_pos (by omega), if_pos (by omega), hK k hk, List.replicate_succ]
    simp
theorem first_ev {t : List Int} (h : brB t = true) (n : Nat) (hn : n ≤ 1000000) : ∃ K, ∀ k, K ≤ k → impl_firstOf.f k t n = some (ml t n) := by
  cases t with
  | nil => simp [brB] at h
  | cons a r =>
    obtain ⟨K, hK⟩ := seq_ev h
    obtain ⟨K2, hK2⟩ := first_l0 n hn _ (if r = [] then [1] else sq (a :: r)) rfl
    refine ⟨max K K2, fun k hk => ?_⟩
    unfold impl_firstOf.f
    rw [hK k (by omega)]
    simp only [Option.bind_some]
    rw [hK2 k (by omega), range_of]
    congr 1
    unfold ml
    apply List.map_congr_left
    intro j _
    by_cases hr : r = []
    · subst hr
      rw [if_pos rfl]
      simp only [mm, sq, rn, ex_nil]
      cases j <;> rfl
    · rw [if_neg hr]
      rfl
end Go.Proofs.YtkfdfpcdcabcoaaDoor.Plain
namespace Go.Proofs.YtkfdfpcdcabcoaaDoor.Plain
def fL (l : List Int) (j : Nat) : Int := l.getD j 1
def Pre (v : Int) (f : Nat → Int) : Prop := f 0 ≤ v ∧ (f 0 < v → ∃ (h : Nat) (r : Int), 1 ≤ h ∧ v = h * f 0 + r ∧ 0 ≤ r ∧ (∀ l, l < h → f l = f 0) ∧ (0 < r → f h = r))
def EL (f : Nat → Int) : Prop := ∀ i, Pre (f i) (fun j => f (i + 1 + j))
theorem fL_rep_lt {q : Nat} {v : Int} {l : List Int} {j : Nat} (h : j < q) : fL (List.replicate q v ++ l) j = v := by
  unfold fL
  rw [List.getD_eq_getElem?_getD, List.getElem?_append_left (by simpa using h), List.getElem?_replicate, if_pos h]
  rfl
theorem fL_rep_ge {q : Nat} {v : Int} {l : List Int} (j : Nat) : fL (List.replicate q v ++ l) (q + j) = fL l j := by
  unfold fL
  rw [List.getD_eq_getElem?_getD, List.getD_eq_getElem?_getD, List.getElem?_append_right (by simp), List.length_replicate, Nat.add_sub_cancel_left]
theorem pre_same {v : Int} {f : Nat → Int} (h : f 0 = v) : Pre v f := ⟨by omega, fun h2 => absurd h2 (by omega)⟩
theorem pre_congr {v : Int} {f g : Nat → Int} (h : ∀ j, f j = g j) (hp : Pre v f) : Pre v g := by
  have : f = g := funext h
  rwa [← this]
theorem el_rep {q : Nat} {v : Int} {l : List Int} (hp : Pre v (fL l)) (he : EL (fL l)) : EL (fL (List.replicate q v ++ l)) := by
  intro i
  by_cases h1 : i + 1 < q
  · rw [fL_rep_lt (by omega)]
    exact pre_same (fL_rep_lt (by omega))
  · by_cases h2 : i + 1 = q
    · rw [fL_rep_lt (by omega)]
      refine pre_congr (fun j => ?_) hp
      rw [h2]
      exact (fL_rep_ge j).symm
    · have hi : i = q + (i - q) := by omega
      rw [hi, fL_rep_ge]
      refine pre_congr (fun j => ?_) (he (i - q))
      have : q + (i - q) + 1 + j = q + (i - q + 1 + j) := by omega
      rw [this, fL_rep_ge]
theorem fL_first {a b : Nat} (hb : 0 < b) (h : b ≤ a) (t : List Int) : fL (ex (st a b) ++ t) 0 = (b : Int) := by
  rw [st_pos a hb, ex_pair, List.append_assoc]
  exact fL_rep_lt (Nat.div_pos h hb)
theorem el_st (t : List Int) (he : EL (fL t)) (b : Nat) : ∀ a : Nat, 0 < b → Pre (Nat.gcd a b : Nat) (fL t) →
    EL (fL (ex (st a b) ++ t)) ∧ Pre b (fL (ex (st a b) ++ t)) ∧ (b < a → Pre a (fL (ex (st a b) ++ t))) := by
  induction b using Nat.strongRecOn with
  | _ b ih =>
    intro a hb hp
    have hm := Nat.mod_lt a hb
    have hL : EL (fL (ex (st b (a % b)) ++ t)) ∧ Pre b (fL (ex (st b (a % b)) ++ t)) := by
      by_cases h0 : a % b = 0
      · have hg : Nat.gcd a b = b := by rw [Nat.gcd_comm, Nat.gcd_rec, h0, Nat.gcd_zero_left]
        rw [hg] at hp
        rw [h0, st_zero]
        exact ⟨he, hp⟩
      · have hg : Nat.gcd b (a % b) = Nat.gcd a b := by rw [Nat.gcd_comm b (a % b), ← Nat.gcd_rec, Nat.gcd_comm]
        obtain ⟨h1, _, h3⟩ := ih (a % b) hm b (by omega) (by rw [hg]; exact hp)
        exact ⟨h1, h3 hm⟩
    have hst : ex (st a b) ++ t = List.replicate (a / b) (b : Int) ++ (ex (st b (a % b)) ++ t) := by rw [st_pos a hb, ex_pair, List.append_assoc]
    rw [hst]
    refine ⟨el_rep hL.2 hL.1, ?_, fun hab => ?_⟩
    · by_cases hq : a / b = 0
      · rw [hq]
        exact hL.2
      · exact pre_same (fL_rep_lt (Nat.pos_of_ne_zero hq))
    · have hq : 0 < a / b := Nat.div_pos (by omega) hb
      have h0 : fL (List.replicate (a / b) (b : Int) ++ (ex (st b (a % b)) ++ t)) 0 = (b : Int) := fL_rep_lt hq
      refine ⟨by rw [h0]; omega, fun _ => ⟨a / b, ((a % b : Nat) : Int), by omega, ?_, by omega, fun l hl => ?_, fun hr => ?_⟩⟩
      · rw [h0]
        have := Nat.div_add_mod a b
        rw [Nat.mul_comm] at this
        exact_mod_cast this.symm
      · rw [h0]
        exact fL_rep_lt hl
      · have := fL_rep_ge (q := a / b) (v := (b : Int)) (l := ex (st b (a % b)) ++ t) 0
        rw [Nat.add_zero] at this
        rw [this]
        exact fL_first (by omega) (by omega) t
theorem el_nil : EL (fL []) := fun i => pre_same rfl
theorem pre_nil {v : Int} (h : 1 ≤ v) : Pre v (fL []) :=
  ⟨h, fun _ => ⟨v.toNat, 0, by omega, by simp [fL]; omega, by omega, fun _ _ => rfl, fun h2 => by omega⟩⟩
theorem el_rn : ∀ (r : List Int) (last e : Int), 0 ≤ last → 1 ≤ e → (e ∣ last) → Goes last e r → EL (fL (ex (rn last e r))) ∧ Pre e (fL (ex (rn last e r)))
  | [], last, e, _, he, _, _ => ⟨el_nil, pre_nil he⟩
  | x :: xs, last, e, h0, he, hd, hg => by
    obtain ⟨ha, hb, hc, hdd, hf, hgo⟩ := hg
    have hpos := gcd_pos (x := x) (show 0 < e by omega)
    obtain ⟨h1, h2⟩ := el_rn xs x (Int.gcd e x) (by omega) (by omega) (Int.gcd_dvd_right e x) hgo
    have hgc : (Nat.gcd (x - last).toNat e.toNat : Nat) = Int.gcd e x := by
      obtain ⟨c, rfl⟩ := hd
      have e1 : Int.gcd e x = Int.gcd e (x - e * c) := by
        have h9 : Int.gcd e (x - e * c) = Int.gcd e x := by
          rw [show x - e * c = x + e * (-c) by rw [Int.mul_neg]; rfl, Int.gcd_add_mul_left_right]
        exact h9.symm
      rw [e1, Nat.gcd_comm]
      unfold Int.gcd
      congr 1
      · omega
      · omega
    rw [rn, ex_append]
    obtain ⟨k1, k2, _⟩ := el_st (ex (rn x (Int.gcd e x) xs)) h1 e.toNat (x - last).toNat (by omega) (by rw [hgc]; exact h2)
    refine ⟨k1, ?_⟩
    rw [show ((e.toNat : Nat) : Int) = e by omega] at k2
    exact k2
end Go.Proofs.YtkfdfpcdcabcoaaDoor.Plain
namespace Go.Proofs.YtkfdfpcdcabcoaaDoor.Plain
open Go.RowKit Go.Proofs.YtkfdfpcdcabcoaaDoorW.PrintWords Go.Proofs.YtkfdfpcdcabcoaaDoor.QName
def T (f : Nat → Int) (i : Nat) : Nat → Int
  | 0 => 0
  | d + 1 => T f i d + f (i + 1 + d)
def Pr (f : Nat → Int) (i j : Nat) : Prop := T f i (j - i) ≤ f i
instance (f : Nat → Int) (i j : Nat) : Decidable (Pr f i j) := inferInstanceAs (Decidable (_ ≤ _))
def C (f : Nat → Int) : Nat → Nat → Int
  | 0, _ => 0
  | i + 1, j => if i + 1 < j ∧ Pr f i j then (j : Int) - i else C f i j
def D (f : Nat → Int) : Nat → Nat → List Int
  | 0, _ => []
  | i + 1, j => if i < j ∧ Pr f i j then D f i j ++ [(i : Int)] else D f i j
theorem T_mono {f : Nat → Int} (hp : ∀ i, 1 ≤ f i) (i d : Nat) : ∀ e, T f i d + e ≤ T f i (d + e)
  | 0 => by simp
  | e + 1 => by
    have := T_mono hp i d e
    have h2 := hp (i + 1 + (d + e))
    rw [← Nat.add_assoc, T]
    omega
theorem T_const {f : Nat → Int} {i : Nat} {v : Int} : ∀ h : Nat, (∀ l, l < h → f (i + 1 + l) = v) → T f i h = h * v
  | 0, _ => by simp [T]
  | h + 1, hc => by
    rw [T, T_const h (fun l hl => hc l (by omega)), hc h (by omega)]
    rw [show ((h + 1 : Nat) : Int) = (h : Int) + 1 by omega, Int.add_mul, Int.one_mul]
theorem pr_mono {f : Nat → Int} (hp : ∀ i, 1 ≤ f i) {i j j' : Nat} (hi : i ≤ j) (h : j ≤ j') (hP : Pr f i j') : Pr f i j := by
  unfold Pr at hP ⊢
  have := T_mono hp i (j - i) (j' - j)
  rw [show j - i + (j' - j) = j' - i by omega] at this
  omega
theorem uniq {f : Nat → Int} (hp : ∀ i, 1 ≤ f i) (he : EL f) {i1 i2 j : Nat} (h12 : i1 < i2) (h2 : i2 + 1 < j) (hP1 : Pr f i1 j) (hP2 : Pr f i2 j) : False := by
  obtain ⟨ha, hb⟩ := he i1
  simp only [Nat.add_zero] at ha hb
  unfold Pr at hP1 hP2
  by_cases hv : f (i1 + 1) < f i1
  · obtain ⟨h, r, hh, hs, hr0, hc, hr⟩ := hb hv
    have hT := T_const (f := f) (i := i1) h hc
    have hd : j - i1 ≤ h + 1 := by
      rcases Nat.lt_or_ge (h + 1) (j - i1) with hlt | hge
      · exfalso
        have e1 : T f i1 (h + 1) = h * f (i1 + 1) + f (i1 + 1 + h) := by rw [T, hT]
        have e2 := T_mono hp i1 (h + 1) (j - i1 - (h + 1))
        rw [show h + 1 + (j - i1 - (h + 1)) = j - i1 by omega] at e2
        have e3 : r ≤ f (i1 + 1 + h) := by
          by_cases h0 : 0 < r
          · exact Int.le_of_eq (hr h0).symm
          · have := hp (i1 + 1 + h)
            omega
        omega
      · exact hge
    have g1 : f i2 = f (i1 + 1) := by
      have := hc (i2 - i1 - 1) (by omega)
      rwa [show i1 + 1 + (i2 - i1 - 1) = i2 by omega] at this
    have g2 : f (i2 + 1) = f (i1 + 1) := by
      have := hc (i2 - i1) (by omega)
      rwa [show i1 + 1 + (i2 - i1) = i2 + 1 by omega] at this
    have g3 := T_mono hp i2 1 (j - i2 - 1)
    rw [show 1 + (j - i2 - 1) = j - i2 by omega] at g3
    simp only [T, Nat.add_zero] at g3
    omega
  · have g3 := T_mono hp i1 1 (j - i1 - 1)
    rw [show 1 + (j - i1 - 1) = j - i1 by omega] at g3
    simp only [T, Nat.add_zero] at g3
    omega
theorem cd_rel {f : Nat → Int} (hp : ∀ i, 1 ≤ f i) (he : EL f) (j : Nat) : ∀ I, I + 1 ≤ j → (D f I j = [] ∧ C f I j = 0) ∨ (∃ i, i < I ∧ Pr f i j ∧ D f I j = [(i : Int)] ∧ C f I j = (j : Int) - i)
  | 0, _ => .inl ⟨rfl, rfl⟩
  | I + 1, h => by
    rcases cd_rel hp he j I (by omega) with ⟨h1, h2⟩ | ⟨i, hi, hP, h1, h2⟩
    · by_cases hq : Pr f I j
      · right
        refine ⟨I, by omega, hq, ?_, ?_⟩
        · rw [D, if_pos ⟨by omega, hq⟩, h1]
          rfl
        · rw [C, if_pos ⟨by omega, hq⟩]
      · left
        rw [D, C, if_neg (fun x => hq x.2), if_neg (fun x => hq x.2)]
        exact ⟨h1, h2⟩
    · right
      have hq : ¬ Pr f I j := fun hq => uniq hp he hi (by omega) hP hq
      refine ⟨i, by omega, hP, ?_, ?_⟩
      · rw [D, if_neg (fun x => hq x.2), h1]
      · rw [C, if_neg (fun x => hq x.2), h2]
theorem pr_before {f : Nat → Int} (he : EL f) {j : Nat} (h : 1 ≤ j) : Pr f (j - 1) j := by
  unfold Pr
  have := (he (j - 1)).1
  rw [show j - (j - 1) = 1 by omega]
  simp only [T, Nat.add_zero] at this ⊢
  omega
theorem C_stable (f : Nat → Int) (j : Nat) : ∀ e, C f (j - 1 + e) j = C f (j - 1) j
  | 0 => rfl
  | e + 1 => by rw [← Nat.add_assoc, C, if_neg (by omega), C_stable f j e]
theorem D_stable (f : Nat → Int) (j : Nat) : ∀ e, D f (j + e) j = D f j j
  | 0 => rfl
  | e + 1 => by rw [← Nat.add_assoc, D, if_neg (by omega), D_stable f j e]
def cdOf (f : Nat → Int) (j : Nat) : Int := C f j (j + 1)
theorem C_end (f : Nat → Int) {n j : Nat} (h : j + 1 ≤ n) : C f n (j + 1) = cdOf f j := by
  have := C_stable f (j + 1) (n - j)
  rwa [show j + 1 - 1 + (n - j) = n by omega] at this
theorem D_end {f : Nat → Int} (hp : ∀ i, 1 ≤ f i) (he : EL f) {n j : Nat} (h : j + 1 ≤ n) :
    (1 < (D f n (j + 1)).length ∧ (j + 1 : Int) - rd (D f n (j + 1)) 0 = cdOf f j) ∨ ((D f n (j + 1)).length = 1 ∧ cdOf f j = 0) := by
  have h1 := D_stable f (j + 1) (n - (j + 1))
  rw [show j + 1 + (n - (j + 1)) = n by omega, D, if_pos ⟨by omega, pr_before (j := j + 1) he (by omega)⟩] at h1
  rw [h1]
  unfold cdOf
  rcases cd_rel hp he (j + 1) j (by omega) with ⟨h2, h3⟩ | ⟨i, _, _, h2, h3⟩
  · rw [h2, h3]
    exact .inr ⟨rfl, rfl⟩
  · rw [h2, h3]
    exact .inl ⟨by simp, by simp [rd]⟩
/-! ### The two programs' loops -/
theorem rdM (f : Nat → Int) {n i : Nat} (h : i < n) : rd ((List.range n).map f) (i : Int) = f i := by
  rw [rd_nat, List.getD_eq_getElem?_getD, List.getElem?_eq_getElem (by simpa using h)]
  simp
theorem getD_set {α : Type} (l : List α) (i j : Nat) (v d : α) : (l.set i v).getD j d = if i = j ∧ i < l.length then v else l.getD j d := by
  rw [List.getD_eq_getElem?_getD, List.getD_eq_getElem?_getD, List.getElem?_set]
  by_cases h : i = j
  · subst h
    by_cases h2 : i < l.length
    · simp [h2]
    · simp [h2]
  · simp [h]
theorem list_of {l : List Int} {n : Nat} {g : Nat → Int} (hl : l.length = n) (h : ∀ j, j < n → l.getD j 0 = g j) : l = (List.range n).map g := by
  apply List.ext_getElem
  · simpa using hl
  · intro i h1 h2
    have := h i (by omega)
    rw [List.getD_eq_getElem?_getD, List.getElem?_eq_getElem h1] at this
    simpa using this
theorem rep_getD (n j : Nat) (v : Int) : (List.replicate n v).getD j v = v := by
  rw [List.getD_eq_getElem?_getD, List.getElem?_replicate]
  split <;> rfl
theorem code6_l0 {f : Nat → Int} (hp : ∀ i, 1 ≤ f i) (hq : ∀ i, f i ≤ 64) (n : Nat) (hn : n ≤ 1000000) : ∀ (d I : Nat) (x : List Int), I + d = n → x.length = n - 1 → (∀ j, j < n - 1 → x.getD j 0 = C f I (j + 1)) →
    ∃ K, ∀ k, K ≤ k → spec_l06Code.l0 k n x ((List.range n).map f) I = some ((List.range (n - 1)).map (fun j => C f n (j + 1))) := by
  intro d
  induction d with
  | zero =>
    intro I x hI hx hc
    refine ev_intro 0 fun k _ => ?_
    simp only [spec_l06Code.l0]
    rw [if_neg (by omega), list_of hx hc]
    have : I = n := by omega
    rw [this]
  | succ d ih =>
    intro I x hI hx hc
    have inner : ∀ (e J : Nat) (x : List Int), J + e = n → I + 1 ≤ J → x.length = n - 1 → (∀ j, j < n - 1 → x.getD j 0 = if j + 1 < J then C f (I + 1) (j + 1) else C f I (j + 1)) → T f I (J - 1 - I) ≤ f I →
        ∃ K, ∀ k, K ≤ k → spec_l06Code.l1 k n x ((List.range n).map f) I (T f I (J - 1 - I)) J = some ((List.range (n - 1)).map (fun j => C f n (j + 1))) := by
      intro e
      induction e with
      | zero =>
        intro J x hJ hIJ hx hc hT
        obtain ⟨K, hK⟩ := ih (I + 1) x (by omega) hx (fun j hj => by rw [hc j hj, if_pos (by omega)])
        refine ev_intro K fun k hk => ?_
        simp only [spec_l06Code.l1]
        rw [if_neg (by omega), wi I (by omega), hK k hk]
      | succ e ihe =>
        intro J x hJ hIJ hx hc hT
        have hT0 : (0 : Int) ≤ T f I (J - 1 - I) := by
          have := T_mono hp I 0 (J - 1 - I)
          rw [Nat.zero_add, T] at this
          omega
        have hTs : T f I (J - 1 - I) + f J = T f I (J - I) := by
          rw [show J - I = J - 1 - I + 1 by omega, T, show I + 1 + (J - 1 - I) = J by omega]
        have hb1 := hp J
        have hb2 := hq J
        have hb3 := hq I
        by_cases hbr : T f I (J - I) ≤ f I
        · by_cases hJ2 : I + 1 < J
          · obtain ⟨K, hK⟩ := ihe (J + 1) (x.set (J - 1) ((J : Int) - I)) (by omega) (by omega) (by simpa using hx) (fun j hj => by
              rw [getD_set, hc j hj]
              by_cases hjj : J - 1 = j
              · rw [if_pos ⟨hjj, by omega⟩, if_pos (by omega), C, if_pos ⟨by omega, by rw [show j + 1 = J by omega]; exact hbr⟩]
                omega
              · rw [if_neg (by omega)]
                by_cases hlt : j + 1 < J
                · rw [if_pos hlt, if_pos (by omega)]
                · rw [if_neg hlt, if_neg (by omega)]) (by rw [show J + 1 - 1 - I = J - I by omega]; exact hbr)
            refine ev_intro K fun k hk => ?_
            simp only [spec_l06Code.l1]
            rw [rdM f (show J < n by omega), rdM f (show I < n by omega), w64 (by omega) (by omega), hTs, List.length_map, List.length_range]
            rw [if_pos (by omega), if_pos (by omega), if_pos (by omega), if_pos (by omega), if_pos (by omega), if_neg (by omega)]
            rw [wi I (by omega), wi J (by omega), wd J (by omega) (by omega), if_pos (by omega), if_pos (by omega), if_pos (by omega), w64 (show -9223372036854775808 ≤ (J : Int) - I by omega) (by omega), Int.toNat_natCast]
            have := hK k hk
            rwa [show J + 1 - 1 - I = J - I by omega] at this
          · obtain ⟨K, hK⟩ := ihe (J + 1) x (by omega) (by omega) hx (fun j hj => by
              rw [hc j hj]
              by_cases hlt : j + 1 < J
              · rw [if_pos hlt, if_pos (by omega)]
              · rw [if_neg hlt]
                by_cases hjj : j + 1 < J + 1
                · rw [if_pos hjj, C, if_neg (by omega)]
                · rw [if_neg hjj]) (by rw [show J + 1 - 1 - I = J - I by omega]; exact hbr)
            refine ev_intro K fun k hk => ?_
            simp only [spec_l06Code.l1]
            rw [rdM f (show J < n by omega), rdM f (show I < n by omega), w64 (by omega) (by omega), hTs, List.length_map, List.length_range]
            rw [if_pos (by omega), if_pos (by omega), if_pos (by omega), if_pos (by omega), if_pos (by omega), if_neg (by omega)]
            rw [wi I (by omega), wi J (by omega), if_neg (by omega)]
            have := hK k hk
            rwa [show J + 1 - 1 - I = J - I by omega] at this
        · obtain ⟨K, hK⟩ := ih (I + 1) x (by omega) hx (fun j hj => by
            rw [hc j hj]
            by_cases hlt : j + 1 < J
            · rw [if_pos hlt]
            · rw [if_neg hlt, C, if_neg]
              rintro ⟨_, hP⟩
              exact hbr (pr_mono hp (by omega) (show J ≤ j + 1 by omega) hP))
          refine ev_intro K fun k hk => ?_
          simp only [spec_l06Code.l1]
          rw [rdM f (show J < n by omega), rdM f (show I < n by omega), w64 (by omega) (by omega), hTs, List.length_map, List.length_range]
          rw [if_pos (by omega), if_pos (by omega), if_pos (by omega), if_pos (by omega), if_pos (by omega), if_pos (by omega)]
          rw [wi I (by omega)]
          exact hK k hk
    obtain ⟨K, hK⟩ := inner d (I + 1) x (by omega) (by omega) hx (fun j hj => by
      rw [hc j hj]
      by_cases hlt : j + 1 < I + 1
      · rw [if_pos hlt, C, if_neg (by omega)]
      · rw [if_neg hlt]) (by
        rw [show I + 1 - 1 - I = 0 by omega, T]
        have := hp I
        omega)
    rw [show I + 1 - 1 - I = 0 by omega, T] at hK
    refine ev_intro K fun k hk => ?_
    simp only [spec_l06Code.l0]
    rw [if_pos (by omega), wi I (by omega), hK k hk]
end Go.Proofs.YtkfdfpcdcabcoaaDoor.Plain
namespace Go.Proofs.YtkfdfpcdcabcoaaDoor.Plain
open Go.RowKit Go.Proofs.YtkfdfpcdcabcoaaDoorW.PrintWords Go.Proofs.YtkfdfpcdcabcoaaDoor.QName
theorem list_ofG {α : Type} {l : List α} {n : Nat} {g : Nat → α} {z : α} (hl : l.length = n) (h : ∀ j, j < n → l.getD j z = g j) : l = (List.range n).map g := by
  apply List.ext_getElem
  · simpa using hl
  · intro i h1 h2
    have := h i (by omega)
    rw [List.getD_eq_getElem?_getD, List.getElem?_eq_getElem h1] at this
    simpa using this
theorem rdM1 (f : Nat → List Int) {n i : Nat} (h : i < n) : rd_L1 ((List.range n).map f) (i : Int) = f i := by
  unfold rd_L1
  rw [Int.toNat_natCast, List.getD_eq_getElem?_getD, List.getElem?_eq_getElem (by simpa using h)]
  simp
theorem D_len (f : Nat → Int) (j : Nat) : ∀ I, (D f I j).length ≤ I
  | 0 => by simp [D]
  | I + 1 => by
    have := D_len f j I
    rw [D]
    split
    · simp
      omega
    · omega
theorem prox_l0 {f : Nat → Int} (hp : ∀ i, 1 ≤ f i) (hq : ∀ i, f i ≤ 64) (n : Nat) (hn : n ≤ 1000000) : ∀ (d I : Nat) (x : List (List Int)), I + d = n → x.length = n → (∀ j, j < n → x.getD j [] = D f I j) →
    ∃ K, ∀ k, K ≤ k → impl_proximates.l0 k ((List.range n).map f) x n I = some ((List.range n).map (D f n)) := by
  intro d
  induction d with
  | zero =>
    intro I x hI hx hc
    refine ev_intro 0 fun k _ => ?_
    simp only [impl_proximates.l0]
    rw [if_neg (by omega), list_ofG hx hc]
    have : I = n := by omega
    rw [this]
  | succ d ih =>
    intro I x hI hx hc
    have inner : ∀ (e J : Nat) (x : List (List Int)), J + e = n → I + 1 ≤ J → x.length = n → (∀ j, j < n → x.getD j [] = if j < J then D f (I + 1) j else D f I j) → T f I (J - 1 - I) ≤ f I →
        ∃ K, ∀ k, K ≤ k → impl_proximates.l1 k ((List.range n).map f) x I (T f I (J - 1 - I)) J n I = some ((List.range n).map (D f n)) := by
      intro e
      induction e with
      | zero =>
        intro J x hJ hIJ hx hc hT
        obtain ⟨K, hK⟩ := ih (I + 1) x (by omega) hx (fun j hj => by rw [hc j hj, if_pos (by omega)])
        refine ev_intro K fun k hk => ?_
        simp only [impl_proximates.l1]
        rw [List.length_map, List.length_range, if_neg (by omega), wi I (by omega), hK k hk]
      | succ e ihe =>
        intro J x hJ hIJ hx hc hT
        have hT0 : (0 : Int) ≤ T f I (J - 1 - I) := by
          have := T_mono hp I 0 (J - 1 - I)
          rw [Nat.zero_add, T] at this
          omega
        have hTs : T f I (J - 1 - I) + f J = T f I (J - I) := by
          rw [show J - I = J - 1 - I + 1 by omega, T, show I + 1 + (J - 1 - I) = J by omega]
        have hb1 := hp J
        have hb2 := hq J
        have hb3 := hq I
        have hrow : rd_L1 x (J : Int) = D f I J := by
          unfold rd_L1
          rw [Int.toNat_natCast, hc J (by omega), if_neg (by omega)]
        have hlen := D_len f J I
        by_cases hbr : T f I (J - I) ≤ f I
        · obtain ⟨K, hK⟩ := ihe (J + 1) (x.set J (D f I J ++ [(I : Int)])) (by omega) (by omega) (by simpa using hx) (fun j hj => by
              rw [getD_set, hc j hj]
              by_cases hjj : J = j
              · rw [if_pos ⟨hjj, by omega⟩, if_pos (by omega), D, if_pos ⟨by omega, by rw [← hjj]; exact hbr⟩, hjj]
              · rw [if_neg (by omega)]
                by_cases hlt : j < J
                · rw [if_pos hlt, if_pos (by omega)]
                · rw [if_neg hlt, if_neg (by omega)]) (by rw [show J + 1 - 1 - I = J - I by omega]; exact hbr)
          refine ev_intro K fun k hk => ?_
          simp only [impl_proximates.l1]
          rw [rdM f (show J < n by omega), rdM f (show I < n by omega), w64 (by omega) (by omega), hTs, List.length_map, List.length_range, hrow]
          rw [if_pos (by omega), if_pos (by omega), if_pos (by omega), if_pos (by omega), if_neg (by omega), if_pos (by omega), if_pos (by omega)]
          rw [wi J (by omega), Int.toNat_natCast]
          have := hK k hk
          rwa [show J + 1 - 1 - I = J - I by omega] at this
        · obtain ⟨K, hK⟩ := ih (I + 1) x (by omega) hx (fun j hj => by
            rw [hc j hj]
            by_cases hlt : j < J
            · rw [if_pos hlt]
            · rw [if_neg hlt, D, if_neg]
              rintro ⟨_, hP⟩
              exact hbr (pr_mono hp (by omega) (show J ≤ j by omega) hP))
          refine ev_intro K fun k hk => ?_
          simp only [impl_proximates.l1]
          rw [rdM f (show J < n by omega), rdM f (show I < n by omega), w64 (by omega) (by omega), hTs, List.length_map, List.length_range]
          rw [if_pos (by omega), if_pos (by omega), if_pos (by omega), if_pos (by omega), if_pos (by omega)]
          rw [wi I (by omega)]
          exact hK k hk
    obtain ⟨K, hK⟩ := inner d (I + 1) x (by omega) (by omega) hx (fun j hj => by
      rw [hc j hj]
      by_cases hlt : j < I + 1
      · rw [if_pos hlt, D, if_neg (by omega)]
      · rw [if_neg hlt]) (by
        rw [show I + 1 - 1 - I = 0 by omega, T]
        have := hp I
        omega)
    rw [show I + 1 - 1 - I = 0 by omega, T] at hK
    refine ev_intro K fun k hk => ?_
    simp only [impl_proximates.l0]
    rw [if_pos (by omega), wi I (by omega), hK k hk]
theorem C_bound (f : Nat → Int) (j : Nat) : ∀ I, 0 ≤ C f I j ∧ C f I j ≤ j
  | 0 => by simp [C]
  | I + 1 => by
    have := C_bound f j I
    rw [C]
    split
    · omega
    · exact this
theorem codeOf_l0 {f : Nat → Int} (hp : ∀ i, 1 ≤ f i) (he : EL f) (n : Nat) (hn : n ≤ 1000000) : ∀ (d j : Nat), j + d + 1 = n →
    ∃ K, ∀ k, K ≤ k → impl_codeOf.l0 k ((List.range n).map (D f n)) ((List.range j).map (cdOf f)) ((j + 1 : Nat) : Int) = some ((List.range (n - 1)).map (cdOf f)) := by
  intro d
  induction d with
  | zero =>
    intro j hj
    refine ev_intro 0 fun k _ => ?_
    simp only [impl_codeOf.l0]
    rw [List.length_map, List.length_range, if_neg (by omega), show n - 1 = j by omega]
  | succ d ih =>
    intro j hj
    obtain ⟨K, hK⟩ := ih (j + 1) (by omega)
    rw [List.range_succ, List.map_append] at hK
    refine ev_intro K fun k hk => ?_
    simp only [impl_codeOf.l0]
    rw [rdM1 (D f n) (show j + 1 < n by omega), List.length_map, List.length_range, if_pos (by omega), if_pos (by omega), List.length_map, List.length_range]
    have hK' := hK k hk
    have hw : wrap64 (((j + 1 : Nat) : Int) + 1) = ((j + 1 + 1 : Nat) : Int) := wi (j + 1) (by omega)
    rcases D_end hp he (show j + 1 ≤ n by omega) with ⟨h1, h2⟩ | ⟨h1, h2⟩
    · have hin : 0 ≤ rd (D f n (j + 1)) 0 ∧ rd (D f n (j + 1)) 0 ≤ 1000001 := by
        have := C_bound f (j + 1) j
        unfold cdOf at h2
        omega
      rw [if_pos (by omega), if_pos (by omega), if_pos (by omega), hw, w64 (by omega) (by omega), show ((j + 1 : Nat) : Int) - rd (D f n (j + 1)) 0 = cdOf f j by omega]
      exact hK'
    · rw [if_neg (by omega), if_pos (by omega), hw, ← h2]
      exact hK'
end Go.Proofs.YtkfdfpcdcabcoaaDoor.Plain
namespace Go.Proofs.YtkfdfpcdcabcoaaDoor.Plain
open Go.RowKit Go.Proofs.YtkfdfpcdcabcoaaDoorW.PrintWords Go.Proofs.YtkfdfpcdcabcoaaDoor.QName
theorem ex_bound : ∀ (S : List (List Int)), (∀ s ∈ S, IsStep s) → ∀ x ∈ ex S, 1 ≤ x ∧ x ≤ 64
  | [], _, x, hx => by simp [ex] at hx
  | s :: S, h, x, hx => by
    obtain ⟨q, v, rfl, h1, h2, _⟩ := h s (by simp)
    rw [ex_pair, List.mem_append] at hx
    rcases hx with hx | hx
    · have := (List.mem_replicate.mp hx).2
      omega
    · exact ex_bound S (fun s hs => h s (by simp [hs])) x hx
theorem sq_step {t : List Int} (h : brB t = true) : ∀ x ∈ sq t, 1 ≤ x ∧ x ≤ 64 := by
  cases t with
  | nil => simp [brB] at h
  | cons a r =>
    obtain ⟨h1, h2, hg, hp, hl⟩ := br_goes h
    exact ex_bound _ (rn_step r 0 a (by omega) hg)
theorem mm_bound {t : List Int} (h : brB t = true) (j : Nat) : 1 ≤ mm t j ∧ mm t j ≤ 64 := by
  unfold mm
  rcases Nat.lt_or_ge j (sq t).length with hl | hl
  · rw [List.getD_eq_getElem?_getD, List.getElem?_eq_getElem hl]
    exact sq_step h _ (List.getElem_mem hl)
  · rw [List.getD_eq_getElem?_getD, List.getElem?_eq_none hl]
    simp
theorem mm_el {t : List Int} (h : brB t = true) : EL (mm t) := by
  cases t with
  | nil => simp [brB] at h
  | cons a r =>
    obtain ⟨h1, h2, hg, hp, hl⟩ := br_goes h
    exact (el_rn r 0 a (by omega) h1 ⟨0, by simp⟩ hg).1
def code (t : List Int) (n : Nat) : List Int := (List.range n).map (cdOf (mm t))
theorem code_len (t : List Int) (n : Nat) : (code t n).length = n := by simp [code]
theorem code_take (t : List Int) {n m : Nat} (h : m ≤ n) : (code t n).take m = code t m := by
  unfold code
  rw [← List.map_take, List.take_range, Nat.min_eq_left h]
theorem code_rd (t : List Int) {n j : Nat} (h : j < n) : rd (code t n) (j : Int) = cdOf (mm t) j := rdM _ h
theorem code6_ev {t : List Int} (h : brB t = true) (n : Nat) (hn : n ≤ 999999) : ∃ K, ∀ k, K ≤ k → spec_l06Code.f k t ((n + 1 : Nat) : Int) = some (code t n) := by
  obtain ⟨K, hK⟩ := seq6_ev h (n + 1) (by omega)
  obtain ⟨K2, hK2⟩ := code6_l0 (fun i => (mm_bound h i).1) (fun i => (mm_bound h i).2) (n + 1) (by omega) (n + 1) 0 (List.replicate n 0) (by omega) (by simp) (fun j _ => by rw [rep_getD, C])
  refine ⟨max K K2, fun k hk => ?_⟩
  unfold spec_l06Code.f
  rw [wd (n + 1) (by omega) (by omega), Nat.add_sub_cancel, Int.toNat_natCast, if_pos (by omega), if_pos (by omega), hK k (by omega)]
  simp only [Option.bind_some]
  have h2 := hK2 k (by omega)
  unfold ml
  rw [show ((0 : Nat) : Int) = 0 from rfl] at h2
  rw [h2, Nat.add_sub_cancel]
  unfold code
  congr 1
  apply List.map_congr_left
  intro j hj
  exact C_end _ (by have := List.mem_range.mp hj; omega)
theorem codeI_ev {t : List Int} (h : brB t = true) (n : Nat) (hn : n ≤ 999999) : ∃ K, ∀ k, K ≤ k → ((impl_proximatesOf.f k t ((n + 1 : Nat) : Int)).bind fun p => impl_codeOf.f k p) = some (code t n) := by
  obtain ⟨K, hK⟩ := first_ev h (n + 1) (by omega)
  obtain ⟨K2, hK2⟩ := prox_l0 (fun i => (mm_bound h i).1) (fun i => (mm_bound h i).2) (n + 1) (by omega) (n + 1) 0 (List.replicate (n + 1) []) (by omega) (by simp) (fun j hj => by
    rw [List.getD_eq_getElem?_getD, List.getElem?_replicate, if_pos hj]
    rfl)
  obtain ⟨K3, hK3⟩ := codeOf_l0 (fun i => (mm_bound h i).1) (mm_el h) (n + 1) (by omega) n 0 (by omega)
  refine ⟨max K (max K2 K3), fun k hk => ?_⟩
  unfold impl_proximatesOf.f
  rw [hK k (by omega)]
  simp only [Option.bind_some]
  unfold impl_proximates.f
  have hl : (ml t (n + 1)).length = n + 1 := by simp [ml]
  rw [hl, if_pos (by omega), Int.toNat_natCast, if_pos (by omega)]
  have h2 := hK2 k (by omega)
  rw [show ((0 : Nat) : Int) = 0 from rfl] at h2
  unfold ml
  rw [h2]
  simp only [Option.bind_some]
  exact hK3 k (by omega)
/-! ### Sharing -/
theorem same_l0 (x y : List Int) (hl : x.length = y.length) (hx : x.length ≤ 1000000) : ∀ (d i : Nat), i + d = x.length → ∃ K, ∀ k, K ≤ k → spec_l01Same.l0 k x y i = some (decide (x.drop i = y.drop i)) := by
  intro d
  induction d with
  | zero =>
    intro i hi
    refine ev_intro 0 fun k _ => ?_
    simp only [spec_l01Same.l0]
    rw [if_neg (by omega), List.drop_eq_nil_of_le (by omega), List.drop_eq_nil_of_le (by omega)]
    rfl
  | succ d ih =>
    intro i hi
    obtain ⟨K, hK⟩ := ih (i + 1) (by omega)
    refine ev_intro K fun k hk => ?_
    simp only [spec_l01Same.l0]
    rw [if_pos (by omega), if_pos (by omega), if_pos (by omega), wi i (by omega), hK k hk, rd_nat, rd_nat, List.drop_eq_getElem_cons (show i < x.length by omega), List.drop_eq_getElem_cons (show i < y.length by omega)]
    rw [List.getD_eq_getElem?_getD, List.getD_eq_getElem?_getD, List.getElem?_eq_getElem (show i < x.length by omega), List.getElem?_eq_getElem (show i < y.length by omega)]
    simp only [Option.getD_some, List.cons.injEq]
    by_cases h : x[i]'(by omega) = y[i]'(by omega)
    · rw [if_pos h]
      simp [h]
    · rw [if_neg h]
      simp [h]
theorem same_ev (x y : List Int) (hx : x.length ≤ 1000000) : ∃ K, ∀ k, K ≤ k → spec_l01Same.f k x y = some (decide (x = y)) := by
  by_cases hl : x.length = y.length
  · obtain ⟨K, hK⟩ := same_l0 x y hl hx x.length 0 (by omega)
    refine ⟨K, fun k hk => ?_⟩
    unfold spec_l01Same.f
    rw [if_pos (by omega)]
    exact hK k hk
  · refine ⟨0, fun k _ => ?_⟩
    unfold spec_l01Same.f
    rw [if_neg (by omega), decide_eq_false (fun h => hl (by rw [h]))]
theorem equal_l0 (x y : List Int) (hl : x.length = y.length) (hx : x.length ≤ 1000000) : ∀ (d i : Nat), i + d = x.length → ∃ K, ∀ k, K ≤ k → slices_Equal_int64_int64.l0 k x y x.length i = some (decide (x.drop i = y.drop i)) := by
  intro d
  induction d with
  | zero =>
    intro i hi
    refine ev_intro 0 fun k _ => ?_
    simp only [slices_Equal_int64_int64.l0]
    rw [if_neg (by omega), List.drop_eq_nil_of_le (by omega), List.drop_eq_nil_of_le (by omega)]
    rfl
  | succ d ih =>
    intro i hi
    obtain ⟨K, hK⟩ := ih (i + 1) (by omega)
    refine ev_intro K fun k hk => ?_
    simp only [slices_Equal_int64_int64.l0]
    rw [if_pos (by omega), if_pos (by omega), if_pos (by omega), if_pos (by omega), wi i (by omega), hK k hk, rd_nat, rd_nat, List.drop_eq_getElem_cons (show i < x.length by omega), List.drop_eq_getElem_cons (show i < y.length by omega)]
    rw [List.getD_eq_getElem?_getD, List.getD_eq_getElem?_getD, List.getElem?_eq_getElem (show i < x.length by omega), List.getElem?_eq_getElem (show i < y.length by omega)]
    simp only [Option.getD_some, List.cons.injEq]
    by_cases h : x[i]'(by omega) = y[i]'(by omega)
    · rw [if_pos h]
      simp [h]
    · rw [if_neg h]
      simp [h]
theorem equal_ev (x y : List Int) (hx : x.length ≤ 1000000) : ∃ K, ∀ k, K ≤ k → slices_Equal_int64_int64.f k x y = some (decide (x = y)) := by
  by_cases hl : x.length = y.length
  · obtain ⟨K, hK⟩ := equal_l0 x y hl hx x.length 0 (by omega)
    refine ⟨K, fun k hk => ?_⟩
    unfold slices_Equal_int64_int64.f
    rw [if_pos (by omega)]
    exact hK k hk
  · refine ⟨0, fun k _ => ?_⟩
    unfold slices_Equal_int64_int64.f
    rw [if_neg (by omega), decide_eq_false (fun h => hl (by rw [h]))]
/-- Whether two branches can share their first points, m of them, and no more. -/
def shB (t u : List Int) (m : Nat) : Bool :=
  decide (code t (m - 1) = code u (m - 1)) && (if cdOf (mm t) (m - 1) = cdOf (mm u) (m - 1) then cdOf (mm t) (m - 1) == 0 else true)
theorem pair_ev {t u : List Int} (ht : brB t = true) (hu : brB u = true) {m : Nat} (h1 : 1 ≤ m) (h2 : m ≤ 200) : ∃ K, ∀ k, K ≤ k → spec_l09Pair.f k t u m = some (shB t u m) := by
  obtain ⟨K, hK⟩ := code6_ev ht m (by omega)
  obtain ⟨K2, hK2⟩ := code6_ev hu m (by omega)
  obtain ⟨K3, hK3⟩ := same_ev (code t (m - 1)) (code u (m - 1)) (by rw [code_len]; omega)
  refine ⟨max K (max K2 K3), fun k hk => ?_⟩
  unfold spec_l09Pair.f
  rw [wi m (by omega), hK k (by omega)]
  simp only [Option.bind_some]
  rw [hK2 k (by omega)]
  simp only [Option.bind_some]
  rw [wd m h1 (by omega), code_len, code_len, Int.toNat_natCast, code_take t (by omega), code_take u (by omega), hK3 k (by omega), code_rd t (by omega), code_rd u (by omega), if_pos (by omega), if_pos (by omega), if_pos (by omega)]
  simp only [Option.bind_some]
  unfold shB
  by_cases hc : code t (m - 1) = code u (m - 1)
  · rw [decide_eq_true hc, if_pos rfl, if_pos (by omega), if_pos (by omega), Bool.true_and]
    split <;> rfl
  · rw [decide_eq_false hc, if_neg (by simp)]
    rfl
theorem share_ev {t u : List Int} {m : Nat} (h1 : 1 ≤ m) (h2 : m ≤ 200) : ∃ K, ∀ k, K ≤ k → impl_canShare.f k (code t 200) (code u 200) m = some (shB t u m) := by
  obtain ⟨K3, hK3⟩ := equal_ev (code t (m - 1)) (code u (m - 1)) (by rw [code_len]; omega)
  refine ⟨K3, fun k hk => ?_⟩
  unfold impl_canShare.f
  rw [wd m h1 (by omega), code_len, code_len, Int.toNat_natCast, code_take t (by omega), code_take u (by omega), hK3 k (by omega), code_rd t (by omega), code_rd u (by omega), if_pos (by omega), if_pos (by omega), if_pos (by omega)]
  simp only [Option.bind_some]
  unfold shB
  by_cases hc : code t (m - 1) = code u (m - 1)
  · rw [decide_eq_true hc, if_pos rfl, if_pos (by omega), if_pos (by omega), Bool.true_and]
    split <;> rfl
  · rw [decide_eq_false hc, if_neg (by simp)]
    rfl
end Go.Proofs.YtkfdfpcdcabcoaaDoor.Plain
