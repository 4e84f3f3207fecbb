/- The program's PathsOf and the reference's answer alike for all seaweeds, whatever numbers they hold (the printed pure statement; no condition beside the law's own bound of 2^20 numbers). -/
import Derived.Test.YtmpbbmocdcomcaaMFnExactPathsOf3
namespace Go.Proofs.Ytmpbbmocdcomcaa.Pure
open Go.RowKit Go.Proofs.Ytmpbbmocdcomcaa.PB Go.Proofs.YtmpbbmocdcomcaaW.PrintWords Go.Proofs.YtmpbbmocdcomcaaW.PrintLast Go.Proofs.YtmpbbmocdcomcaaW.PrintMore

/-! ### parts -/
theorem okPart_iff (x : Int) : impl_okPart x = true ↔ 1 ≤ x ∧ x ≤ 20 := by simp [impl_okPart]
theorem all_ok (l : List Int) (h : l.all impl_okPart = true) : ∀ x ∈ l, 1 ≤ x ∧ x ≤ 20 := fun x hx => (okPart_iff x).1 (List.all_eq_true.1 h x hx)
theorem sum_bounds (l : List Int) (h : ∀ x ∈ l, 1 ≤ x ∧ x ≤ 20) : 0 ≤ l.sum ∧ l.sum ≤ 20 * (l.length : Int) := by
  induction l with
  | nil => simp
  | cons a l ih =>
    have h1 := ih (fun x hx => h x (List.mem_cons_of_mem _ hx))
    have h2 := h a List.mem_cons_self
    simp only [List.sum_cons, List.length_cons]
    omega
theorem take_all {l : List Int} (h : ∀ x ∈ l, 1 ≤ x ∧ x ≤ 20) (i : Nat) : ∀ x ∈ l.take i, 1 ≤ x ∧ x ≤ 20 := fun x hx => h x (List.mem_of_mem_take hx)
theorem wadd {a b : Int} (h0 : -9223372036854775808 ≤ a + b) (h1 : a + b ≤ 9223372036854775807) : wrap64 (a + b) = a + b := by simp only [wrap64]; omega
theorem sum_take_succ (l : List Int) (i : Nat) (h : i < l.length) : (l.take (i + 1)).sum = (l.take i).sum + l[i] := by
  rw [show l.take (i + 1) = l.take i ++ [l[i]] from List.take_succ_eq_append_getElem h, List.sum_append]
  simp
theorem sum_l (l : List Int) (h : ∀ x ∈ l, 1 ≤ x ∧ x ≤ 20) (hl : l.length ≤ 20) (d : Nat) : ∀ (k i : Nat), i ≤ l.length → l.length - i = d → d < k → impl_sum.l0 k (l.take i).sum l (l.length : Int) (i : Int) = some l.sum ∧ spec_swSum.l0 k (l.take i).sum l (l.length : Int) (i : Int) = some l.sum := by
  induction d with
  | zero =>
    intro k i h0 hd hk
    obtain ⟨k, rfl⟩ : ∃ m, k = m + 1 := ⟨k - 1, by omega⟩
    simp only [impl_sum.l0, spec_swSum.l0]
    rw [if_neg (by omega), if_neg (by omega), List.take_of_length_le (by omega)]
    exact ⟨rfl, rfl⟩
  | succ d ih =>
    intro k i h0 hd hk
    obtain ⟨k, rfl⟩ : ∃ m, k = m + 1 := ⟨k - 1, by omega⟩
    have hi : i < l.length := by omega
    have hb := sum_bounds _ (take_all h i)
    have hb2 := h l[i] (List.getElem_mem hi)
    have hlt := List.length_take_le i l
    simp only [impl_sum.l0, spec_swSum.l0]
    rw [if_pos (by omega), if_pos (by omega), if_pos (by omega), if_pos (by omega), if_pos (by omega), if_pos (by omega), cl_rd l i hi, wadd (by omega) (by omega), cl_w1 (by omega) (by omega), ← sum_take_succ l i hi]
    exact ih k (i + 1) (by omega) (by omega) (by omega)
theorem sum_f (l : List Int) (h : ∀ x ∈ l, 1 ≤ x ∧ x ≤ 20) (hl : l.length ≤ 20) (k : Nat) (hk : 20 < k) : impl_sum.f k l = some l.sum ∧ spec_swSum.f k l = some l.sum := by
  have := sum_l l h hl l.length k 0 (by omega) (by omega) (by omega)
  simpa [impl_sum.f, spec_swSum.f] using this
theorem all_l (l : List Int) (hl : l.length ≤ 20) (d : Nat) : ∀ (k i : Nat), i ≤ l.length → l.length - i = d → d < k → spec_l1All.l0 k 1 20 l (l.length : Int) (i : Int) = some ((l.drop i).all impl_okPart) := by
  induction d with
  | zero =>
    intro k i h0 hd hk
    obtain ⟨k, rfl⟩ : ∃ m, k = m + 1 := ⟨k - 1, by omega⟩
    simp only [spec_l1All.l0]
    rw [if_neg (by omega), List.drop_eq_nil_of_le (by omega)]
    rfl
  | succ d ih =>
    intro k i h0 hd hk
    obtain ⟨k, rfl⟩ : ∃ m, k = m + 1 := ⟨k - 1, by omega⟩
    have hi : i < l.length := by omega
    simp only [spec_l1All.l0]
    rw [if_pos (by omega), if_pos (by omega), if_pos (by omega), cl_rd l i hi, List.drop_eq_getElem_cons hi, List.all_cons]
    have hin : spec_l1In.f l[i] 1 20 = some (impl_okPart l[i]) := by
      unfold spec_l1In.f impl_okPart
      by_cases h1 : l[i] ≥ 1
      · rw [if_pos h1, decide_eq_true (show 1 ≤ l[i] from h1)]
        simp
      · rw [if_neg h1, decide_eq_false (show ¬ 1 ≤ l[i] from h1)]
        simp
    rw [hin]
    simp only [Option.bind_some]
    cases hb : impl_okPart l[i]
    · simp
    · rw [if_pos rfl, cl_w1 (by omega) (by omega)]
      have := ih k (i + 1) (by omega) (by omega) (by omega)
      rw [show ((i : Int) + 1) = ((i + 1 : Nat) : Int) by omega, this]
      simp
/-- Are these parts? -/
def partsB (l : List Int) : Bool := decide (l.length ≤ 20) && (l.all impl_okPart && decide (l.sum ≤ 20))
theorem parts_f (l : List Int) (k : Nat) (hk : 20 < k) : impl_areParts.f k l = some (partsB l) ∧ spec_swParts.f k l = some (partsB l) := by
  unfold impl_areParts.f spec_swParts.f partsB
  by_cases hl : l.length ≤ 20
  · rw [if_pos hl, if_neg (show ¬ ((l.length : Int) > 20) by omega)]
    have ha : spec_l1All.f k l 1 20 = some (l.all impl_okPart) := by
      have := all_l l hl l.length k 0 (by omega) (by omega) (by omega)
      simpa [spec_l1All.f] using this
    rw [ha]
    simp only [Option.bind_some]
    by_cases hb : l.all impl_okPart = true
    · rw [if_pos hb, if_pos hb]
      obtain ⟨h1, h2⟩ := sum_f l (all_ok l hb) hl k hk
      rw [h1, h2]
      simp [hl, hb]
    · rw [if_neg hb, if_neg hb]
      have hb' := Bool.eq_false_iff.2 hb
      simp [hb']
  · rw [if_neg hl, if_pos (show (l.length : Int) > 20 by omega)]
    simp [hl]
theorem parts_sum {l : List Int} (h : partsB l = true) : (∀ x ∈ l, 1 ≤ x ∧ x ≤ 20) ∧ l.length ≤ 20 ∧ 0 ≤ l.sum ∧ l.sum ≤ 20 := by
  simp only [partsB, Bool.and_eq_true, decide_eq_true_eq] at h
  have := all_ok l h.2.1
  exact ⟨this, h.1, (sum_bounds l this).1, h.2.2⟩
/-- Is this a seaweed? -/
def weedB (l0 l1 : List Int) : Bool := partsB l0 && (partsB l1 && decide (l0.sum = l1.sum))
theorem weed_f (l0 l1 : List Int) (k : Nat) (hk : 20 < k) : impl_IsSeaweed.f k l0 l1 = some (weedB l0 l1) ∧ spec_swGood.f k l0 l1 = some (weedB l0 l1) := by
  unfold impl_IsSeaweed.f spec_swGood.f weedB
  obtain ⟨a1, a2⟩ := parts_f l0 k hk
  obtain ⟨b1, b2⟩ := parts_f l1 k hk
  rw [a1, a2, b1, b2]
  simp only [Option.bind_some]
  by_cases h0 : partsB l0 = true
  · rw [if_pos h0, if_pos h0]
    by_cases h1 : partsB l1 = true
    · rw [if_pos h1, if_pos h1]
      obtain ⟨c1, c2⟩ := sum_f l0 (parts_sum h0).1 (parts_sum h0).2.1 k hk
      obtain ⟨d1, d2⟩ := sum_f l1 (parts_sum h1).1 (parts_sum h1).2.1 k hk
      rw [c1, c2, d1, d2]
      simp only [Option.bind_some, h0, h1, Bool.true_and]
      have : (l0.sum == l1.sum) = decide (l0.sum = l1.sum) := by rw [Bool.eq_iff_iff]; simp
      rw [this]
      exact ⟨rfl, rfl⟩
    · rw [if_neg h1, if_neg h1, Bool.eq_false_iff.2 h1]
      simp
  · rw [if_neg h0, if_neg h0, Bool.eq_false_iff.2 h0]
    simp

/-! ### arcs -/
def seg (b : Nat) (n : Int) : List Int := (List.range n.toNat).map fun (i : Nat) => (b : Int) + n - 1 - (i : Int)
def arcsP : List Int → List Int → List Int
  | [], out => out
  | n :: r, out => arcsP r (out ++ seg out.length n)
theorem seg_length (b : Nat) (n : Int) : (seg b n).length = n.toNat := by simp [seg]
theorem arcsP_length : ∀ (l out : List Int), (∀ x ∈ l, 0 ≤ x) → ((arcsP l out).length : Int) = (out.length : Int) + l.sum
  | [], out, _ => by simp [arcsP]
  | n :: r, out, h => by
    have h1 := h n List.mem_cons_self
    rw [arcsP, arcsP_length r _ (fun x hx => h x (List.mem_cons_of_mem _ hx))]
    simp only [List.length_append, seg_length, List.sum_cons]
    omega
theorem seg_take (b : Nat) (n : Int) (i : Nat) (hi : (i : Int) < n) : (seg b n).take (i + 1) = (seg b n).take i ++ [(b : Int) + n - 1 - (i : Int)] := by
  rw [List.take_succ_eq_append_getElem (by rw [seg_length]; omega)]
  simp [seg]
theorem arcs_l1 (n : Int) (hn : 1 ≤ n ∧ n ≤ 20) (out0 : List Int) (ho : out0.length ≤ 1000) (x9 : List Int) (x10 x11 : Int) (d : Nat) : ∀ (k i : Nat), (i : Int) ≤ n → n - (i : Int) = d → d < k →
    (∃ k', k = k' + (d + 1) ∧ impl_arcs.l1 k (out0 ++ (seg out0.length n).take i) n (out0.length : Int) x9 x10 x11 n (i : Int) = impl_arcs.l0 k' (out0 ++ seg out0.length n) x9 x10 (wrap64 (x11 + 1))) ∧
    (∃ k', k = k' + (d + 1) ∧ spec_swArcs.l1 k (out0 ++ (seg out0.length n).take i) (out0.length : Int) n (i : Int) x9 x10 x11 = spec_swArcs.l0 k' (out0 ++ seg out0.length n) ((out0 ++ seg out0.length n).length : Int) x9 x10 (wrap64 (x11 + 1))) := by
  induction d with
  | zero =>
    intro k i h0 hd hk
    obtain ⟨k, rfl⟩ : ∃ m, k = m + 1 := ⟨k - 1, by omega⟩
    have ht : (seg out0.length n).take i = seg out0.length n := List.take_of_length_le (by rw [seg_length]; omega)
    refine ⟨⟨k, rfl, ?_⟩, ⟨k, rfl, ?_⟩⟩
    · simp only [impl_arcs.l1]
      rw [if_neg (by omega), ht]
    · simp only [spec_swArcs.l1]
      rw [if_neg (by omega), ht]
      congr 1
      rw [List.length_append, seg_length, wadd (by omega) (by omega)]
      omega
  | succ d ih =>
    intro k i h0 hd hk
    obtain ⟨k, rfl⟩ : ∃ m, k = m + 1 := ⟨k - 1, by omega⟩
    have hle : (out0 ++ (seg out0.length n).take i).length < 17592186044416 := by rw [List.length_append, List.length_take, seg_length]; omega
    have e1 : wrap64 ((out0.length : Int) + n) = (out0.length : Int) + n := wadd (by omega) (by omega)
    have e2 : wrap64 ((out0.length : Int) + n - 1) = (out0.length : Int) + n - 1 := by simp only [wrap64]; omega
    have e3 : wrap64 ((out0.length : Int) + n - 1 - (i : Int)) = (out0.length : Int) + n - 1 - (i : Int) := by simp only [wrap64]; omega
    have e4 : (out0 ++ (seg out0.length n).take i) ++ [(out0.length : Int) + n - 1 - (i : Int)] = out0 ++ (seg out0.length n).take (i + 1) := by rw [seg_take _ _ _ (by omega), List.append_assoc]
    obtain ⟨⟨k1, hk1, h1⟩, ⟨k2, hk2, h2⟩⟩ := ih k (i + 1) (by omega) (by omega) (by omega)
    refine ⟨⟨k1, by omega, ?_⟩, ⟨k2, by omega, ?_⟩⟩
    · simp only [impl_arcs.l1]
      rw [if_pos (by omega), if_pos hle, e1, e2, e3, e4, cl_w1 (by omega) (by omega)]
      exact h1
    · simp only [spec_swArcs.l1]
      rw [if_pos (by omega), if_pos hle, e1, e2, e3, e4, cl_w1 (by omega) (by omega)]
      exact h2
theorem arcs_l0 (l : List Int) (h : ∀ x ∈ l, 1 ≤ x ∧ x ≤ 20) (hl : l.length ≤ 20) (d : Nat) : ∀ (k i : Nat) (out : List Int), i ≤ l.length → l.length - i = d → out.length ≤ 20 * i → d * 22 < k →
    impl_arcs.l0 k out l (l.length : Int) (i : Int) = some (arcsP (l.drop i) out) ∧ spec_swArcs.l0 k out (out.length : Int) l (l.length : Int) (i : Int) = some (arcsP (l.drop i) out) := by
  induction d with
  | zero =>
    intro k i out h0 hd ho hk
    obtain ⟨k, rfl⟩ : ∃ m, k = m + 1 := ⟨k - 1, by omega⟩
    simp only [impl_arcs.l0, spec_swArcs.l0]
    rw [if_neg (by omega), if_neg (by omega), List.drop_eq_nil_of_le (by omega)]
    exact ⟨rfl, rfl⟩
  | succ d ih =>
    intro k i out h0 hd ho hk
    obtain ⟨k, rfl⟩ : ∃ m, k = m + 1 := ⟨k - 1, by omega⟩
    have hi : i < l.length := by omega
    have hn := h l[i] (List.getElem_mem hi)
    simp only [impl_arcs.l0, spec_swArcs.l0]
    rw [if_pos (by omega), if_pos (by omega), if_pos (by omega), if_pos (by omega), if_pos (by omega), if_pos (by omega), cl_rd l i hi]
    obtain ⟨⟨k1, hk1, h1⟩, ⟨k2, hk2, h2⟩⟩ := arcs_l1 l[i] hn out (by omega) l (l.length : Int) (i : Int) (l[i]).toNat k 0 (by omega) (by omega) (by omega)
    simp only [List.take_zero, List.append_nil, Int.natCast_zero] at h1 h2
    have hlen : (out ++ seg out.length l[i]).length ≤ 20 * (i + 1) := by rw [List.length_append, seg_length]; omega
    have g1 := ih k1 (i + 1) (out ++ seg out.length l[i]) (by omega) (by omega) hlen (by omega)
    have g2 := ih k2 (i + 1) (out ++ seg out.length l[i]) (by omega) (by omega) hlen (by omega)
    rw [List.drop_eq_getElem_cons hi, arcsP]
    refine ⟨?_, ?_⟩
    · have : ((0 : Nat) : Int) = 0 := rfl
      rw [show impl_arcs.l1 k out l[i] (out.length : Int) l (l.length : Int) (i : Int) l[i] 0 = _ from h1, cl_w1 (by omega) (by omega)]
      exact g1.1
    · rw [show spec_swArcs.l1 k out (out.length : Int) l[i] 0 l (l.length : Int) (i : Int) = _ from h2, cl_w1 (by omega) (by omega)]
      exact g2.2
theorem arcs_f (l : List Int) (h : ∀ x ∈ l, 1 ≤ x ∧ x ≤ 20) (hl : l.length ≤ 20) (k : Nat) (hk : 440 < k) : impl_arcs.f k l = some (arcsP l []) ∧ spec_swArcs.f k l = some (arcsP l []) := by
  have := arcs_l0 l h hl l.length k 0 [] (by omega) (by omega) (by simp) (by omega)
  simpa [impl_arcs.f, spec_swArcs.f] using this
/-! ### a seaweed's arcs are joined both ways -/
structure Inv (N : Nat) (T : List Int) : Prop where
  len : T.length = N
  rng : ∀ j : Nat, j < N → ∃ i : Nat, i < N ∧ rd T (j : Int) = (i : Int) ∧ rd T (i : Int) = (j : Int)
theorem rd_left (a b : List Int) (j : Nat) (h : j < a.length) : rd (a ++ b) (j : Int) = rd a (j : Int) := by
  simp [rd, List.getD_eq_getElem?_getD, List.getElem?_append_left h]
theorem rd_right (a b : List Int) (j : Nat) : rd (a ++ b) ((a.length + j : Nat) : Int) = rd b (j : Int) := by
  simp only [rd, List.getD_eq_getElem?_getD, Int.toNat_natCast]
  rw [List.getElem?_append_right (by omega)]
  simp
theorem rd_seg (b : Nat) (n : Int) (i : Nat) (h : (i : Int) < n) : rd (seg b n) (i : Int) = (b : Int) + n - 1 - (i : Int) := by
  rw [cl_rd _ i (by rw [seg_length]; omega)]
  simp [seg]
theorem inv_seg {out : List Int} (h : Inv out.length out) (n : Int) (hn : 1 ≤ n) : Inv (out ++ seg out.length n).length (out ++ seg out.length n) := by
  refine ⟨rfl, fun j hj => ?_⟩
  rw [List.length_append, seg_length] at hj
  by_cases c : j < out.length
  · obtain ⟨i, h1, h2, h3⟩ := h.rng j c
    exact ⟨i, by rw [List.length_append]; omega, by rw [rd_left _ _ _ c]; exact h2, by rw [rd_left _ _ _ h1]; exact h3⟩
  · obtain ⟨q, rfl⟩ : ∃ q, j = out.length + q := ⟨j - out.length, by omega⟩
    refine ⟨out.length + (n.toNat - 1 - q), by rw [List.length_append, seg_length]; omega, ?_, ?_⟩
    · rw [rd_right, rd_seg _ _ _ (by omega)]
      omega
    · rw [rd_right, rd_seg _ _ _ (by omega)]
      omega
theorem inv_arcs : ∀ (l out : List Int), Inv out.length out → (∀ x ∈ l, 1 ≤ x ∧ x ≤ 20) → Inv (arcsP l out).length (arcsP l out)
  | [], _, h, _ => h
  | n :: r, out, h, hx => by
    rw [arcsP]
    exact inv_arcs r _ (inv_seg h n (hx n List.mem_cons_self).1) (fun x hm => hx x (List.mem_cons_of_mem _ hm))

/-! ### what is reached -/
inductive Reach (N : Nat) (T B : List Int) (i : Nat) : Nat → Prop
  | refl : Reach N T B i i
  | top {j m : Nat} : Reach N T B i j → j < N → rd T (j : Int) = (m : Int) → Reach N T B i m
  | bot {j m : Nat} : Reach N T B i j → j < N → rd B (j : Int) = (m : Int) → Reach N T B i m
section
variable {N : Nat} {T B : List Int}
theorem inv_lt (hT : Inv N T) {j m : Nat} (hj : j < N) (h : rd T (j : Int) = (m : Int)) : m < N ∧ rd T (m : Int) = (j : Int) := by
  obtain ⟨i, h1, h2, h3⟩ := hT.rng j hj
  obtain rfl : i = m := by omega
  exact ⟨h1, h3⟩
theorem Reach.lt (hT : Inv N T) (hB : Inv N B) {i j : Nat} (hi : i < N) (h : Reach N T B i j) : j < N := by
  induction h with
  | refl => exact hi
  | top _ hj he _ => exact (inv_lt hT hj he).1
  | bot _ hj he _ => exact (inv_lt hB hj he).1
theorem Reach.trans {i j m : Nat} (h : Reach N T B i j) (k : Reach N T B j m) : Reach N T B i m := by
  induction k with
  | refl => exact h
  | top _ hj he ih => exact Reach.top ih hj he
  | bot _ hj he ih => exact Reach.bot ih hj he
theorem Reach.symm (hT : Inv N T) (hB : Inv N B) {i j : Nat} (h : Reach N T B i j) : Reach N T B j i := by
  induction h with
  | refl => exact .refl
  | top _ hj he ih => exact Reach.trans (.top .refl (inv_lt hT hj he).1 (inv_lt hT hj he).2) ih
  | bot _ hj he ih => exact Reach.trans (.bot .refl (inv_lt hB hj he).1 (inv_lt hB hj he).2) ih
def castL (l : List Nat) : List Int := l.map fun (x : Nat) => (x : Int)
theorem castL_length (l : List Nat) : (castL l).length = l.length := by simp [castL]
def endB (T B : List Int) (x : Nat) : Bool := decide (rd T (x : Int) = (x : Int)) || decide (rd B (x : Int) = (x : Int))
def seenL (N : Nat) (p : Nat → Bool) : List Bool := (List.range N).map p
theorem seenL_length (p : Nat → Bool) : (seenL N p).length = N := by simp [seenL]
theorem seenL_rd (p : Nat → Bool) (j : Nat) (h : j < N) : rdOf false (seenL N p) (j : Int) = p j := by
  simp [rdOf, seenL, List.getD_eq_getElem?_getD, h]
theorem seenL_set (p : Nat → Bool) (j : Nat) : (seenL N p).set (j : Int).toNat true = seenL N (fun x => p x || x == j) := by
  apply List.ext_getElem
  · simp [seenL]
  · intro i h1 h2
    simp only [Int.toNat_natCast, List.getElem_set, seenL, List.getElem_map, List.getElem_range]
    by_cases c : j = i
    · subst c
      simp
    · rw [if_neg c]
      have : (i == j) = false := by simpa using fun h => c h.symm
      rw [this]
      simp
theorem rd_cast0 (x : Nat) (q : List Nat) : rd (castL (x :: q)) 0 = (x : Int) := by simp [rd, castL]
/-- One round of the inner loop: a point that was met already. -/
theorem bfs_skip (hT : Inv N T) (hN : N ≤ 1000) (k : Nat) (P C : List (List Int)) (p : Nat → Bool) (own : List Int) (pa : Bool) (x : Nat) (q : List Nat) (a b : Int) (hx : x < N) (hp : p x = true) :
    impl_Seaweed_groups.l1 (k + 1) T B P C (seenL N p) own pa (castL (x :: q)) a b = impl_Seaweed_groups.l1 k T B P C (seenL N p) own pa (castL q) a b := by
  simp only [impl_Seaweed_groups.l1]
  rw [rd_cast0, castL_length, if_pos (by simp only [List.length_cons]; omega), if_pos (by simp only [List.length_cons]; omega), if_pos (by simp only [List.length_cons]; omega)]
  simp only [Option.bind_some]
  rw [if_pos (by omega), if_pos (by rw [seenL_length]; omega), if_pos (by rw [seenL_rd p x hx]; exact hp)]
  rfl
/-- A point that is met first. -/
theorem bfs_new (hT : Inv N T) (hB : Inv N B) (hN : N ≤ 1000) (k : Nat) (P C : List (List Int)) (p : Nat → Bool) (own : List Nat) (pa : Bool) (x : Nat) (q : List Nat) (a b : Int) (hx : x < N) (hp : p x = false) (ho : own.length ≤ 1000) (hq : q.length ≤ 100000)
    (t u : Nat) (ht : rd T (x : Int) = (t : Int)) (hu : rd B (x : Int) = (u : Int)) :
    impl_Seaweed_groups.l1 (k + 2) T B P C (seenL N p) (castL own) pa (castL (x :: q)) a b = impl_Seaweed_groups.l1 k T B P C (seenL N (fun y => p y || y == x)) (castL (own ++ [x])) (pa || endB T B x) (castL (q ++ [t, u])) a b := by
  have hj : ∀ pa', impl_Seaweed_groups.j2 (k + 1) T B P C (seenL N (fun y => p y || y == x)) (castL own) pa' (castL q) (x : Int) a b = impl_Seaweed_groups.l1 k T B P C (seenL N (fun y => p y || y == x)) (castL (own ++ [x])) pa' (castL (q ++ [t, u])) a b := by
    intro pa'
    simp only [impl_Seaweed_groups.j2, Option.bind_some]
    rw [if_pos (by rw [castL_length]; simp; omega), if_pos (by omega), if_pos (by rw [hT.len]; omega), if_pos (by rw [hB.len]; omega), if_pos (by rw [castL_length]; simp; omega), ht, hu]
    congr 1
    · simp [castL]
    · simp [castL]
  rw [show k + 2 = (k + 1) + 1 from rfl]
  rw [impl_Seaweed_groups.l1]
  rw [rd_cast0, castL_length, if_pos (by simp only [List.length_cons]; omega), if_pos (by simp only [List.length_cons]; omega), if_pos (by simp only [List.length_cons]; omega)]
  simp only [Option.bind_some]
  rw [if_pos (by omega), if_pos (by rw [seenL_length]; omega), if_neg (by rw [seenL_rd p x hx, hp]; simp), seenL_set]
  rw [show (castL (x :: q)).drop (1 : Int).toNat = castL q from rfl]
  cases pa
  · rw [if_neg (by simp), if_pos (by rw [hT.len]; omega), ht]
    by_cases c : (t : Int) = (x : Int)
    · rw [if_pos c, hj]
      simp [endB, ht, c]
    · rw [if_neg c, if_pos (by rw [hB.len]; omega), hj]
      have : ((u : Int) == (x : Int)) = decide ((u : Int) = (x : Int)) := by rw [Bool.eq_iff_iff]; simp
      simp [endB, ht, hu, this, c]
  · rw [if_pos rfl, hj]
    simp
end
/-! ### the program's search -/
section
variable {N : Nat} {T B : List Int}
/-- What the search knows: own: met and left; q: met, still to be left. -/
structure Bfs (N : Nat) (T B : List Int) (i : Nat) (p0 : Nat → Bool) (own q : List Nat) : Prop where
  nodup : own.Nodup
  ownR : ∀ x ∈ own, x < N ∧ Reach N T B i x
  qR : ∀ x ∈ q, x < N ∧ Reach N T B i x
  stepT : ∀ x ∈ own, ∀ m : Nat, rd T (x : Int) = (m : Int) → m ∈ own ∨ m ∈ q
  stepB : ∀ x ∈ own, ∀ m : Nat, rd B (x : Int) = (m : Int) → m ∈ own ∨ m ∈ q
  here : i ∈ own ∨ i ∈ q
  away : ∀ x ∈ own, p0 x = false
theorem nodup_len {own : List Nat} (h : own.Nodup) (hl : ∀ x ∈ own, x < N) : own.length ≤ N := by
  have hp : own.Perm ((List.range N).filter fun x => own.contains x) := by
    refine (List.perm_ext_iff_of_nodup h (List.Pairwise.filter _ List.nodup_range)).2 (fun x => ?_)
    simp only [List.mem_filter, List.mem_range, List.contains_iff_mem]
    exact ⟨fun hx => ⟨hl x hx, hx⟩, fun hx => hx.2⟩
  rw [hp.length_eq]
  have := List.length_filter_le (fun x => own.contains x) (List.range N)
  simpa using this
theorem bfs (hT : Inv N T) (hB : Inv N B) (hN : N ≤ 1000) (i : Nat) (hi : i < N) (p0 : Nat → Bool) (h0 : ∀ x, Reach N T B i x → p0 x = false) (P C : List (List Int)) (a b : Int) (M : Nat) : M ≤ 100000 →
    ∀ (k : Nat) (own q : List Nat), Bfs N T B i p0 own q → 3 * (N - own.length) + q.length ≤ M → 2 * M < k →
    ∃ k' own', k ≤ k' + 2 * M + 1 ∧ k' < k ∧ own'.Nodup ∧ (∀ x, x ∈ own' ↔ Reach N T B i x) ∧
      impl_Seaweed_groups.l1 k T B P C (seenL N (fun y => p0 y || own.contains y)) (castL own) (own.any (endB T B)) (castL q) a b =
      impl_Seaweed_groups.l1 (k' + 1) T B P C (seenL N (fun y => p0 y || own'.contains y)) (castL own') (own'.any (endB T B)) (castL []) a b := by
  induction M with
  | zero =>
    intro _ k own q hs hm hk
    have hq : q = [] := List.eq_nil_of_length_eq_zero (by omega)
    subst hq
    obtain ⟨k, rfl⟩ : ∃ m, k = m + 1 := ⟨k - 1, by omega⟩
    refine ⟨k, own, by omega, by omega, hs.nodup, fun x => ⟨fun hx => (hs.ownR x hx).2, fun hr => ?_⟩, rfl⟩
    induction hr with
    | refl => simpa using hs.here
    | top _ _ he ih => simpa using hs.stepT _ ih _ he
    | bot _ _ he ih => simpa using hs.stepB _ ih _ he
  | succ M ih0 =>
    intro hM k own q hs hm hk
    have ih := ih0 (by omega)
    cases q with
    | nil =>
      obtain ⟨k, rfl⟩ : ∃ m, k = m + 1 := ⟨k - 1, by omega⟩
      refine ⟨k, own, by omega, by omega, hs.nodup, fun x => ⟨fun hx => (hs.ownR x hx).2, fun hr => ?_⟩, rfl⟩
      induction hr with
      | refl => simpa using hs.here
      | top _ _ he ih => simpa using hs.stepT _ ih _ he
      | bot _ _ he ih => simpa using hs.stepB _ ih _ he
    | cons x q =>
      obtain ⟨hxN, hxR⟩ := hs.qR x List.mem_cons_self
      have hp0 := h0 x hxR
      have hol := nodup_len hs.nodup (fun y hy => (hs.ownR y hy).1)
      simp only [List.length_cons] at hm
      by_cases c : own.contains x = true
      · obtain ⟨k, rfl⟩ : ∃ m, k = m + 1 := ⟨k - 1, by omega⟩
        have hxo : x ∈ own := by simpa using c
        rw [bfs_skip hT hN k P C _ _ _ x q a b hxN (by rw [c]; simp)]
        have hs' : Bfs N T B i p0 own q := ⟨hs.nodup, hs.ownR, fun y hy => hs.qR y (List.mem_cons_of_mem _ hy),
          fun y hy m he => (hs.stepT y hy m he).elim .inl (fun h => (List.mem_cons.1 h).elim (fun e => .inl (e ▸ hxo)) .inr),
          fun y hy m he => (hs.stepB y hy m he).elim .inl (fun h => (List.mem_cons.1 h).elim (fun e => .inl (e ▸ hxo)) .inr),
          hs.here.elim .inl (fun h => (List.mem_cons.1 h).elim (fun e => .inl (e ▸ hxo)) .inr), hs.away⟩
        obtain ⟨k', own', h1, h2, h3, h4, h5⟩ := ih k own q hs' (by omega) (by omega)
        exact ⟨k', own', by omega, by omega, h3, h4, h5⟩
      · have c' := Bool.eq_false_iff.2 c
        have hxo : x ∉ own := by simpa using c'
        obtain ⟨k, rfl⟩ : ∃ m, k = m + 2 := ⟨k - 2, by omega⟩
        obtain ⟨t, ht1, ht2, ht3⟩ := hT.rng x hxN
        obtain ⟨u, hu1, hu2, hu3⟩ := hB.rng x hxN
        have hol2 : own.length < N := by
          have := nodup_len (N := N) (own := x :: own) (List.nodup_cons.2 ⟨hxo, hs.nodup⟩) (fun y hy => (List.mem_cons.1 hy).elim (fun e => e ▸ hxN) (fun h => (hs.ownR y h).1))
          simp only [List.length_cons] at this
          omega
        have hql : q.length ≤ 100000 := by omega
        · rw [bfs_new hT hB hN k P C _ own _ x q a b hxN (by rw [c', hp0]; rfl) (by omega) hql t u ht2 hu2]
          have hs' : Bfs N T B i p0 (own ++ [x]) (q ++ [t, u]) := by
            refine ⟨?_, ?_, ?_, ?_, ?_, ?_, ?_⟩
            · rw [List.nodup_append]
              refine ⟨hs.nodup, by simp, fun y hy z hz => ?_⟩
              simp only [List.mem_singleton] at hz
              subst hz
              intro e
              exact hxo (e ▸ hy)
            · intro y hy
              rcases List.mem_append.1 hy with h | h
              · exact hs.ownR y h
              · simp only [List.mem_singleton] at h
                subst h
                exact ⟨hxN, hxR⟩
            · intro y hy
              rcases List.mem_append.1 hy with h | h
              · exact hs.qR y (List.mem_cons_of_mem _ h)
              · simp only [List.mem_cons, List.not_mem_nil, or_false] at h
                rcases h with rfl | rfl
                · exact ⟨ht1, .top hxR hxN ht2⟩
                · exact ⟨hu1, .bot hxR hxN hu2⟩
            · intro y hy m he
              rcases List.mem_append.1 hy with h | h
              · rcases hs.stepT y h m he with h | h
                · exact .inl (List.mem_append_left _ h)
                · rcases List.mem_cons.1 h with rfl | h
                  · exact .inl (by simp)
                  · exact .inr (List.mem_append_left _ h)
              · simp only [List.mem_singleton] at h
                subst h
                obtain rfl : t = m := by omega
                exact .inr (by simp)
            · intro y hy m he
              rcases List.mem_append.1 hy with h | h
              · rcases hs.stepB y h m he with h | h
                · exact .inl (List.mem_append_left _ h)
                · rcases List.mem_cons.1 h with rfl | h
                  · exact .inl (by simp)
                  · exact .inr (List.mem_append_left _ h)
              · simp only [List.mem_singleton] at h
                subst h
                obtain rfl : u = m := by omega
                exact .inr (by simp)
            · rcases hs.here with h | h
              · exact .inl (List.mem_append_left _ h)
              · rcases List.mem_cons.1 h with rfl | h
                · exact .inl (by simp)
                · exact .inr (List.mem_append_left _ h)
            · intro y hy
              rcases List.mem_append.1 hy with h | h
              · exact hs.away y h
              · simp only [List.mem_singleton] at h
                subst h
                exact hp0
          obtain ⟨k', own', h1, h2, h3, h4, h5⟩ := ih k (own ++ [x]) (q ++ [t, u]) hs' (by simp only [List.length_append, List.length_cons, List.length_nil]; omega) (by omega)
          refine ⟨k', own', by omega, by omega, h3, h4, ?_⟩
          rw [← h5]
          congr 1
          · congr 1
            funext y
            have : (own ++ [x]).contains y = (own.contains y || y == x) := by
              rw [Bool.eq_iff_iff]
              simp
            rw [this, Bool.or_assoc]
          · simp
open Classical in
/-- The points that are reached from i, in order. -/
noncomputable def cls (N : Nat) (T B : List Int) (i : Nat) : List Nat := (List.range N).filter fun j => decide (Reach N T B i j)
theorem mem_cls (hT : Inv N T) (hB : Inv N B) {i : Nat} (hi : i < N) (x : Nat) : x ∈ cls N T B i ↔ Reach N T B i x := by
  simp only [cls, List.mem_filter, List.mem_range, decide_eq_true_eq]
  exact ⟨fun h => h.2, fun h => ⟨h.lt hT hB hi, h⟩⟩
theorem cls_nodup (i : Nat) : (cls N T B i).Nodup := List.Pairwise.filter _ List.nodup_range
theorem cls_length (i : Nat) : (cls N T B i).length ≤ N := by
  have := List.length_filter_le (fun j => @decide (Reach N T B i j) (Classical.propDecidable _)) (List.range N)
  simpa [cls] using this
theorem cls_sorted (i : Nat) : (castL (cls N T B i)).Pairwise (fun x y => x ≤ y) := by
  unfold castL
  rw [List.pairwise_map]
  have h : (List.range N).Pairwise (fun x y => x ≤ y) := List.Pairwise.imp (fun h => Nat.le_of_lt h) List.pairwise_lt_range
  exact (List.Pairwise.filter _ h).imp (fun h => by omega)
theorem sort_cls (hT : Inv N T) (hB : Inv N B) {i : Nat} (hi : i < N) (own : List Nat) (hd : own.Nodup) (hm : ∀ x, x ∈ own ↔ Reach N T B i x) : sortI (castL own) = castL (cls N T B i) := by
  have hp : own.Perm (cls N T B i) := (List.perm_ext_iff_of_nodup hd (cls_nodup i)).2 (fun x => (hm x).trans (mem_cls hT hB hi x).symm)
  have h1 : (sortI (castL own)).Perm (castL (cls N T B i)) := (List.mergeSort_perm _ _).trans (hp.map _)
  have h2 : (sortI (castL own)).Pairwise (fun x y => x ≤ y) := by
    have := List.pairwise_mergeSort (le := fun x y : Int => decide (x ≤ y)) (by intro a b c h1 h2; simp only [decide_eq_true_eq] at *; omega) (by intro a b; simp only [Bool.or_eq_true, decide_eq_true_eq]; omega) (castL own)
    exact this.imp (fun h => by simpa using h)
  exact h1.eq_of_pairwise (fun a b _ _ h1 h2 => by omega) h2 (cls_sorted i)
end
/-! ### the groups, in the order of their first points -/
section
variable {N : Nat} {T B : List Int}
open Classical in
/-- Is a point reached from an earlier start? -/
noncomputable def sp (N : Nat) (T B : List Int) (i : Nat) (x : Nat) : Bool := decide (∃ j, j < i ∧ Reach N T B j x)
theorem sp_iff (i x : Nat) : sp N T B i x = true ↔ ∃ j, j < i ∧ Reach N T B j x := by simp [sp]
noncomputable def outP (N : Nat) (T B : List Int) : Nat → List (List Int) × List (List Int)
  | 0 => ([], [])
  | i + 1 => if sp N T B i i = true then outP N T B i else if (cls N T B i).any (endB T B) = true then ((outP N T B i).1 ++ [castL (cls N T B i)], (outP N T B i).2) else ((outP N T B i).1, (outP N T B i).2 ++ [castL (cls N T B i)])
theorem outP_succ (i : Nat) : outP N T B (i + 1) = if sp N T B i i = true then outP N T B i else if (cls N T B i).any (endB T B) = true then ((outP N T B i).1 ++ [castL (cls N T B i)], (outP N T B i).2) else ((outP N T B i).1, (outP N T B i).2 ++ [castL (cls N T B i)]) := rfl
theorem outP_length (i : Nat) : (outP N T B i).1.length + (outP N T B i).2.length ≤ i := by
  induction i with
  | zero => simp [outP]
  | succ i ih =>
    unfold outP
    split
    · omega
    · split <;> simp only [List.length_append, List.length_cons, List.length_nil] <;> omega
theorem outP_rows (i : Nat) : (∀ x ∈ (outP N T B i).1, x.length ≤ N) ∧ ∀ x ∈ (outP N T B i).2, x.length ≤ N := by
  induction i with
  | zero => simp [outP]
  | succ i ih =>
    have hc : (castL (cls N T B i)).length ≤ N := by rw [castL_length]; exact cls_length i
    unfold outP
    split
    · exact ih
    · split
      · refine ⟨fun x hx => ?_, ih.2⟩
        rcases List.mem_append.1 hx with h | h
        · exact ih.1 x h
        · simp only [List.mem_singleton] at h
          subst h
          exact hc
      · refine ⟨ih.1, fun x hx => ?_⟩
        rcases List.mem_append.1 hx with h | h
        · exact ih.2 x h
        · simp only [List.mem_singleton] at h
          subst h
          exact hc
theorem sp_old (i : Nat) (h : sp N T B i i = true) : sp N T B (i + 1) = sp N T B i := by
  funext x
  rw [Bool.eq_iff_iff, sp_iff, sp_iff]
  constructor
  · rintro ⟨j, hj, hr⟩
    rcases Nat.lt_succ_iff_lt_or_eq.1 hj with h1 | h1
    · exact ⟨j, h1, hr⟩
    · subst h1
      obtain ⟨q, hq, hr2⟩ := (sp_iff _ _).1 h
      exact ⟨q, hq, hr2.trans hr⟩
  · rintro ⟨j, hj, hr⟩
    exact ⟨j, by omega, hr⟩
theorem sp_new (i : Nat) (x : Nat) : sp N T B (i + 1) x = true ↔ sp N T B i x = true ∨ Reach N T B i x := by
  rw [sp_iff, sp_iff]
  constructor
  · rintro ⟨j, hj, hr⟩
    rcases Nat.lt_succ_iff_lt_or_eq.1 hj with h1 | h1
    · exact .inl ⟨j, h1, hr⟩
    · subst h1
      exact .inr hr
  · rintro (⟨j, hj, hr⟩ | hr)
    · exact ⟨j, by omega, hr⟩
    · exact ⟨i, by omega, hr⟩
theorem sp_away (hT : Inv N T) (hB : Inv N B) (i : Nat) (h : sp N T B i i = false) (x : Nat) (hx : Reach N T B i x) : sp N T B i x = false := by
  rw [Bool.eq_false_iff] at h ⊢
  intro h2
  obtain ⟨j, hj, hr⟩ := (sp_iff _ _).1 h2
  exact h ((sp_iff _ _).2 ⟨j, hj, hr.trans (hx.symm hT hB)⟩)
theorem groups_l0 (hT : Inv N T) (hB : Inv N B) (hN : N ≤ 1000) (d : Nat) : ∀ (k i : Nat), i ≤ N → N - i = d → d * (6 * N + 6) < k →
    impl_Seaweed_groups.l0 k T B (outP N T B i).1 (outP N T B i).2 (seenL N (sp N T B i)) (N : Int) (i : Int) = some (outP N T B N) := by
  induction d with
  | zero =>
    intro k i h0 hd hk
    obtain ⟨k, rfl⟩ : ∃ m, k = m + 1 := ⟨k - 1, by omega⟩
    simp only [impl_Seaweed_groups.l0]
    obtain rfl : i = N := by omega
    rw [if_neg (by omega)]
  | succ d ih =>
    intro k i h0 hd hk
    rw [Nat.succ_mul] at hk
    obtain ⟨k, rfl⟩ : ∃ m, k = m + 1 := ⟨k - 1, by omega⟩
    have hi : i < N := by omega
    simp only [impl_Seaweed_groups.l0]
    rw [if_pos (by omega), if_pos (by omega), if_pos (by rw [seenL_length]; omega), seenL_rd _ i hi]
    by_cases c : sp N T B i i = true
    · rw [if_pos c, cl_w1 (by omega) (by omega)]
      have h := ih k (i + 1) (by omega) (by omega) (by omega)
      rw [sp_old i c, outP_succ i, if_pos c] at h
      exact h
    · rw [if_neg c]
      have c' := Bool.eq_false_iff.2 c
      have hs : Bfs N T B i (sp N T B i) [] [i] := ⟨List.nodup_nil, (fun x hx => absurd hx List.not_mem_nil), (fun x hx => by simp only [List.mem_singleton] at hx; subst hx; exact ⟨hi, .refl⟩), (fun x hx => absurd hx List.not_mem_nil), (fun x hx => absurd hx List.not_mem_nil), .inr (by simp), (fun x hx => absurd hx List.not_mem_nil)⟩
      obtain ⟨k', own, h1, h2, h3, h4, h5⟩ := bfs hT hB hN i hi (sp N T B i) (sp_away hT hB i c') (outP N T B i).1 (outP N T B i).2 (N : Int) (i : Int) (3 * N + 1) (by omega) k [] [i] hs (by simp) (by omega)
      have e1 : (fun y => sp N T B i y || ([] : List Nat).contains y) = sp N T B i := by funext y; simp
      rw [e1] at h5
      have e2 : (castL [i]) = [(i : Int)] := rfl
      have e3 : castL [] = [] := rfl
      rw [e2, e3] at h5
      simp only [List.any_nil] at h5
      rw [h5]
      have e4 : (fun y => sp N T B i y || own.contains y) = sp N T B (i + 1) := by
        funext y
        rw [Bool.eq_iff_iff, sp_new]
        simp [h4]
      have hal : own.any (endB T B) = (cls N T B i).any (endB T B) := by
        rw [Bool.eq_iff_iff, List.any_eq_true, List.any_eq_true]
        constructor
        · rintro ⟨x, hx, he⟩
          exact ⟨x, (mem_cls hT hB hi x).2 ((h4 x).1 hx), he⟩
        · rintro ⟨x, hx, he⟩
          exact ⟨x, (h4 x).2 ((mem_cls hT hB hi x).1 hx), he⟩
      rw [e4, hal]
      have hol := nodup_len h3 (fun x hx => ((h4 x).1 hx).lt hT hB hi)
      have hsort : slices_Sort_int_int.f (castL own) = some (castL (cls N T B i)) := by
        unfold slices_Sort_int_int.f
        rw [if_pos (by rw [castL_length]; omega), sort_cls hT hB hi own h3 h4]
      simp only [impl_Seaweed_groups.l1]
      rw [if_neg (show ¬ ((([] : List Int).length : Int) > 0) by simp), hsort]
      simp only [Option.bind_some]
      have hol2 := outP_length (N := N) (T := T) (B := B) i
      have h := ih k' (i + 1) (by omega) (by omega) (by omega)
      rw [outP_succ i, if_neg c] at h
      rw [cl_w1 (by omega) (by omega)]
      by_cases hp : (cls N T B i).any (endB T B) = true
      · rw [if_pos hp, if_pos (by omega)]
        rw [if_pos hp] at h
        exact h
      · rw [if_neg hp, if_pos (by omega)]
        rw [if_neg hp] at h
        exact h

/-! ### bits -/
theorem bit_read (m j : Nat) (hj : j < 64) : (Int.tmod (shr .i64 (m : Int) (j : Int)) 2 = 1) ↔ m.testBit j = true := by
  have h1 : shr .i64 (m : Int) (j : Int) = ((m / 2 ^ j : Nat) : Int) := by
    simp only [shr, Int.toNat_natCast]
    rw [show min j IntKind.i64.bits = j from Nat.min_eq_left (by show j ≤ 64; omega)]
    simp
  rw [h1, Nat.testBit_eq_decide_div_mod_eq]
  simp only [decide_eq_true_eq]
  rw [show ((2 : Int)) = ((2 : Nat) : Int) from rfl, ← Int.ofNat_tmod]
  omega
theorem bit_shl (j : Nat) (hj : j < 62) : shl .i64 1 (j : Int) = ((2 ^ j : Nat) : Int) := by
  simp only [shl, Int.toNat_natCast]
  rw [show min j IntKind.i64.bits = j from Nat.min_eq_left (by show j ≤ 64; omega)]
  have h2 : (2 : Nat) ^ j ≤ 4611686018427387904 := Nat.le_trans (Nat.pow_le_pow_right (by decide) (show j ≤ 62 by omega)) (by decide)
  rw [IntKind.wrap_i64, Int.one_mul, show ((2 : Int) ^ j) = ((2 ^ j : Nat) : Int) by simp]
  generalize 2 ^ j = z at h2 ⊢
  omega
theorem bit_or (a b : Nat) (ha : a < 2 ^ 62) (hb : b < 2 ^ 62) : Go.bits .or .i64 (a : Int) (b : Int) = ((a ||| b : Nat) : Int) :=
  (bits_nat .i64 62 (by decide) (fun n h0 h1 => by
                                                       have e : (2 : Int) ^ 62 = 4611686018427387904 := by decide
                                                       rw [e] at h1
                                                       rw [IntKind.wrap_i64]
                                                       omega) a b ha hb).2
/-- A point's neighbours are taken in. -/
def stepM (T B : List Int) (m j : Nat) : Nat := if m.testBit j = true then m ||| (2 ^ (rd T (j : Int)).toNat ||| 2 ^ (rd B (j : Int)).toNat) else m
def roundM (T B : List Int) (m j n : Nat) : Nat := (List.range' j n).foldl (stepM T B) m
theorem stepM_mono (m j q : Nat) (h : m.testBit q = true) : (stepM T B m j).testBit q = true := by
  unfold stepM
  split
  · rw [Nat.testBit_or, h]; rfl
  · exact h
theorem stepM_lt (hT : Inv N T) (hB : Inv N B) (m j : Nat) (hj : j < N) (hm : m < 2 ^ N) : stepM T B m j < 2 ^ N := by
  unfold stepM
  split
  · obtain ⟨t, ht, et, _⟩ := hT.rng j hj
    obtain ⟨u, hu, eu, _⟩ := hB.rng j hj
    rw [et, eu, Int.toNat_natCast, Int.toNat_natCast]
    exact Nat.or_lt_two_pow hm (Nat.or_lt_two_pow (Nat.pow_lt_pow_right (by decide) ht) (Nat.pow_lt_pow_right (by decide) hu))
  · exact hm
theorem roundM_cons (m j n : Nat) : roundM T B m j (n + 1) = roundM T B (stepM T B m j) (j + 1) n := by simp [roundM, List.range'_succ]
theorem roundM_mono (n : Nat) : ∀ (m j q : Nat), m.testBit q = true → (roundM T B m j n).testBit q = true := by
  induction n with
  | zero => intro m j q h; exact h
  | succ n ih => intro m j q h; rw [roundM_cons]; exact ih _ _ _ (stepM_mono _ _ _ h)
theorem roundM_lt (hT : Inv N T) (hB : Inv N B) (n : Nat) : ∀ (m j : Nat), j + n ≤ N → m < 2 ^ N → roundM T B m j n < 2 ^ N := by
  induction n with
  | zero => intro m j _ h; exact h
  | succ n ih => intro m j hj h; rw [roundM_cons]; exact ih _ _ (by omega) (stepM_lt hT hB m j (by omega) h)
theorem roundM_sound (hT : Inv N T) (hB : Inv N B) (i n : Nat) : ∀ (m j : Nat), j + n ≤ N → (∀ q, m.testBit q = true → Reach N T B i q) → ∀ q, (roundM T B m j n).testBit q = true → Reach N T B i q := by
  induction n with
  | zero => intro m j _ h; exact h
  | succ n ih =>
    intro m j hj h
    rw [roundM_cons]
    refine ih _ _ (by omega) (fun q hq => ?_)
    unfold stepM at hq
    split at hq
    · rename_i hb
      rw [Nat.testBit_or, Nat.testBit_or, Bool.or_eq_true, Bool.or_eq_true] at hq
      obtain ⟨t, ht, et, _⟩ := hT.rng j (by omega)
      obtain ⟨u, hu, eu, _⟩ := hB.rng j (by omega)
      rw [et, eu, Int.toNat_natCast, Int.toNat_natCast, Nat.testBit_two_pow, Nat.testBit_two_pow] at hq
      simp only [decide_eq_true_eq] at hq
      rcases hq with hq | hq | hq
      · exact h q hq
      · subst hq; exact .top (h j hb) (by omega) et
      · subst hq; exact .bot (h j hb) (by omega) eu
    · exact h q hq
theorem roundM_closes (n : Nat) : ∀ (m j q : Nat), j ≤ q → q < j + n → m.testBit q = true → (roundM T B m j n).testBit (rd T (q : Int)).toNat = true ∧ (roundM T B m j n).testBit (rd B (q : Int)).toNat = true := by
  induction n with
  | zero => intro m j q h1 h2; omega
  | succ n ih =>
    intro m j q h1 h2 h
    rw [roundM_cons]
    by_cases c : j = q
    · subst c
      constructor
      · refine roundM_mono n _ _ _ ?_
        unfold stepM
        rw [if_pos h, Nat.testBit_or, Nat.testBit_or, Nat.testBit_two_pow_self]
        simp
      · refine roundM_mono n _ _ _ ?_
        unfold stepM
        rw [if_pos h, Nat.testBit_or, Nat.testBit_or, Nat.testBit_two_pow_self (n := (rd B (j : Int)).toNat)]
        simp
    · exact ih _ _ q (by omega) (by omega) (stepM_mono _ _ _ h)
def roundsM (T B : List Int) (N : Nat) : Nat → Nat → Nat
  | 0, m => m
  | c + 1, m => roundsM T B N c (roundM T B m 0 N)
theorem countP_grows {p q : Nat → Bool} : ∀ (l : List Nat), (∀ x ∈ l, p x = true → q x = true) → l.countP p ≤ l.countP q ∧ ((∃ x ∈ l, p x = false ∧ q x = true) → l.countP p < l.countP q)
  | [], _ => by simp
  | y :: l, h => by
    obtain ⟨h1, h2⟩ := countP_grows l (fun x hx => h x (List.mem_cons_of_mem _ hx))
    have h3 := h y List.mem_cons_self
    simp only [List.countP_cons]
    cases hp : p y <;> cases hq : q y
    · simp only [Bool.false_eq_true, if_false]
      refine ⟨by omega, ?_⟩
      rintro ⟨x, hx, hx2⟩
      rcases List.mem_cons.1 hx with rfl | hx
      · rw [hq] at hx2; simp at hx2
      · have := h2 ⟨x, hx, hx2⟩; omega
    · simp only [Bool.false_eq_true, if_false, if_true]
      exact ⟨by omega, fun _ => by omega⟩
    · rw [hp, hq] at h3; simp at h3
    · simp only [if_true]
      refine ⟨by omega, ?_⟩
      rintro ⟨x, hx, hx2⟩
      rcases List.mem_cons.1 hx with rfl | hx
      · rw [hp] at hx2; simp at hx2
      · have := h2 ⟨x, hx, hx2⟩; omega
def closedM (N : Nat) (T B : List Int) (m : Nat) : Prop := ∀ q, q < N → m.testBit q = true → m.testBit (rd T (q : Int)).toNat = true ∧ m.testBit (rd B (q : Int)).toNat = true
theorem roundM_same (m : Nat) (h : closedM N T B m) (n : Nat) : ∀ j, j + n ≤ N → roundM T B m j n = m := by
  induction n with
  | zero => intro j _; rfl
  | succ n ih =>
    intro j hj
    have hs : stepM T B m j = m := by
      unfold stepM
      split
      · rename_i hb
        obtain ⟨h1, h2⟩ := h j (by omega) hb
        apply Nat.eq_of_testBit_eq
        intro q
        rw [Nat.testBit_or, Nat.testBit_or, Nat.testBit_two_pow, Nat.testBit_two_pow]
        by_cases c1 : (rd T (j : Int)).toNat = q
        · subst c1; rw [h1]; rfl
        · by_cases c2 : (rd B (j : Int)).toNat = q
          · subst c2; rw [h2]; simp
          · simp [c1, c2]
      · rfl
    rw [roundM_cons, hs]
    exact ih (j + 1) (by omega)
theorem rounds_end (hT : Inv N T) (hB : Inv N B) (i : Nat) (c : Nat) : ∀ m, m < 2 ^ N → (∀ q, m.testBit q = true → Reach N T B i q) → m.testBit i = true → (closedM N T B m ∨ N < (List.range N).countP m.testBit + c) →
    roundsM T B N c m < 2 ^ N ∧ (∀ q, (roundsM T B N c m).testBit q = true → Reach N T B i q) ∧ (roundsM T B N c m).testBit i = true ∧ closedM N T B (roundsM T B N c m) := by
  induction c with
  | zero =>
    intro m h1 h2 h3 h4
    refine ⟨h1, h2, h3, ?_⟩
    rcases h4 with h4 | h4
    · exact h4
    · have := List.countP_le_length (p := m.testBit) (l := List.range N)
      simp only [List.length_range] at this
      omega
  | succ c ih =>
    intro m h1 h2 h3 h4
    refine ih (roundM T B m 0 N) (roundM_lt hT hB N m 0 (by omega) h1) (roundM_sound hT hB i N m 0 (by omega) h2) (roundM_mono N m 0 i h3) ?_
    by_cases hc : closedM N T B m
    · left
      rw [roundM_same m hc N 0 (by omega)]
      exact hc
    · right
      have h5 : N < (List.range N).countP m.testBit + (c + 1) := h4.resolve_left hc
      have h6 : ∃ x ∈ List.range N, m.testBit x = false ∧ (roundM T B m 0 N).testBit x = true := by
        apply Classical.byContradiction
        intro hn
        apply hc
        intro q hq hb
        obtain ⟨g1, g2⟩ := roundM_closes (T := T) (B := B) N m 0 q (by omega) (by omega) hb
        obtain ⟨t, ht, et, _⟩ := hT.rng q hq
        obtain ⟨u, hu, eu, _⟩ := hB.rng q hq
        rw [et, Int.toNat_natCast] at g1
        rw [eu, Int.toNat_natCast] at g2
        rw [et, eu, Int.toNat_natCast, Int.toNat_natCast]
        constructor
        · cases hx : m.testBit t
          · exact absurd ⟨t, List.mem_range.2 ht, hx, g1⟩ hn
          · rfl
        · cases hx : m.testBit u
          · exact absurd ⟨u, List.mem_range.2 hu, hx, g2⟩ hn
          · rfl
      have h7 := (countP_grows (p := m.testBit) (q := (roundM T B m 0 N).testBit) (List.range N) (fun x _ hx => roundM_mono N m 0 x hx)).2 h6
      omega
theorem rounds_reach (hT : Inv N T) (hB : Inv N B) (i : Nat) (hi : i < N) : roundsM T B N N (2 ^ i) < 2 ^ N ∧ ∀ q, (roundsM T B N N (2 ^ i)).testBit q = true ↔ Reach N T B i q := by
  have hpos : 0 < (List.range N).countP (2 ^ i).testBit := List.countP_pos_iff.2 ⟨i, List.mem_range.2 hi, Nat.testBit_two_pow_self⟩
  obtain ⟨h1, h2, h3, h4⟩ := rounds_end hT hB i N (2 ^ i) (Nat.pow_lt_pow_right (by decide) hi) (fun q hq => by
    rw [Nat.testBit_two_pow, decide_eq_true_eq] at hq
    subst hq
    exact .refl) Nat.testBit_two_pow_self (.inr (by omega))
  refine ⟨h1, fun q => ⟨h2 q, fun hr => ?_⟩⟩
  induction hr with
  | refl => exact h3
  | top _ hj he ih => have := (h4 _ hj ih).1; rwa [he, Int.toNat_natCast] at this
  | bot _ hj he ih => have := (h4 _ hj ih).2; rwa [he, Int.toNat_natCast] at this
end
/-! ### the reference's search -/
section
variable {N : Nat} {T B : List Int}
theorem pow62 (hN : N ≤ 20) {m : Nat} (h : m < 2 ^ N) : m < 2 ^ 62 := Nat.lt_of_lt_of_le h (Nat.pow_le_pow_right (by decide) (by omega))
theorem spec_l2 (hT : Inv N T) (hB : Inv N B) (hN : N ≤ 20) (x1 : Bool) (out : List (List Int)) (seen x11 x23 x24 : Int) (n : Nat) : ∀ (k j m : Nat), j + n = N → m < 2 ^ N → n < k →
    ∃ k', k = k' + n + 1 ∧ spec_swTogether.l2 k x1 T B out seen (m : Int) x11 x23 x24 (N : Int) (j : Int) = spec_swTogether.l1 k' x1 T B out seen ((roundM T B m j n : Nat) : Int) (wrap64 (x11 + 1)) x23 x24 := by
  induction n with
  | zero =>
    intro k j m hj hm hk
    obtain ⟨k, rfl⟩ : ∃ m, k = m + 1 := ⟨k - 1, by omega⟩
    refine ⟨k, by omega, ?_⟩
    simp only [spec_swTogether.l2]
    rw [if_neg (by omega)]
    rfl
  | succ n ih =>
    intro k j m hj hm hk
    obtain ⟨k, rfl⟩ : ∃ m, k = m + 1 := ⟨k - 1, by omega⟩
    obtain ⟨t, ht, et, _⟩ := hT.rng j (by omega)
    obtain ⟨u, hu, eu, _⟩ := hB.rng j (by omega)
    have hs := stepM_lt hT hB m j (by omega) hm
    obtain ⟨k', hk', h⟩ := ih k (j + 1) (stepM T B m j) (by omega) hs (by omega)
    refine ⟨k', by omega, ?_⟩
    rw [roundM_cons, ← h]
    simp only [spec_swTogether.l2]
    rw [if_pos (by omega), if_pos (by omega)]
    have hb := bit_read m j (by omega)
    unfold stepM
    by_cases c : m.testBit j = true
    · rw [if_pos (hb.2 c), if_pos c, if_pos (by rw [hT.len]; omega), et, if_pos (by omega), if_pos (by rw [hB.len]; omega), eu, if_pos (by omega), bit_shl t (by omega), bit_shl u (by omega),
        bit_or _ _ (Nat.pow_lt_pow_right (by decide) (by omega)) (Nat.pow_lt_pow_right (by decide) (by omega)), bit_or _ _ (pow62 hN hm) (pow62 hN (Nat.or_lt_two_pow (Nat.pow_lt_pow_right (by decide) ht) (Nat.pow_lt_pow_right (by decide) hu))), cl_w1 (i := (j : Int)) (by omega) (by omega), Int.toNat_natCast, Int.toNat_natCast]
      rfl
    · rw [if_neg (fun h => c (hb.1 h)), if_neg c, cl_w1 (i := (j : Int)) (by omega) (by omega)]
      rfl
theorem spec_l1 (hT : Inv N T) (hB : Inv N B) (hN : N ≤ 20) (x1 : Bool) (out : List (List Int)) (s : Nat) (hs : s < 2 ^ N) (x23 x24 : Int) (c : Nat) : ∀ (k m : Nat), c ≤ N → m < 2 ^ N → c * (N + 2) < k →
    ∃ k', k = k' + c * (N + 2) + 1 ∧ spec_swTogether.l1 k x1 T B out (s : Int) (m : Int) ((N - c : Nat) : Int) x23 x24 = spec_swTogether.l3 k' x1 T B out ((s ||| roundsM T B N c m : Nat) : Int) ((roundsM T B N c m : Nat) : Int) [] false x23 x24 (N : Int) 0 := by
  induction c with
  | zero =>
    intro k m hc hm hk
    obtain ⟨k, rfl⟩ : ∃ m, k = m + 1 := ⟨k - 1, by omega⟩
    refine ⟨k, by omega, ?_⟩
    simp only [spec_swTogether.l1]
    rw [if_neg (by rw [hT.len]; omega), hT.len, bit_or _ _ (pow62 hN hs) (pow62 hN hm)]
    rfl
  | succ c ih =>
    intro k m hc hm hk
    rw [Nat.succ_mul] at hk
    obtain ⟨k, rfl⟩ : ∃ m, k = m + 1 := ⟨k - 1, by omega⟩
    have hr := roundM_lt hT hB N m 0 (by omega) hm
    obtain ⟨k1, hk1, h1⟩ := spec_l2 hT hB hN x1 out (s : Int) ((N - (c + 1) : Nat) : Int) x23 x24 N k 0 m (by omega) hm (by omega)
    obtain ⟨k2, hk2, h2⟩ := ih k1 (roundM T B m 0 N) (by omega) hr (by omega)
    refine ⟨k2, by rw [Nat.succ_mul]; omega, ?_⟩
    simp only [spec_swTogether.l1]
    rw [if_pos (by rw [hT.len]; omega), hT.len]
    rw [show spec_swTogether.l2 k x1 T B out (s : Int) (m : Int) ((N - (c + 1) : Nat) : Int) x23 x24 (N : Int) 0 = _ from h1, cl_w1 (by omega) (by omega)]
    rw [show (((N - (c + 1) : Nat) : Int) + 1) = ((N - c : Nat) : Int) by omega]
    exact h2
theorem range_filter (p : Nat → Bool) (j : Nat) : (List.range (j + 1)).filter p = (List.range j).filter p ++ (if p j = true then [j] else []) := by
  rw [List.range_succ, List.filter_append]
  congr 1
  cases hp : p j <;> simp [hp]
theorem spec_l3 (hT : Inv N T) (hB : Inv N B) (hN : N ≤ 20) (x1 : Bool) (out : List (List Int)) (ho : out.length ≤ 1000) (seen : Int) (m : Nat) (x23 x24 : Int) (n : Nat) : ∀ (k j : Nat), j + n = N → n < k →
    ∃ k', k = k' + n + 1 ∧ spec_swTogether.l3 k x1 T B out seen (m : Int) (castL ((List.range j).filter m.testBit)) (((List.range j).filter m.testBit).any (endB T B)) x23 x24 (N : Int) (j : Int) =
      if (((List.range N).filter m.testBit).any (endB T B) == x1) = true then spec_swTogether.l0 k' x1 T B (out ++ [castL ((List.range N).filter m.testBit)]) seen x23 (wrap64 (x24 + 1)) else spec_swTogether.l0 k' x1 T B out seen x23 (wrap64 (x24 + 1)) := by
  induction n with
  | zero =>
    intro k j hj hk
    obtain ⟨k, rfl⟩ : ∃ m, k = m + 1 := ⟨k - 1, by omega⟩
    refine ⟨k, by omega, ?_⟩
    obtain rfl : j = N := by omega
    simp only [spec_swTogether.l3]
    rw [if_neg (by omega)]
    by_cases c : (((List.range j).filter m.testBit).any (endB T B) == x1) = true
    · rw [if_pos c, if_pos c, if_pos (by omega)]
    · rw [if_neg c, if_neg c]
  | succ n ih =>
    intro k j hj hk
    obtain ⟨k, rfl⟩ : ∃ m, k = m + 1 := ⟨k - 1, by omega⟩
    obtain ⟨k', hk', h⟩ := ih k (j + 1) (by omega) (by omega)
    refine ⟨k', by omega, ?_⟩
    rw [← h]
    have hb := bit_read m j (by omega)
    have hlen : (castL ((List.range j).filter m.testBit)).length < 17592186044416 := by
      rw [castL_length]
      have := List.length_filter_le m.testBit (List.range j)
      simp only [List.length_range] at this
      omega
    simp only [spec_swTogether.l3]
    rw [if_pos (by omega), if_pos (by omega), range_filter]
    by_cases c : m.testBit j = true
    · rw [if_pos (hb.2 c), if_pos hlen, if_pos c]
      simp only [Option.bind_some]
      have e1 : castL ((List.range j).filter m.testBit) ++ [(j : Int)] = castL ((List.range j).filter m.testBit ++ [j]) := by simp [castL]
      rw [e1, cl_w1 (by omega) (by omega), List.any_append]
      have e2 : [j].any (endB T B) = endB T B j := by simp
      rw [e2]
      by_cases d : (((List.range j).filter m.testBit).any (endB T B)) = true
      · rw [if_pos d, d]
        simp only [Bool.true_or]
        rfl
      · rw [if_neg d, Bool.eq_false_iff.2 d, if_pos (by rw [hT.len]; omega)]
        simp only [Bool.false_or]
        by_cases f : rd T (j : Int) = (j : Int)
        · rw [if_pos f]
          have : endB T B j = true := by simp [endB, f]
          rw [this]
          rfl
        · rw [if_neg f, if_pos (by rw [hB.len]; omega)]
          have : endB T B j = (rd B (j : Int) == (j : Int)) := by rw [Bool.eq_iff_iff]; simp [endB, f]
          rw [this]
          rfl
    · rw [if_neg (fun h => c (hb.1 h)), if_neg c, cl_w1 (by omega) (by omega)]
      simp only [List.append_nil]
      rfl
def pickP (x1 : Bool) (o : List (List Int) × List (List Int)) : List (List Int) := if x1 = true then o.1 else o.2
theorem filter_cls (hT : Inv N T) (hB : Inv N B) (i : Nat) (m : Nat) (h : ∀ q, m.testBit q = true ↔ Reach N T B i q) : (List.range N).filter m.testBit = cls N T B i := by
  unfold cls
  apply List.filter_congr
  intro x _
  rw [Bool.eq_iff_iff, h x]
  simp
theorem spec_l0 (hT : Inv N T) (hB : Inv N B) (hN : N ≤ 20) (x1 : Bool) (d : Nat) : ∀ (k i s : Nat), i ≤ N → N - i = d → s < 2 ^ N → (∀ q, q < N → s.testBit q = sp N T B i q) → d * (N * (N + 2) + N + 4) < k →
    spec_swTogether.l0 k x1 T B (pickP x1 (outP N T B i)) (s : Int) (N : Int) (i : Int) = some (pickP x1 (outP N T B N)) := by
  induction d with
  | zero =>
    intro k i s h0 hd hs hq hk
    obtain ⟨k, rfl⟩ : ∃ m, k = m + 1 := ⟨k - 1, by omega⟩
    obtain rfl : i = N := by omega
    simp only [spec_swTogether.l0]
    rw [if_neg (by omega)]
  | succ d ih =>
    intro k i s h0 hd hs hq hk
    rw [Nat.succ_mul] at hk
    obtain ⟨k, rfl⟩ : ∃ m, k = m + 1 := ⟨k - 1, by omega⟩
    have hi : i < N := by omega
    simp only [spec_swTogether.l0]
    rw [if_pos (by omega), if_pos (by omega)]
    have hb := bit_read s i (by omega)
    by_cases c : sp N T B i i = true
    · rw [if_pos (hb.2 (by rw [hq i hi]; exact c)), cl_w1 (by omega) (by omega)]
      have h := ih k (i + 1) s (by omega) (by omega) hs (by rw [sp_old i c]; exact hq) (by omega)
      rw [outP_succ i, if_pos c] at h
      exact h
    · rw [if_neg (fun h => c (by rw [← hq i hi]; exact hb.1 h)), bit_shl i (by omega)]
      obtain ⟨k1, hk1, h1⟩ := spec_l1 hT hB hN x1 (pickP x1 (outP N T B i)) s hs (N : Int) (i : Int) N k (2 ^ i) (by omega) (Nat.pow_lt_pow_right (by decide) hi) (by omega)
      obtain ⟨r1, r2⟩ := rounds_reach hT hB i hi
      have ho := outP_length (N := N) (T := T) (B := B) i
      have hpl : (pickP x1 (outP N T B i)).length ≤ 1000 := by unfold pickP; split <;> omega
      obtain ⟨k2, hk2, h2⟩ := spec_l3 hT hB hN x1 (pickP x1 (outP N T B i)) hpl ((s ||| roundsM T B N N (2 ^ i) : Nat) : Int) (roundsM T B N N (2 ^ i)) (N : Int) (i : Int) N k1 0 (by omega) (by omega)
      rw [show (N - N : Nat) = 0 by omega] at h1
      rw [show spec_swTogether.l1 k x1 T B (pickP x1 (outP N T B i)) (s : Int) ((2 ^ i : Nat) : Int) 0 (N : Int) (i : Int) = _ from h1]
      rw [show spec_swTogether.l3 k1 x1 T B (pickP x1 (outP N T B i)) ((s ||| roundsM T B N N (2 ^ i) : Nat) : Int) ((roundsM T B N N (2 ^ i) : Nat) : Int) [] false (N : Int) (i : Int) (N : Int) 0 = _ from h2]
      rw [filter_cls hT hB i _ r2, cl_w1 (by omega) (by omega)]
      have h := ih k2 (i + 1) (s ||| roundsM T B N N (2 ^ i)) (by omega) (by omega) (Nat.or_lt_two_pow hs r1) (fun q hqN => by
        rw [Nat.testBit_or, hq q hqN, Bool.eq_iff_iff, Bool.or_eq_true, r2, sp_new]) (by omega)
      rw [outP_succ i, if_neg c] at h
      cases x1
      · by_cases p : (cls N T B i).any (endB T B) = true
        · rw [p, if_neg (by decide)]
          rw [if_pos p] at h
          exact h
        · rw [Bool.eq_false_iff.2 p, if_pos (by decide)]
          rw [if_neg p] at h
          exact h
      · by_cases p : (cls N T B i).any (endB T B) = true
        · rw [p, if_pos (by decide)]
          rw [if_pos p] at h
          exact h
        · rw [Bool.eq_false_iff.2 p, if_neg (by decide)]
          rw [if_neg p] at h
          exact h
end
/-! ### both together -/
/-- What the two answer of a seaweed: paths and cycles. -/
noncomputable def groupsOf (l0 l1 : List Int) : List (List Int) × List (List Int) := outP (arcsP l0 []).length (arcsP l0 []) (arcsP l1 []) (arcsP l0 []).length
theorem weed_inv {l0 l1 : List Int} (h : weedB l0 l1 = true) : (arcsP l0 []).length ≤ 20 ∧ Inv (arcsP l0 []).length (arcsP l0 []) ∧ Inv (arcsP l0 []).length (arcsP l1 []) := by
  simp only [weedB, Bool.and_eq_true, decide_eq_true_eq] at h
  obtain ⟨h0, h1, hs⟩ := h
  obtain ⟨a1, a2, a3, a4⟩ := parts_sum h0
  obtain ⟨b1, b2, b3, b4⟩ := parts_sum h1
  have e0 := arcsP_length l0 [] (fun x hx => by have := a1 x hx; omega)
  have e1 := arcsP_length l1 [] (fun x hx => by have := b1 x hx; omega)
  simp only [List.length_nil, Int.natCast_zero] at e0 e1
  have nil : Inv ([] : List Int).length [] := ⟨rfl, fun j hj => absurd hj (by simp)⟩
  refine ⟨by omega, inv_arcs l0 [] nil a1, ?_⟩
  have h2 := inv_arcs l1 [] nil b1
  rwa [show (arcsP l1 []).length = (arcsP l0 []).length by omega] at h2
theorem groups_f (l0 l1 : List Int) (h : weedB l0 l1 = true) (k : Nat) (hk : 10000 < k) : impl_Seaweed_groups.f k l0 l1 = some (groupsOf l0 l1) ∧ ∀ b, spec_swTogether.f k l0 l1 b = some (pickP b (groupsOf l0 l1)) := by
  obtain ⟨hN, hT, hB⟩ := weed_inv h
  simp only [weedB, Bool.and_eq_true, decide_eq_true_eq] at h
  obtain ⟨h0, h1, _⟩ := h
  obtain ⟨a1, a2, _, _⟩ := parts_sum h0
  obtain ⟨b1, b2, _, _⟩ := parts_sum h1
  obtain ⟨c1, c2⟩ := arcs_f l0 a1 a2 k (by omega)
  obtain ⟨d1, d2⟩ := arcs_f l1 b1 b2 k (by omega)
  have hz : ∀ x, sp (arcsP l0 []).length (arcsP l0 []) (arcsP l1 []) 0 x = false := by
    intro x
    rw [Bool.eq_false_iff]
    intro hx
    obtain ⟨j, hj, _⟩ := (sp_iff _ _).1 hx
    omega
  unfold groupsOf
  generalize hn : (arcsP l0 []).length = N at *
  have hfu : N * (6 * N + 6) ≤ 20 * 126 := Nat.mul_le_mul hN (by omega)
  have hfu2 : N * (N * (N + 2) + N + 4) ≤ 20 * 464 := Nat.mul_le_mul hN (by have : N * (N + 2) ≤ 20 * 22 := Nat.mul_le_mul hN (by omega); omega)
  refine ⟨?_, fun b => ?_⟩
  · unfold impl_Seaweed_groups.f
    rw [c1, d1]
    simp only [Option.bind_some]
    rw [hn, if_pos (by omega), if_pos (by omega)]
    have := groups_l0 hT hB (by omega) N k 0 (by omega) (by omega) (by omega)
    have e : seenL N (sp N (arcsP l0 []) (arcsP l1 []) 0) = List.replicate ((N : Int)).toNat false := by
      apply List.ext_getElem
      · simp [seenL]
      · intro i h1 h2
        simp [seenL, hz]
    rw [e] at this
    exact this
  · unfold spec_swTogether.f
    rw [c2, d2]
    simp only [Option.bind_some]
    rw [hn]
    have := spec_l0 hT hB hN b N k 0 0 (by omega) (by omega) (Nat.two_pow_pos N) (fun q _ => by rw [hz q]; simp) (by omega)
    cases b <;> exact this
theorem FnExactPathsOf : laws_FnExactPathsOf.Pure := by
  intro l0 l1 _ _ _
  by_cases h : weedB l0 l1 = true
  · obtain ⟨g1, g2⟩ := groups_f l0 l1 h 10001 (by omega)
    obtain ⟨w1, w2⟩ := weed_f l0 l1 10001 (by omega)
    obtain ⟨hN, _, _⟩ := weed_inv h
    have hl := outP_length (N := (arcsP l0 []).length) (T := arcsP l0 []) (B := arcsP l1 []) (arcsP l0 []).length
    have hr := outP_rows (N := (arcsP l0 []).length) (T := arcsP l0 []) (B := arcsP l1 []) (arcsP l0 []).length
    refine ⟨10001, (groupsOf l0 l1).1, true, ?_, ?_, by unfold groupsOf; omega, fun x hx => by have := hr.1 x hx; omega⟩
    · unfold spec_PathsOf.f
      rw [w2, h]
      simp only [Option.bind_some, if_true]
      rw [g2]
      rfl
    · unfold impl_PathsOf.f
      rw [w1, h]
      simp only [Option.bind_some, if_true]
      rw [g1]
      rfl
  · have h' := Bool.eq_false_iff.2 h
    obtain ⟨w1, w2⟩ := weed_f l0 l1 10001 (by omega)
    refine ⟨10001, [], false, ?_, ?_, by simp, fun x hx => absurd hx List.not_mem_nil⟩
    · unfold spec_PathsOf.f
      rw [w2, h']
      simp
    · unfold impl_PathsOf.f
      rw [w1, h']
      simp
end Go.Proofs.Ytmpbbmocdcomcaa.Pure
