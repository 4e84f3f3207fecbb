-- printed by wip/tools/pp.py and joined by wip/tools/merge.py (the session's own call of the kit's printer, with contracts proved by hand)
import Derived.Test.YtnnkjjacpbbigaaMFnExactCountByPieces0
set_option linter.unusedVariables false
set_option linter.unusedSimpArgs false
namespace Go.Proofs.Ytnnkjjacpbbigaa.PB
open Go.RowKit Go.Proofs.YtnnkjjacpbbigaaW.PrintWords Go.Proofs.YtnnkjjacpbbigaaW.PrintLast Go.Proofs.YtnnkjjacpbbigaaW.PrintMore
attribute [local go_sem] max2_int min2_int max_two min_two max_three min_three max_four min_four   -- for this text's walks alone

/-! ### spec_CountByPieces: function 16 -/
def spec_CountByPieces.l0 : Nat → List Int → List (S41) → Int → Int → Option (List Int × Bool)
  | 0, _, _, _, _ => none
  | k + 1, x4, x14, x15, x16 => if x16 < x15 then (if 0 ≤ x16 then (if x16 < (x14.length : Int) then ((spec_siPieces.f k ((rd_T41 x14 x16).f0) ((rd_T41 x14 x16).f1) false).bind fun t286 => (if 0 ≤ (t286.length : Int) then (if (t286.length : Int) < (x4.length : Int) then (spec_CountByPieces.l0 k (x4.set ((t286.length : Int) : Int).toNat (wrap64 ((rd x4 (t286.length : Int)) + 1))) x14 x15 (wrap64 (x16 + 1))) else (none)) else (none))) else (none)) else (none)) else (some (x4, true))
def spec_CountByPieces.f (k : Nat) (a0 : Int) : Option (List Int × Bool) := (spec_l1In.f a0 1 4).bind fun t277 => (if t277 = true then (if 0 ≤ (wrap64 (a0 + 1)) then (if (wrap64 (a0 + 1) : Int).toNat ≤ 35184372088832 then ((spec_siPairs.f k a0).bind fun t281 => (spec_CountByPieces.l0 k (List.replicate (wrap64 (a0 + 1) : Int).toNat 0) t281 (t281.length : Int) 0)) else (none)) else (none)) else (some (([] : List Int), false)))
theorem spec_CountByPieces.mono_l : ∀ k, (∀ y0 y1 y2 y3, LeO (spec_CountByPieces.l0 k y0 y1 y2 y3) (spec_CountByPieces.l0 (k + 1) y0 y1 y2 y3))
  | 0 => fun _ _ _ _ r h => by simp [spec_CountByPieces.l0] at h
  | k + 1 => by
    have ih0 := spec_CountByPieces.mono_l k
    · intro y0 y1 y2 y3
      unfold spec_CountByPieces.l0
      repeat' first
      | (with_reducible exact ih0 _ _ _ _)
      | (with_reducible exact spec_siPairs.mono _ _)
      | (with_reducible exact spec_siPieces.mono _ _ _ _)
      | (with_reducible exact LeO.refl _)
      | (with_reducible exact LeO.none _)
      | (with_reducible refine LeO.ite ?_ ?_)
      | (with_reducible refine LeO.bind ?_ (fun _ => ?_))
      | exact ih0 _ _ _ _
      | exact spec_siPairs.mono _ _
      | exact spec_siPieces.mono _ _ _ _
      | exact LeO.none _
      | refine LeO.ite ?_ ?_
      | refine LeO.bind ?_ (fun _ => ?_)
theorem spec_CountByPieces.mono : ∀ a0 k, LeO (spec_CountByPieces.f k a0) (spec_CountByPieces.f (k + 1) a0) := by
  intro a0 k
  have ih0 := spec_CountByPieces.mono_l k
  unfold spec_CountByPieces.f
  repeat' first
      | (with_reducible exact ih0 _ _ _ _)
      | (with_reducible exact spec_siPairs.mono _ _)
      | (with_reducible exact spec_siPieces.mono _ _ _ _)
      | (with_reducible exact LeO.refl _)
      | (with_reducible exact LeO.none _)
      | (with_reducible refine LeO.ite ?_ ?_)
      | (with_reducible refine LeO.bind ?_ (fun _ => ?_))
      | exact ih0 _ _ _ _
      | exact spec_siPairs.mono _ _
      | exact spec_siPieces.mono _ _ _ _
      | exact LeO.none _
      | refine LeO.ite ?_ ?_
      | refine LeO.bind ?_ (fun _ => ?_)
set_option maxHeartbeats 8000000 in
set_option maxRecDepth 100000 in
theorem spec_CountByPieces.calls (k : Nat) (a0 : Int) (r1 : List Int) (r2 : Bool) (w : World) (h : spec_CountByPieces.f k a0 = some (r1, r2)) :
    Calls Try.prog 16 #[.int .i64 a0] w fun e w' => ∃ v0_ : Value, e = .returned (.tuple #[v0_, .bool r2]) ∧ Kd.R (Kd.int .i64) 3 w' w.heap.size (fun _ => True) v0_ r1 ∧ Below w.heap.size w w' := by
  have hu41 := Try.underlying41
  have HB := Aside0.mk (Below.refl w.heap.size w)
  have H : ((spec_l1In.f a0 1 4).bind fun t277 => (if t277 = true then (if 0 ≤ (wrap64 (a0 + 1)) then (if (wrap64 (a0 + 1) : Int).toNat ≤ 35184372088832 then ((spec_siPairs.f k a0).bind fun t281 => (spec_CountByPieces.l0 k (List.replicate (wrap64 (a0 + 1) : Int).toNat 0) t281 (t281.length : Int) 0)) else (none)) else (none)) else (some (([] : List Int), false)))) = some (r1, r2) := h
  clear h
  replace H := Option.bind_eq_some_iff.mp H
  obtain ⟨t277, A20, H⟩ := H
  replace H : (if t277 = true then (if 0 ≤ (wrap64 (a0 + 1)) then (if (wrap64 (a0 + 1) : Int).toNat ≤ 35184372088832 then ((spec_siPairs.f k a0).bind fun t281 => (spec_CountByPieces.l0 k (List.replicate (wrap64 (a0 + 1) : Int).toNat 0) t281 (t281.length : Int) 0)) else (none)) else (none)) else (some (([] : List Int), false))) = some (r1, r2) := H
  have A2 := Aside0.mk A20
  clear A20
  by_cases c3 : t277 = true
  · subst c3
    have H1 : (if 0 ≤ (wrap64 (a0 + 1)) then (if (wrap64 (a0 + 1) : Int).toNat ≤ 35184372088832 then ((spec_siPairs.f k a0).bind fun t281 => (spec_CountByPieces.l0 k (List.replicate (wrap64 (a0 + 1) : Int).toNat 0) t281 (t281.length : Int) 0)) else (none)) else (none)) = some (r1, r2) := by rw [if_pos rfl] at H; exact H
    clear H
    have H := H1
    clear H1
    obtain ⟨ji4, hji4⟩ : ∃ j_ : Int, (wrap64 (a0 + 1)) = j_ := ⟨_, rfl⟩
    replace H : (if 0 ≤ (ji4) then (if (ji4 : Int).toNat ≤ 35184372088832 then ((spec_siPairs.f k a0).bind fun t281 => (spec_CountByPieces.l0 k (List.replicate (ji4 : Int).toNat 0) t281 (t281.length : Int) 0)) else (none)) else (none)) = some (r1, r2) := by first | (rw [hji4] at H; exact H) | (simp only [hji4] at H ⊢; exact H)
    (try rw [hji4] at A2)
    have hji4w : (IntKind.i64.wrap (a0 + 1)) = ji4 := (i64_w _).trans hji4
    by_cases c5 : 0 ≤ (ji4)
    · rw [if_pos c5] at H
      have c5b0 := eq_true c5
      have c5b1 : decide (0 ≤ (ji4)) = true := decide_eq_true c5
      clear c5
      by_cases c6 : (ji4 : Int).toNat ≤ 35184372088832
      · rw [if_pos c6] at H
        have c6b0 := eq_true c6
        have c6b1 : decide ((ji4 : Int).toNat ≤ 35184372088832) = true := decide_eq_true c6
        clear c6
        obtain ⟨y278, hy278⟩ : ∃ y_ : List Int, y_ = (List.replicate (ji4 : Int).toNat 0) := ⟨_, rfl⟩
        replace H : ((spec_siPairs.f k a0).bind fun t281 => (spec_CountByPieces.l0 k y278 t281 (t281.length : Int) 0)) = some (r1, r2) := by first | (rw [hy278]; with_reducible exact H) | (have H2_ := (Option.bind_some _ _).symm.trans H; rw [hy278]; with_reducible exact H2_) | (have H2_ := (Option.bind_some _ _).symm.trans H; with_reducible exact H2_) | with_reducible exact H | (rw [hy278]; exact H) | exact H
        have Ny278 := Aside0.mk hy278
        clear hy278
        replace H := Option.bind_eq_some_iff.mp H
        obtain ⟨t281, A70, H⟩ := H
        replace H : (spec_CountByPieces.l0 k y278 t281 (t281.length : Int) 0) = some (r1, r2) := H
        have A7 := Aside0.mk A70
        clear A70
        have H' := Aside0.mk H
        clear H
        go_enter Try.func16, Try.ntmps16
        go_wp2_with (first | ((with_reducible refine gate_callee (f := 54) rfl ?_); refine goesL_ (some 8) rfl rfl Try.func54 (by kernel_rfl) rfl #[.int .i64 a0, .int .i64 1, .int .i64 4] rfl (by (try simp only [List.map_toArray, List.map_cons, List.map_nil]); first | done | rfl | (simp only [List.length_drop, List.length_take]; rfl)) ?_; (with_reducible refine (spec_l1In.calls a0 1 4 true _ A2.out).mono ?_); rintro e w' ⟨rfl, ⟨nd, rfl⟩⟩; refine ⟨_, rfl, ?_⟩) | ((with_reducible refine gate_dst (N := 12) rfl ?_); refine Kd.R_make (Kd.int .i64) _ 3 rfl (N := 12) rfl 30 _ _ rfl ji4 rfl rfl Try.underlying30 (.int .i64 0) 8 info3 rfl (by decide) (by omega) 0 (ok := fun _ => True) (okp := fun _ => True) rfl (fun _ hk => hk) trivial (of_decide_eq_true (by first | (with_reducible assumption) | assumption)) (Nat.le_trans (Nat.mul_le_mul_right _ (of_decide_eq_true (by first | (with_reducible assumption) | assumption) : ji4.toNat ≤ 35184372088832)) (by omega)) (Below.refl _ _) (Nat.le_refl _) ?_; intro v279 w8 ho9 hb hg_ hnew_; clear hg_ hnew_; (first | rw [← Ny278.out] at ho9 | (simp only [Int.reduceToNat] at ho9; rw [← Ny278.out] at ho9)); have n0_ := Aside0.mk (Kd.R_lower ho9 (below_size (by repeat (first | (with_reducible first | exact HB.out | apply below_alloc | apply pw_below_drewN | apply below_drew1) | exact HB.out)))); have n1_ := Aside0.mk (below_step (by repeat (first | (with_reducible first | exact HB.out | apply below_alloc | apply pw_below_drewN | apply below_drew1) | exact HB.out)) hb); clear HB; have HO280 := n0_; have HB := n1_; clear n0_ n1_; clear hb ho9) | ((with_reducible refine gate_callee (f := 55) rfl ?_); refine goesL_ (some 14) rfl rfl Try.func55 (by kernel_rfl) rfl #[.int .i64 a0] rfl (by (try simp only [List.map_toArray, List.map_cons, List.map_nil]); first | done | rfl | (simp only [List.length_drop, List.length_take]; rfl)) ?_; (with_reducible refine (spec_siPairs.calls k a0 t281 _ A7.out).mono ?_); rintro e w10 ⟨v282, rfl, ho0, hb⟩; refine ⟨_, rfl, ?_⟩; have n0_ := Aside0.mk (Kd.R_below (by (with_reducible repeat (first | apply Kd.R_alloc | apply Kd.R_drewN | apply Kd.R_drew)); exact HO280.out) hb); have n1_ := Aside0.mk (Kd.S_lower (Kd.S_new' ho0 (Kd.R_lt (by (with_reducible repeat (first | apply Kd.R_alloc | apply Kd.R_drewN | apply Kd.R_drew)); exact HO280.out))) (below_size (by repeat (first | (with_reducible first | exact HB.out | apply below_alloc | apply pw_below_drewN | apply below_drew1) | exact HB.out)))); have n2_ := Aside0.mk (below_step (by repeat (first | (with_reducible first | exact HB.out | apply below_alloc | apply pw_below_drewN | apply below_drew1) | exact HB.out)) hb); clear HO280; clear HB; have HO280 := n0_; have HO283 := n1_; have HB := n2_; clear n0_ n1_ n2_; (try clear hb); (try clear hb2); (try clear hk); (try clear hi); (try clear ho0); obtain ⟨Ao11, co11, eo11⟩ := Kd.S_slice HO283.out; subst eo11))
        go_loopg [16] k (fun kq v16 w' => ∃ (x4_1 : List Int) (x16_1 : Int), v16 = .int .i64 x16_1 ∧ Aside0 (spec_CountByPieces.l0 kq x4_1 t281 (t281.length : Int) x16_1 = some (r1, r2)) ∧ Aside0 (kq ≤ k) ∧ Aside0 (Kd.R (Kd.int .i64) 3 w' w.heap.size (fun _ => True) v279 x4_1) ∧ Aside0 (Kd.S k41 41 w' w.heap.size (fun k_ => some k_ ≠ (v279 : Value).ownBlock) (.slice Ao11 t281.length co11) t281) ∧ Aside0 (Below w.heap.size w w'))
        case atStart => exact ⟨(y278), (0), (by first | rfl | (simp; done) | (simp [*]; done)), H', ⟨Nat.le_refl _⟩, ⟨by (with_reducible repeat (first | apply Kd.R_alloc | apply Kd.R_drewN | apply Kd.R_drew)); exact HO280.out⟩, ⟨by (with_reducible repeat (first | apply Kd.S_alloc | apply Kd.S_drewN | apply Kd.S_drew)); exact Kd.S_mono HO283.out (fun _ hk => hk.2)⟩, ⟨by repeat (first | (with_reducible first | exact HB.out | apply below_alloc | apply pw_below_drewN | apply below_drew1) | exact HB.out)⟩⟩
        case round =>
          clear H'
          try clear c1
          try clear p2
          try clear c3
          try clear c5
          try clear c5b0
          try clear c5b1
          try clear c6
          try clear c6b0
          try clear c6b1
          try clear p6
          obtain ⟨x4_1, x16_1, rfl, HA, HK1, HO_4, HO_14, HB⟩ := hrel
          cases gk with
          | zero => exact absurd HA.out (by simp [spec_CountByPieces.l0])
          | succ k1 =>
            have H := HA.out
            clear HA
            simp only [spec_CountByPieces.l0] at H
            by_cases c12 : x16_1 < (t281.length : Int)
            · rw [if_pos c12] at H
              have c12b0 : decide (x16_1 < (t281.length : Int)) = true := decide_eq_true c12
              clear c12
              by_cases c13 : 0 ≤ x16_1
              · rw [if_pos c13] at H
                have c13b0 : decide (0 ≤ x16_1) = true := decide_eq_true c13
                clear c13
                by_cases c14 : x16_1 < (t281.length : Int)
                · rw [if_pos c14] at H
                  have c14b0 : decide (x16_1 < (t281.length : Int)) = true := decide_eq_true c14
                  clear c14
                  replace H := Option.bind_eq_some_iff.mp H
                  obtain ⟨t286, A150, H⟩ := H
                  replace H : (if 0 ≤ (t286.length : Int) then (if (t286.length : Int) < (x4_1.length : Int) then (spec_CountByPieces.l0 k1 (x4_1.set ((t286.length : Int) : Int).toNat (wrap64 ((rd x4_1 (t286.length : Int)) + 1))) t281 (t281.length : Int) (wrap64 (x16_1 + 1))) else (none)) else (none)) = some (r1, r2) := H
                  have A15 := Aside0.mk A150
                  clear A150
                  by_cases c16 : 0 ≤ (t286.length : Int)
                  · rw [if_pos c16] at H
                    have c16b0 : decide (0 ≤ (t286.length : Int)) = true := decide_eq_true c16
                    have c16b1 : decide (0 ≤ t286.length) = true := decide_eq_true (by omega)
                    clear c16
                    by_cases c17 : (t286.length : Int) < (x4_1.length : Int)
                    · rw [if_pos c17] at H
                      have c17b0 : decide ((t286.length : Int) < (x4_1.length : Int)) = true := decide_eq_true c17
                      have c17b1 : decide (t286.length < x4_1.length) = true := decide_eq_true (Int.ofNat_lt.mp c17)
                      clear c17
                      obtain ⟨y290, hy290⟩ : ∃ y_ : List Int, y_ = (x4_1.set ((t286.length : Int) : Int).toNat (wrap64 ((rd x4_1 (t286.length : Int)) + 1))) := ⟨_, rfl⟩
                      replace H : (spec_CountByPieces.l0 k1 y290 t281 (t281.length : Int) (wrap64 (x16_1 + 1))) = some (r1, r2) := by first | (rw [hy290]; with_reducible exact H) | (have H2_ := (Option.bind_some _ _).symm.trans H; rw [hy290]; with_reducible exact H2_) | (have H2_ := (Option.bind_some _ _).symm.trans H; with_reducible exact H2_) | with_reducible exact H | (rw [hy290]; exact H) | exact H
                      have Ny290 := Aside0.mk hy290
                      clear hy290
                      have H' := Aside0.mk H
                      clear H
                      have p284 : 0 ≤ (x16_1 : Int) := of_decide_eq_true (by first | (with_reducible assumption) | assumption)
                      have q284 : x16_1 < (t281.length : Int) := of_decide_eq_true (by first | (with_reducible assumption) | assumption)
                      obtain ⟨ad284, A284_0, c284_0, A284_1, c284_1, e284, hx284_0, hx284_1, hl284_0, hi284_0, hl284_1, hi284_1⟩ := at_T41 (Kd.S_reads' HO_14.out).2.2 x16_1 p284 q284
                      cases e284
                      obtain ⟨ce284, hce284, hMe284, hcc284⟩ := Kd.S_get HO_14.out z41 x16_1 p284 (by first | exact q284 | exact of_decide_eq_true (by first | (with_reducible assumption) | assumption) | (have e_ := (Kd.S_reads' HO_14.out).1; omega))
                      obtain ⟨ve284_0, ve284_1, rfl, ge284_0, ge284_1⟩ := k41_openM hMe284
                      have hv284_0 := hcc284 0 _ rfl
                      rw [Nat.add_zero] at hv284_0
                      replace hv284_0 := Option.some.inj (hv284_0.symm.trans hx284_0)
                      rw [hv284_0] at ge284_0
                      have HL284_0 := Aside0.mk (show Kd.R (Kd.int .i64) 3 _ _ _ _ ((rd_T41 t281 x16_1).f0) from ge284_0)
                      clear hv284_0 ge284_0
                      have hv284_1 := hcc284 1 _ rfl
                      rw [add_field _ _ 1 (by omega)] at hv284_1
                      replace hv284_1 := Option.some.inj (hv284_1.symm.trans hx284_1)
                      rw [hv284_1] at ge284_1
                      have HL284_1 := Aside0.mk (show Kd.R (Kd.int .i64) 3 _ _ _ _ ((rd_T41 t281 x16_1).f1) from ge284_1)
                      clear hv284_1 ge284_1
                      clear hcc284 hce284
                      have HR284_0 := Aside0.mk hi284_0
                      have HC284_0 := Aside0.mk hl284_0
                      clear hi284_0 hl284_0
                      have HR284_1 := Aside0.mk hi284_1
                      have HC284_1 := Aside0.mk hl284_1
                      clear hi284_1 hl284_1
                      replace p284 := eq_true p284
                      replace q284 := eq_true q284
                      go_wp2_with (first | ((with_reducible refine gate_dst (N := 6) rfl ?_); refine box_event ?hg (N := 6) ?hd (cs := #[.slice none 0 0, .slice none 0 0]) (t := 41) ?hr ?_; (case hd => rfl); (case hg => rfl); (case hr => first | (go_simp; done) | (go_simp; rfl)); intro gb285 hg w19 hbox hb; have n0_ := Aside0.mk (Kd.R_below (by (with_reducible repeat (first | apply Kd.R_alloc | apply Kd.R_drewN | apply Kd.R_drew)); exact HO_4.out) hb); have n1_ := Aside0.mk (Kd.S_below (Kd.S_elderB (by (with_reducible repeat (first | apply Kd.S_alloc | apply Kd.S_drewN | apply Kd.S_drew)); exact HO_14.out) gb285 (Nat.le_of_eq hg.symm)) hb); have n2_ := Aside0.mk (Kd.R_below (by (with_reducible repeat (first | apply Kd.R_alloc | apply Kd.R_drewN | apply Kd.R_drew)); exact HL284_0.out) hb); have n3_ := Aside0.mk (Kd.R_below (by (with_reducible repeat (first | apply Kd.R_alloc | apply Kd.R_drewN | apply Kd.R_drew)); exact HL284_1.out) hb); have n4_ := Aside0.mk (Kd.C_below (by repeat (first | (with_reducible exact HR284_0.out) | (with_reducible refine Kd.C_alloc ?_ _) | (with_reducible refine Kd.C_drewN ?_ _) | (with_reducible refine Kd.C_drew ?_) | exact HR284_0.out)) hb); have n5_ := Aside0.mk (Kd.C_below (by repeat (first | (with_reducible exact HR284_1.out) | (with_reducible refine Kd.C_alloc ?_ _) | (with_reducible refine Kd.C_drewN ?_ _) | (with_reducible refine Kd.C_drew ?_) | exact HR284_1.out)) hb); have n6_ := Aside0.mk (below_step (by repeat (first | (with_reducible first | exact HB.out | apply below_alloc | apply pw_below_drewN | apply below_drew1) | exact HB.out)) hb); have n7_ := Aside0.mk (hbox); have n8_ := Aside0.mk ((by rw [hg]; exact (below_size (by repeat (first | (with_reducible first | exact HB.out | apply below_alloc | apply pw_below_drewN | apply below_drew1) | exact HB.out))) : w.heap.size ≤ gb285)); have n9_ := Aside0.mk ((by rw [hg]; exact (below_size (by repeat (first | (with_reducible first | exact HB.out | apply below_alloc | apply pw_below_drewN | apply below_drew1) | exact HB.out))) : w.heap.size ≤ gb285)); clear HO_4; clear HO_14; clear HL284_0; clear HL284_1; clear HR284_0; clear HR284_1; clear HB; have HO_4 := n0_; have HO_14 := n1_; have HL284_0 := n2_; have HL284_1 := n3_; have HR284_0 := n4_; have HR284_1 := n5_; have HB := n6_; have BK285 := n7_; have GW285 := n8_; have GE285 := n9_; clear n0_ n1_ n2_ n3_ n4_ n5_ n6_ n7_ n8_ n9_; clear hb hbox hg; have hcz20_0 : w19.cell? ⟨gb285, 0, none⟩ = some (.slice none 0 0) := (blk_cell BK285.out 0).trans rfl; have hcz20_1 : w19.cell? ⟨gb285, 1, none⟩ = some (.slice none 0 0) := (blk_cell BK285.out 1).trans rfl; have hfz20_0 := blk_frozen BK285.out 0; have hfz20_1 := blk_frozen BK285.out 1) | ((with_reducible refine gate_callee (f := 64) rfl ?_); refine goesL_ (some 22) rfl rfl Try.func64 (by kernel_rfl) rfl #[.agg #[.slice A284_0 ((rd_T41 t281 x16_1).f0).length c284_0, .slice A284_1 ((rd_T41 t281 x16_1).f1).length c284_1], .bool false] rfl (by (try simp only [List.map_toArray, List.map_cons, List.map_nil]); first | done | rfl | (simp only [List.length_drop, List.length_take]; rfl)) ?_; (with_reducible refine (spec_siPieces.calls k1 _ _ ((rd_T41 t281 x16_1).f0) _ _ ((rd_T41 t281 x16_1).f1) false t286 _ ?side1 ?side2 ?side3 ?side4 A15.out).mono ?_); (case side1 => repeat (first | exact ((Kd.R_reads' (by (with_reducible repeat (first | apply Kd.R_alloc | apply Kd.R_drewN | apply Kd.R_drew)); exact (Kd.R_mono (Kd.R_far (p := ⟨gb285, 1, none⟩) (Kd.R_far (p := ⟨gb285, 0, none⟩) (Kd.R_types HL284_0.out BK285.out (by decide)) (fun _ hk => hk.2) (.slice A284_0 ((rd_T41 t281 x16_1).f0).length c284_0)) (fun _ hk => hk.2) (.slice A284_1 ((rd_T41 t281 x16_1).f1).length c284_1)) (fun _ h_ => h_.1)))).2.2) | (with_reducible refine Kd.C_alloc ?_ _) | (with_reducible refine Kd.C_drewN ?_ _) | (with_reducible refine Kd.C_drew ?_))); (case side2 => exact HC284_0.out); (case side3 => repeat (first | exact ((Kd.R_reads' (by (with_reducible repeat (first | apply Kd.R_alloc | apply Kd.R_drewN | apply Kd.R_drew)); exact (Kd.R_mono (Kd.R_far (p := ⟨gb285, 1, none⟩) (Kd.R_far (p := ⟨gb285, 0, none⟩) (Kd.R_types HL284_1.out BK285.out (by decide)) (fun _ hk => hk.2) (.slice A284_0 ((rd_T41 t281 x16_1).f0).length c284_0)) (fun _ hk => hk.2) (.slice A284_1 ((rd_T41 t281 x16_1).f1).length c284_1)) (fun _ h_ => h_.1)))).2.2) | (with_reducible refine Kd.C_alloc ?_ _) | (with_reducible refine Kd.C_drewN ?_ _) | (with_reducible refine Kd.C_drew ?_))); (case side4 => exact HC284_1.out); rintro e w21 ⟨v287, rfl, ho0, hb⟩; refine ⟨_, rfl, ?_⟩; have n0_ := Aside0.mk (Kd.R_below (by (with_reducible repeat (first | apply Kd.R_alloc | apply Kd.R_drewN | apply Kd.R_drew)); exact (Kd.R_mono (Kd.R_far (p := ⟨gb285, 1, none⟩) (Kd.R_far (p := ⟨gb285, 0, none⟩) (Kd.R_types HO_4.out BK285.out (by decide)) (fun _ hk => hk.2) (.slice A284_0 ((rd_T41 t281 x16_1).f0).length c284_0)) (fun _ hk => hk.2) (.slice A284_1 ((rd_T41 t281 x16_1).f1).length c284_1)) (fun _ h_ => h_.1))) hb); have n1_ := Aside0.mk (Kd.S_elder' (by (with_reducible repeat (first | apply Kd.S_alloc | apply Kd.S_drewN | apply Kd.S_drew)); exact (Kd.S_mono (Kd.S_far (p := ⟨gb285, 1, none⟩) (Kd.S_far (p := ⟨gb285, 0, none⟩) (Kd.S_mono HO_14.out (fun k_ hk => (⟨hk, hk.2⟩ : _ ∧ k_ ≠ gb285))) (fun _ hk => hk.2) (.slice A284_0 ((rd_T41 t281 x16_1).f0).length c284_0)) (fun _ hk => hk.2) (.slice A284_1 ((rd_T41 t281 x16_1).f1).length c284_1)) (fun _ h_ => h_.1))) (Kd.S_base ho0) hb); have n2_ := Aside0.mk (Kd.R_below (by (with_reducible repeat (first | apply Kd.R_alloc | apply Kd.R_drewN | apply Kd.R_drew)); exact (Kd.R_mono (Kd.R_far (p := ⟨gb285, 1, none⟩) (Kd.R_far (p := ⟨gb285, 0, none⟩) (Kd.R_types HL284_0.out BK285.out (by decide)) (fun _ hk => hk.2) (.slice A284_0 ((rd_T41 t281 x16_1).f0).length c284_0)) (fun _ hk => hk.2) (.slice A284_1 ((rd_T41 t281 x16_1).f1).length c284_1)) (fun _ h_ => h_.1))) hb); have n3_ := Aside0.mk (Kd.R_below (by (with_reducible repeat (first | apply Kd.R_alloc | apply Kd.R_drewN | apply Kd.R_drew)); exact (Kd.R_mono (Kd.R_far (p := ⟨gb285, 1, none⟩) (Kd.R_far (p := ⟨gb285, 0, none⟩) (Kd.R_types HL284_1.out BK285.out (by decide)) (fun _ hk => hk.2) (.slice A284_0 ((rd_T41 t281 x16_1).f0).length c284_0)) (fun _ hk => hk.2) (.slice A284_1 ((rd_T41 t281 x16_1).f1).length c284_1)) (fun _ h_ => h_.1))) hb); have n4_ := Aside0.mk (Kd.S_lower (Kd.S_newB (Kd.S_new' (Kd.S_new' (Kd.S_new' (Kd.S_new' ho0 (Kd.R_lt (by (with_reducible repeat (first | apply Kd.R_alloc | apply Kd.R_drewN | apply Kd.R_drew)); exact (Kd.R_mono (Kd.R_far (p := ⟨gb285, 1, none⟩) (Kd.R_far (p := ⟨gb285, 0, none⟩) (Kd.R_types HO_4.out BK285.out (by decide)) (fun _ hk => hk.2) (.slice A284_0 ((rd_T41 t281 x16_1).f0).length c284_0)) (fun _ hk => hk.2) (.slice A284_1 ((rd_T41 t281 x16_1).f1).length c284_1)) (fun _ h_ => h_.1))))) (Kd.S_lt (by (with_reducible repeat (first | apply Kd.S_alloc | apply Kd.S_drewN | apply Kd.S_drew)); exact (Kd.S_mono (Kd.S_far (p := ⟨gb285, 1, none⟩) (Kd.S_far (p := ⟨gb285, 0, none⟩) (Kd.S_mono HO_14.out (fun k_ hk => (⟨hk, hk.2⟩ : _ ∧ k_ ≠ gb285))) (fun _ hk => hk.2) (.slice A284_0 ((rd_T41 t281 x16_1).f0).length c284_0)) (fun _ hk => hk.2) (.slice A284_1 ((rd_T41 t281 x16_1).f1).length c284_1)) (fun _ h_ => h_.1))))) (Kd.R_lt (by (with_reducible repeat (first | apply Kd.R_alloc | apply Kd.R_drewN | apply Kd.R_drew)); exact (Kd.R_mono (Kd.R_far (p := ⟨gb285, 1, none⟩) (Kd.R_far (p := ⟨gb285, 0, none⟩) (Kd.R_types HL284_0.out BK285.out (by decide)) (fun _ hk => hk.2) (.slice A284_0 ((rd_T41 t281 x16_1).f0).length c284_0)) (fun _ hk => hk.2) (.slice A284_1 ((rd_T41 t281 x16_1).f1).length c284_1)) (fun _ h_ => h_.1))))) (Kd.R_lt (by (with_reducible repeat (first | apply Kd.R_alloc | apply Kd.R_drewN | apply Kd.R_drew)); exact (Kd.R_mono (Kd.R_far (p := ⟨gb285, 1, none⟩) (Kd.R_far (p := ⟨gb285, 0, none⟩) (Kd.R_types HL284_1.out BK285.out (by decide)) (fun _ hk => hk.2) (.slice A284_0 ((rd_T41 t281 x16_1).f0).length c284_0)) (fun _ hk => hk.2) (.slice A284_1 ((rd_T41 t281 x16_1).f1).length c284_1)) (fun _ h_ => h_.1))))) (g := gb285) (o := .cells #[.slice A284_0 ((rd_T41 t281 x16_1).f0).length c284_0, .slice A284_1 ((rd_T41 t281 x16_1).f1).length c284_1] 41 (0, 0)) (by (with_reducible repeat (first | refine blk_drewN ?_ _ | refine blk_drew ?_ | refine blk_alloc ?_ _)); refine blk_put (cs := #[.slice A284_0 ((rd_T41 t281 x16_1).f0).length c284_0, .slice none 0 0]) ?_ 1 _ rfl; (with_reducible repeat (first | refine blk_drewN ?_ _ | refine blk_drew ?_ | refine blk_alloc ?_ _)); refine blk_put (cs := #[.slice none 0 0, .slice none 0 0]) ?_ 0 _ rfl; (with_reducible repeat (first | refine blk_drewN ?_ _ | refine blk_drew ?_ | refine blk_alloc ?_ _)); exact BK285.out)) (below_size (by repeat (first | (with_reducible first | exact HB.out | apply below_alloc | apply pw_below_drewN | apply below_drew1 | refine below_set ?_ GE285.out) | exact HB.out)))); have n5_ := Aside0.mk (Kd.C_below ((Kd.R_reads' (by (with_reducible repeat (first | apply Kd.R_alloc | apply Kd.R_drewN | apply Kd.R_drew)); exact (Kd.R_mono (Kd.R_far (p := ⟨gb285, 1, none⟩) (Kd.R_far (p := ⟨gb285, 0, none⟩) (Kd.R_types HL284_0.out BK285.out (by decide)) (fun _ hk => hk.2) (.slice A284_0 ((rd_T41 t281 x16_1).f0).length c284_0)) (fun _ hk => hk.2) (.slice A284_1 ((rd_T41 t281 x16_1).f1).length c284_1)) (fun _ h_ => h_.1)))).2.2) hb); have n6_ := Aside0.mk (Kd.C_below ((Kd.R_reads' (by (with_reducible repeat (first | apply Kd.R_alloc | apply Kd.R_drewN | apply Kd.R_drew)); exact (Kd.R_mono (Kd.R_far (p := ⟨gb285, 1, none⟩) (Kd.R_far (p := ⟨gb285, 0, none⟩) (Kd.R_types HL284_1.out BK285.out (by decide)) (fun _ hk => hk.2) (.slice A284_0 ((rd_T41 t281 x16_1).f0).length c284_0)) (fun _ hk => hk.2) (.slice A284_1 ((rd_T41 t281 x16_1).f1).length c284_1)) (fun _ h_ => h_.1)))).2.2) hb); have n7_ := Aside0.mk (blk_below (g := gb285) (o := .cells #[.slice A284_0 ((rd_T41 t281 x16_1).f0).length c284_0, .slice A284_1 ((rd_T41 t281 x16_1).f1).length c284_1] 41 (0, 0)) (by (with_reducible repeat (first | refine blk_drewN ?_ _ | refine blk_drew ?_ | refine blk_alloc ?_ _)); refine blk_put (cs := #[.slice A284_0 ((rd_T41 t281 x16_1).f0).length c284_0, .slice none 0 0]) ?_ 1 _ rfl; (with_reducible repeat (first | refine blk_drewN ?_ _ | refine blk_drew ?_ | refine blk_alloc ?_ _)); refine blk_put (cs := #[.slice none 0 0, .slice none 0 0]) ?_ 0 _ rfl; (with_reducible repeat (first | refine blk_drewN ?_ _ | refine blk_drew ?_ | refine blk_alloc ?_ _)); exact BK285.out) hb); have n8_ := Aside0.mk (below_step (by repeat (first | (with_reducible first | exact HB.out | apply below_alloc | apply pw_below_drewN | apply below_drew1 | refine below_set ?_ GE285.out) | exact HB.out)) hb); clear HO_4; clear HO_14; clear HL284_0; clear HL284_1; clear HR284_0; clear HR284_1; clear BK285; clear HB; have HO_4 := n0_; have HO_14 := n1_; have HL284_0 := n2_; have HL284_1 := n3_; have HO288 := n4_; have HR284_0 := n5_; have HR284_1 := n6_; have BK285 := n7_; have HB := n8_; clear n0_ n1_ n2_ n3_ n4_ n5_ n6_ n7_ n8_; (try clear hb); (try clear hb2); (try clear hk); (try clear hi); (try clear ho0); obtain ⟨Ao22, co22, eo22⟩ := Kd.S_slice HO288.out; subst eo22; obtain ⟨Ao23, co23, eo23⟩ := Kd.R_slice HO_4.out; subst eo23; have p289 : 0 ≤ ((t286.length : Int) : Int) := of_decide_eq_true (by first | (with_reducible assumption) | assumption); have q289 : (t286.length : Int) < (x4_1.length : Int) := of_decide_eq_true (by first | (with_reducible assumption) | assumption); obtain ⟨ad289, e289, hx289_0⟩ := Kd.at_int (Kd.R_reads' HO_4.out).2.2 (t286.length : Int) p289 q289; cases e289; (try simp only [Go.IntWalk.toNatUp] at hx289_0); replace p289 := eq_true p289; replace q289 := eq_true q289; have p18 : 0 ≤ ((t286.length : Int) : Int) := of_decide_eq_true (by first | (with_reducible assumption) | assumption); have q18 : ((t286.length : Int) : Int) < ((x4_1.length : Int) : Int) := of_decide_eq_true (by first | (with_reducible assumption) | assumption); obtain ⟨go18, co18, eo18, gb18, gl18, cl18, HG18⟩ := Kd.R_form HO_4.out (by omega); (first | cases eo18 | (injection eo18 with ea_ en_ ec_; (first | subst ea_ | (injection ea_ with ea_; subst ea_)); subst ec_; clear en_)); have GB18 := Aside0.mk gb18; have GG18 := Aside0.mk HG18; clear gb18 gl18 HG18; (first | simp only [add_plain] at hx289_0 | skip); obtain ⟨hx18_0, hf18_0⟩ := Kd.R_celln 0 HO_4.out ((t286.length : Int) : Int) p18 q18; replace p18 := eq_true p18; replace q18 := eq_true q18; obtain ⟨hy24_, hz24_⟩ := Kd.R_celln 0 HO_4.out ((t286.length : Int) : Int) (of_decide_eq_true (by first | (with_reducible assumption) | assumption)) (of_decide_eq_true (by first | (with_reducible assumption) | assumption)); (try simp only [Go.IntWalk.toNatUp] at hy24_ hz24_); have HP24 := Kd.R_putg HO_4.out ((t286.length : Int) : Int) (wrap64 ((rd x4_1 (t286.length : Int)) + 1))) | ((with_reducible refine gate_store (t := 3) (p := 27) rfl ?_); refine store_event (t := 3) (p := 27) (v := ?vo_w25) (w1 := (w21.setCell ⟨go18, ((t286.length : Int) : Int).toNat, none⟩ (.int .i64 (wrap64 ((rd x4_1 (t286.length : Int)) + 1))))) ?hg ?ho ?hn ?hr ?_; (case ho => rfl); (case hg => rfl); (case hn => rfl); (case hr => first | (go_simp; done) | (go_simp; rfl)); intro w25 hw; have hg : w21.grownBy w25 (some go18) := (by rw [hw]; exact HP24.2); have hp_ : Kd.R (Kd.int .i64) 3 w25 w.heap.size (fun _ => True) (.slice (some ⟨go18, 0, none⟩) x4_1.length co23) y290 := (by rw [hw, Ny290.out]; exact HP24.1); clear HP24; have n0_ := Aside0.mk (hp_); have n1_ := Aside0.mk (Kd.S_after (v := (.slice (some ⟨go18, 0, none⟩) x4_1.length co23)) (v1 := (.slice (some ⟨go18, 0, none⟩) x4_1.length co23)) (ok := (fun k_ => some k_ ≠ (.slice Ao22 t286.length co22 : Value).ownBlock ∧ k_ ≠ gb285)) (by (with_reducible repeat (first | apply Kd.S_alloc | apply Kd.S_drewN | apply Kd.S_drew)); exact Kd.S_mono HO_14.out (fun _ hk => ⟨⟨hk.2, hk.1.2⟩, hk.1.1⟩)) hg (.inl rfl)); have n2_ := Aside0.mk (Kd.R_after (v := (.slice (some ⟨go18, 0, none⟩) x4_1.length co23)) (v1 := (.slice (some ⟨go18, 0, none⟩) x4_1.length co23)) (ok := (fun k_ => some k_ ≠ (.slice (some ad284) t281.length co11 : Value).ownBlock)) (by (with_reducible repeat (first | apply Kd.R_alloc | apply Kd.R_drewN | apply Kd.R_drew)); exact Kd.R_mono HL284_0.out (fun _ hk => ⟨hk.2, hk.1⟩)) hg (.inl rfl)); have n3_ := Aside0.mk (Kd.R_after (v := (.slice (some ⟨go18, 0, none⟩) x4_1.length co23)) (v1 := (.slice (some ⟨go18, 0, none⟩) x4_1.length co23)) (ok := (fun k_ => some k_ ≠ (.slice (some ad284) t281.length co11 : Value).ownBlock)) (by (with_reducible repeat (first | apply Kd.R_alloc | apply Kd.R_drewN | apply Kd.R_drew)); exact Kd.R_mono HL284_1.out (fun _ hk => ⟨hk.2, hk.1⟩)) hg (.inl rfl)); have n4_ := Aside0.mk (blk_grown (g := gb285) (o := .cells #[.slice A284_0 ((rd_T41 t281 x16_1).f0).length c284_0, .slice A284_1 ((rd_T41 t281 x16_1).f1).length c284_1] 41 (0, 0)) (by (with_reducible repeat (first | refine blk_drewN ?_ _ | refine blk_drew ?_ | refine blk_alloc ?_ _)); exact BK285.out) hg (Kd.R_ne HO_4.out BK285.out (by decide))); have n5_ := Aside0.mk (Kd.S_after (v := (.slice (some ⟨go18, 0, none⟩) x4_1.length co23)) (v1 := (.slice (some ⟨go18, 0, none⟩) x4_1.length co23)) (ok := (fun k_ => some k_ ≠ (.slice (some ad284) t281.length co11 : Value).ownBlock ∧ some k_ ≠ (.slice A284_0 ((rd_T41 t281 x16_1).f0).length c284_0 : Value).ownBlock ∧ some k_ ≠ (.slice A284_1 ((rd_T41 t281 x16_1).f1).length c284_1 : Value).ownBlock ∧ k_ ≠ gb285)) (by (with_reducible repeat (first | apply Kd.S_alloc | apply Kd.S_drewN | apply Kd.S_drew)); exact Kd.S_mono HO288.out (fun _ hk => ⟨⟨hk.1.1.1.2, ⟨hk.1.1.2, ⟨hk.1.2, hk.2⟩⟩⟩, hk.1.1.1.1.2⟩)) hg (.inl rfl)); have n6_ := Aside0.mk ((by rw [hw]; exact below_set (HB.out) GB18.out : Below w.heap.size w w25)); clear HO_4; clear HO_14; clear HL284_0; clear HL284_1; clear BK285; clear HO288; clear HB; have HO_4 := n0_; have HO_14 := n1_; have HL284_0 := n2_; have HL284_1 := n3_; have BK285 := n4_; have HO288 := n5_; have HB := n6_; clear n0_ n1_ n2_ n3_ n4_ n5_ n6_; clear hg hw hp_))
                      go_roundg k1
                      case measure => have := HK1.out; omega
                      case rel => exact ⟨(y290), (wrap64 (x16_1 + 1)), (by first | rfl | (simp; done) | (simp [*]; done)), H', ⟨by have := HK1.out; omega⟩, ⟨by (with_reducible repeat (first | apply Kd.R_alloc | apply Kd.R_drewN | apply Kd.R_drew)); exact HO_4.out⟩, ⟨by (with_reducible repeat (first | apply Kd.S_alloc | apply Kd.S_drewN | apply Kd.S_drew)); exact Kd.S_mono HO_14.out (fun _ hk => hk.2)⟩, ⟨by repeat (first | (with_reducible first | exact HB.out | apply below_alloc | apply pw_below_drewN | apply below_drew1 | refine below_set ?_ GE285.out) | exact HB.out)⟩⟩
                    · rw [if_neg c17] at H
                      exact absurd H (by simp)
                  · rw [if_neg c16] at H
                    exact absurd H (by simp)
                · rw [if_neg c14] at H
                  exact absurd H (by simp)
              · rw [if_neg c13] at H
                exact absurd H (by simp)
            · rw [if_neg c12] at H
              have c12b0 : decide (x16_1 < (t281.length : Int)) = false := decide_eq_false c12
              clear c12
              simp only [Option.some.injEq, Prod.mk.injEq] at H
              obtain ⟨rfl, rfl⟩ := H
              go_wp2
              go_ret2
              exact ⟨_, by first | rfl | (simp [errW_none, errW_some] <;> rfl) | (simp only [← hji4]; first | rfl | (simp [errW_none, errW_some] <;> rfl)) | (simp [*, errW_none, errW_some] <;> rfl), by (with_reducible repeat (first | apply Kd.R_alloc | apply Kd.R_drewN | apply Kd.R_drew)); exact HO_4.out, by repeat (first | (with_reducible first | exact HB.out | apply below_alloc | apply pw_below_drewN | apply below_drew1) | exact HB.out)⟩
      · rw [if_neg c6] at H
        exact absurd H (by simp)
    · rw [if_neg c5] at H
      exact absurd H (by simp)
  · replace c3 := Bool.eq_false_iff.mpr c3
    subst c3
    have H1 : (some (([] : List Int), false)) = some (r1, r2) := by rw [if_neg (show ¬ (false = true) by decide)] at H; exact H
    clear H
    have H := H1
    clear H1
    simp only [Option.some.injEq, Prod.mk.injEq] at H
    obtain ⟨rfl, rfl⟩ := H
    go_enter Try.func16, Try.ntmps16
    go_wp2_with (first | ((with_reducible refine gate_callee (f := 54) rfl ?_); refine goesL_ (some 8) rfl rfl Try.func54 (by kernel_rfl) rfl #[.int .i64 a0, .int .i64 1, .int .i64 4] rfl (by (try simp only [List.map_toArray, List.map_cons, List.map_nil]); first | done | rfl | (simp only [List.length_drop, List.length_take]; rfl)) ?_; (with_reducible refine (spec_l1In.calls a0 1 4 false _ A2.out).mono ?_); rintro e w' ⟨rfl, ⟨nd, rfl⟩⟩; refine ⟨_, rfl, ?_⟩))
    go_ret2
    exact ⟨_, by first | rfl | (simp [errW_none, errW_some] <;> rfl) | (simp [*, errW_none, errW_some] <;> rfl), by first | exact Kd.R_nil _ _ _ _ _ | exact Kd.N_nil _ _ _ _ _ | exact Kd.V_nil _ _ _ _ _ | exact Kd.Q_nil _ _ _ _ _ | exact Kd.S_nil _ _ _ _ _, by repeat (first | (with_reducible first | exact HB.out | apply below_alloc | apply pw_below_drewN | apply below_drew1) | exact HB.out)⟩

end Go.Proofs.Ytnnkjjacpbbigaa.PB
namespace Go.Proofs.Ytnnkjjacpbbigaa.PB
open Go.RowKit Go.Proofs.YtnnkjjacpbbigaaW.PrintWords Go.Proofs.YtnnkjjacpbbigaaW.PrintLast Go.Proofs.YtnnkjjacpbbigaaW.PrintMore
attribute [local go_sem] max2_int min2_int max_two min_two max_three min_three max_four min_four   -- for this text's walks alone

/-! ### impl_in: function 57 -/
def impl_in.f (a0 : Int) (a1 : Int) (a2 : Int) : Option (Bool) := if a1 ≤ a0 then (some (decide (a0 ≤ a2))) else (some false)
set_option maxHeartbeats 8000000 in
set_option maxRecDepth 100000 in
theorem impl_in.calls (a0 : Int) (a1 : Int) (a2 : Int) (r : Bool) (w : World) (h : impl_in.f a0 a1 a2 = some r) :
    Calls Try.prog 57 #[.int .i64 a0, .int .i64 a1, .int .i64 a2] w fun e w' => e = .returned (.bool r) ∧ Drawn0 w w' := by
  have H : (if a1 ≤ a0 then (some (decide (a0 ≤ a2))) else (some false)) = some r := h
  clear h
  by_cases c4 : a1 ≤ a0
  · rw [if_pos c4] at H
    have c4b0 : decide (a1 ≤ a0) = true := decide_eq_true c4
    clear c4
    obtain rfl := Option.some.inj H
    go_enter Try.func57, Try.ntmps57
    go_wp2
    go_ret
    exact ⟨by first | rfl | (simp; done) | (simp [*]; done), by repeat (first | exact Drawn0.refl _ | apply Drawn0.step)⟩
  · rw [if_neg c4] at H
    have c4b0 : decide (a1 ≤ a0) = false := decide_eq_false c4
    clear c4
    obtain rfl := Option.some.inj H
    go_enter Try.func57, Try.ntmps57
    go_wp2
    go_ret
    exact ⟨by first | rfl | (simp; done) | (simp [*]; done), by repeat (first | exact Drawn0.refl _ | apply Drawn0.step)⟩

end Go.Proofs.Ytnnkjjacpbbigaa.PB
namespace Go.Proofs.Ytnnkjjacpbbigaa.PB
open Go.RowKit Go.Proofs.YtnnkjjacpbbigaaW.PrintWords Go.Proofs.YtnnkjjacpbbigaaW.PrintLast Go.Proofs.YtnnkjjacpbbigaaW.PrintMore
attribute [local go_sem] max2_int min2_int max_two min_two max_three min_three max_four min_four   -- for this text's walks alone

/-! ### an element of a row of rows, taken out, written, put back -/
section
variable {α : Type} {d : Kd α} {t e : Nat} {W W' : World} {base : Nat} {ok : Nat → Prop} {A : Option Addr} {c : Nat} {xs : List (List α)}
theorem cm_S_take (h : Kd.S (Kd.slice t d) e W base ok (.slice A xs.length c) xs) (j : Nat) (hj : j < xs.length) :
    ∃ ad A0 c0 oki, A = some ad ∧ W.cell? (ad.add j) = some (.slice A0 xs[j].length c0) ∧ d.R t W base oki (.slice A0 xs[j].length c0) xs[j] ∧ Kd.H (Kd.slice t d) e W base ok (.slice A xs.length c) xs (j : Int) oki [.slice A0 xs[j].length c0] := by
  obtain ⟨ad, _, e1, _⟩ := Kd.C_get (Kd.S_reads' h).2.2 ([] : List α) (j : Int) (by omega) (by omega)
  subst e1
  obtain ⟨g, rfl⟩ := Kd.R_head (Kd.S_R h)
  obtain ⟨oki, cs, hcl, hM, hcc, hoki, hH⟩ := Kd.S_lend h [] (j : Int) (by omega) (by omega)
  obtain ⟨ve, rfl, hR⟩ := hM
  have hv := hcc 0 _ rfl
  have hx : xs.getD (j : Int).toNat [] = xs[j] := by simp [List.getD_eq_getElem?_getD, hj]
  rw [hx] at hR
  obtain ⟨A0, c0, rfl⟩ := Kd.R_slice hR
  refine ⟨_, A0, c0, oki, rfl, ?_, hR, hH⟩
  have hsz : (j : Int).toNat * (Kd.slice t d).sz + 0 = j := by show (j : Int).toNat * 1 + 0 = _; omega
  rw [hsz] at hv
  rw [add_plain]
  exact hv
theorem cm_S_put {oki okx : Nat → Prop} {u : Value} {x' : List α} {j : Nat} {v : Value} (hE : d.E = []) (h : Kd.H (Kd.slice t d) e W base ok v xs (j : Int) oki [u]) (hok : ∀ k, u.ownBlock = some k → oki k)
    (hk : Kept W W' (fun k => some k = u.ownBlock)) (hR : d.R t W' base okx u x') : Kd.S (Kd.slice t d) e W' base ok v (xs.set j x') := by
  have h1 := Kd.H_kept h hk (fun k _ hn hs => hn (hok k hs.symm))
  have h2 := Kd.R_tight hE hR
  have h3 := Kd.H_back h1 (x' := x') (okp := fun k => some k = u.ownBlock) (Kd.M_row h2) (fun k hk => hok k hk.symm)
  simpa using h3
end
/-! ### a world cut at a height: what was below it then -/
def cm_cut (W : World) (B : Nat) : World := { W with heap := W.heap.extract 0 B }
theorem cm_cut_size {W : World} {B : Nat} (h : B ≤ W.heap.size) : (cm_cut W B).heap.size = B := by simp [cm_cut]; omega
theorem cm_cut_below {W : World} {B : Nat} (h : B ≤ W.heap.size) : Below (cm_cut W B).heap.size (cm_cut W B) W := by
  rw [cm_cut_size h]
  refine ⟨rfl, rfl, rfl, by rw [cm_cut_size h]; exact h, fun i hi => ?_⟩
  simp only [cm_cut]
  rw [Array.getElem?_extract]
  simp
  omega
theorem cm_cut_then {W W1 : World} {B : Nat} {ok : Nat → Prop} (h : B ≤ W.heap.size) (hb : Below (cm_cut W B).heap.size (cm_cut W B) W1) (hk : Kept W W1 ok) : Below B W W1 := by
  have h1 := cm_cut_below h
  rw [cm_cut_size h] at hb h1
  exact ⟨hb.os.trans h1.os.symm, hb.tape.trans h1.tape.symm, hb.output.trans h1.output.symm, hk.1, fun i hi => (hb.block i hi).trans (h1.block i hi).symm⟩
/-! ### an element of a row whose elements' blocks are told one by one -/
theorem cm_tag_elem {α : Type} {d : Kd α} {t e : Nat} {f : Nat → Nat} {W : World} {base : Nat} {ok : Nat → Prop} {A : Option Addr} {n c : Nat} {xs : List (List α)} (h : (Kd.tag f (Kd.slice t d)).R e W base ok (.slice A n c) xs.zipIdx) (j : Nat) (hj : j < xs.length) :
    ∃ ad A0 c0, A = some ad ∧ W.cell? (ad.add j) = some (.slice A0 xs[j].length c0) ∧ d.R t W base (fun k => (ok k ∧ some k ≠ (Value.slice A n c).ownBlock) ∧ f k = j) (.slice A0 xs[j].length c0) xs[j] := by
  obtain ⟨hok, inner, ho, hr⟩ := h
  rcases ho.2 with ⟨hv, hn⟩ | ⟨g, cap, cur, hv, hrest⟩
  · rw [List.length_zipIdx] at hn
    omega
  · injection hv with hA hn hc
    subst hA
    have hM := hr.2 j _ (Kd.zip_at (List.getElem?_eq_getElem hj))
    obtain ⟨ve, hce, hR⟩ := hM
    change (inner.drop (j * 1)).take 1 = [ve] at hce
    have hR2 : d.R t W base (fun k => (ok k ∧ some k ≠ (Value.slice (some ⟨g, 0, none⟩) n c).ownBlock) ∧ f k = j) ve xs[j] := hR
    obtain ⟨A0, c0, rfl⟩ := Kd.R_slice hR2
    refine ⟨_, A0, c0, rfl, ?_, hR2⟩
    refine ho.cells (g := g) (by simp [Value.ownBlock]) j _ ?_
    have h0 := congrArg (fun l => l[0]?) hce
    simp only [Nat.mul_one, List.getElem?_take, List.getElem?_drop] at h0
    simpa using h0
/-! ### clear(s[i:]), the elements records of two rows -/
theorem cm_own_setCells {e : TypeId} {base n c size g : Nat} : ∀ (l : List Value) (q : Nat) (W : World) (cs : List Value), W.ownsRow base e size (.slice (some ⟨g, 0, none⟩) n c) n cs →
    ∃ cs', (W.setCells g q l).ownsRow base e size (.slice (some ⟨g, 0, none⟩) n c) n cs' ∧ cs'.take q = cs.take q ∧ W.grownBy (W.setCells g q l) (some g)
  | [], q, W, cs, h => ⟨cs, h, rfl, World.grownBy.refl W _⟩
  | u :: l, q, W, cs, h => by
    have h1 := h.stored q u
    obtain ⟨cs', h2, h3, h4⟩ := cm_own_setCells l (q + 1) (W.setCell ⟨g, q, none⟩ u) (cs.set q u) h1.1
    refine ⟨cs', h2, ?_, World.grownBy.trans h1.2 h4⟩
    have h5 := congrArg (List.take q) h3
    rw [List.take_take, List.take_take, Nat.min_eq_left (by omega)] at h5
    rw [h5]
    simp [List.take_set_of_le]
theorem cm_run_clear {P : Program} (w : World) (t e ty : TypeId) (z u : Value) (sz : Nat) (ht : P.underlying t = some (.slice e)) (hv : ∀ w, (zeroValue e).run P w = .ok z w) (hz : ∀ n, (Builtin.zeroCells z.cells n).toList = List.replicate (n * sz) u) (h1 : u.oneCell' = true) (b o n c : Nat) (hn : 0 < n)
    (hc : ∀ j, j < n * sz → (w.cell? ⟨b, o + j, none⟩).isSome = true) (hf : ∀ j, j < n * sz → w.frozen? ⟨b, o + j, none⟩ = false) :
    (Builtin.clear_ #[t] ty #[.slice (some ⟨b, o, none⟩) n c]).run P w = .ok (.tuple #[]) (w.setCells b o (List.replicate (n * sz) u)) := by
  have hst := run_storeCells_cells (P := P) b o (List.replicate (n * sz) u) 0 w (by simpa using hc) (by simpa using hf) (by intro v hv'; rw [List.eq_of_mem_replicate hv']; exact h1)
  simp only [Nat.add_zero] at hst
  obtain ⟨m, rfl⟩ : ∃ m, n = m + 1 := ⟨n - 1, by omega⟩
  simp [Builtin.clear_, run_underlying ht, hv, hz, hst]
theorem cm_own_cell {W : World} {base n c size g q : Nat} {e : TypeId} {cs : List Value} (h : W.ownsRow base e size (.slice (some ⟨g, 0, none⟩) n c) n cs) (hq : q < cs.length) : ∃ u, W.cell? ⟨g, q, none⟩ = some u ∧ W.frozen? ⟨g, q, none⟩ = false := by
  have h1 := h.cells (g := g) (by simp [Value.ownBlock]) q cs[q] (by simp [hq])
  rw [add_plain] at h1
  refine ⟨_, h1, ?_⟩
  rcases h.2 with ⟨h', _⟩ | ⟨g', cap', cur, h', _, hh, _⟩
  · cases h'
  · have : g = g' := by injection h' with h'; injection h' with h'; injection h' with h'
    subst this
    simp [World.frozen?, hh]

end Go.Proofs.Ytnnkjjacpbbigaa.PB
namespace Go.Proofs.Ytnnkjjacpbbigaa.PB
open Go.RowKit Go.Proofs.YtnnkjjacpbbigaaW.PrintWords Go.Proofs.YtnnkjjacpbbigaaW.PrintLast Go.Proofs.YtnnkjjacpbbigaaW.PrintMore
attribute [local go_sem] max2_int min2_int max_two min_two max_three min_three max_four min_four   -- for this text's walks alone

/-! ### slices_Clone_int_int: function 80 -/
def slices_Clone_int_int.f (l0 : List Int) : Option (List Int) := if l0.length < 17592186044416 then some l0 else none
set_option maxHeartbeats 2000000 in
set_option maxRecDepth 100000 in
theorem slices_Clone_int_int.calls (A0 : Option Addr) (c0 : Nat) (l0 : List Int) (r : List Int) (w : World) (hr0 : Kd.C (Kd.int .i64) w A0 l0.length l0) (hc0 : l0.length ≤ c0) (h : slices_Clone_int_int.f l0 = some r) :
    Calls Try.prog 80 #[.slice A0 l0.length c0] w fun e w' => ∃ v0_ : Value, e = .returned (v0_) ∧ Kd.R (Kd.int .i64) 3 w' w.heap.size (fun _ => True) v0_ r ∧ Below w.heap.size w w' := by
  unfold slices_Clone_int_int.f at h
  by_cases hl : l0.length < 17592186044416
  · rw [if_pos hl] at h
    obtain rfl := Option.some.inj h
    clear h
    cases A0 with
    | none =>
      have hnil := fun (w : World) => Lib.run_eql_slice_nil (P := Try.prog) w 30 3 none l0.length c0 0 0 Try.underlying30
      have he : l0 = [] := by
        cases l0 with
        | nil => rfl
        | cons a l => obtain ⟨ad, _, h, _⟩ := Kd.C_get hr0 0 0 (by omega) (by simp); cases h
      have HE := Aside0.mk he
      clear hr0 he
      go_enter Try.func80, Try.ntmps80
      go_wp2
      go_ret
      exact ⟨_, rfl, by rw [HE.out]; exact Kd.R_nil _ _ _ _ _, Below.refl _ _⟩
    | some ad =>
      have hnil := fun (w : World) => Lib.run_eql_slice_nil (P := Try.prog) w 30 3 (some ad) l0.length c0 0 0 Try.underlying30
      have HR := Aside0.mk hr0
      have HL := Aside0.mk hl
      clear hr0 hl
      obtain ⟨y, hy⟩ : ∃ y : List Int, y = [] := ⟨_, rfl⟩
      have HY := Aside0.mk hy
      clear hy
      go_enter Try.func80, Try.ntmps80
      go_wp2_with (first
        | ((with_reducible refine gate_dst (N := 5) rfl ?_); refine Kd.R_lit (Kd.int .i64) _ 3 ?hg (N := 5) ?hd (xs := ([] : List Int)) (inner := []) (ok := fun _ => True) (okp := fun _ => True) ?hr ?hp (fun _ hk => hk) trivial (Below.refl _ _) (Nat.le_refl _) (by simp) ?_; (case hd => rfl); (case hg => rfl); (case hr => first | (go_simp; done) | (go_simp; rfl)); (case hp => exact (Reps.none _ _)); intro v1 w3 ho4 hb hg_ hnew_; clear hg_ hnew_; rw [← HY.out] at ho4; have HO := Aside0.mk ho4; have HB := Aside0.mk hb; clear hb ho4)
        | ((with_reducible refine gate_builtin (b := .append) (xs := #[.tmp 5, .tmp 6]) rfl ?_); at_builtin; refine Kd.R_append_rows (Kd.int .i64) (w0 := w) w.heap.size rfl (.tmp 5) (.tmp 6) 30 3 (.int .i64 0) 8 rfl Try.underlying30 info3 rfl (by decide) (by omega) v1 y l0 _ _ _ (fun _ => True) (fun _ => False) rfl rfl HO.out (Kd.C_below HR.out HB.out) (fun _ _ h => h) (fun _ h => h.elim) (fun _ _ => trivial) HB.out (below_size HB.out) ?aL ?_; (case aL => have := HL.out; rw [HY.out]; simp; omega); intro v2 w5 ho hb hg hat; rw [HY.out, List.nil_append] at ho; have HO2 := Aside0.mk ho; have HB2 := Aside0.mk hb; clear ho hb hg hat))
      go_ret
      exact ⟨_, rfl, HO2.out, HB2.out⟩
  · rw [if_neg hl] at h
    cases h

end Go.Proofs.Ytnnkjjacpbbigaa.PB
namespace Go.Proofs.Ytnnkjjacpbbigaa.PB
open Go.RowKit Go.Proofs.YtnnkjjacpbbigaaW.PrintWords Go.Proofs.YtnnkjjacpbbigaaW.PrintLast Go.Proofs.YtnnkjjacpbbigaaW.PrintMore
attribute [local go_sem] max2_int min2_int max_two min_two max_three min_three max_four min_four   -- for this text's walks alone

/-! ### impl_joined: function 102 -/
def impl_joined.l0 : Nat → List Int → List Int → List Int → Int → Int → Option (List Int)
  | 0, _, _, _, _, _ => none
  | k + 1, x0, x5, x10, x11, x12 => if x12 < x11 then (if 0 ≤ x12 then (if x12 < (x10.length : Int) then (if x5.length < 17592186044416 then (impl_joined.l0 k x0 (x5 ++ [wrap64 ((rd x10 x12) + (x0.length : Int))]) x10 x11 (wrap64 (x12 + 1))) else (none)) else (none)) else (none)) else (some x5)
def impl_joined.f (k : Nat) (l0 : List Int) (l1 : List Int) : Option (List Int) := (slices_Clone_int_int.f l0).bind fun t200 => (impl_joined.l0 k l0 t200 l1 (l1.length : Int) 0)
theorem impl_joined.mono_l : ∀ k, (∀ y0 y1 y2 y3 y4, LeO (impl_joined.l0 k y0 y1 y2 y3 y4) (impl_joined.l0 (k + 1) y0 y1 y2 y3 y4))
  | 0 => fun _ _ _ _ _ r h => by simp [impl_joined.l0] at h
  | k + 1 => by
    have ih0 := impl_joined.mono_l k
    · intro y0 y1 y2 y3 y4
      unfold impl_joined.l0
      repeat' first
      | (with_reducible exact ih0 _ _ _ _ _)
      | (with_reducible exact LeO.refl _)
      | (with_reducible exact LeO.none _)
      | (with_reducible refine LeO.ite ?_ ?_)
      | (with_reducible refine LeO.bind ?_ (fun _ => ?_))
      | exact ih0 _ _ _ _ _
      | exact LeO.none _
      | refine LeO.ite ?_ ?_
      | refine LeO.bind ?_ (fun _ => ?_)
theorem impl_joined.mono : ∀ a0 a1 k, LeO (impl_joined.f k a0 a1) (impl_joined.f (k + 1) a0 a1) := by
  intro a0 a1 k
  have ih0 := impl_joined.mono_l k
  unfold impl_joined.f
  repeat' first
      | (with_reducible exact ih0 _ _ _ _ _)
      | (with_reducible exact LeO.refl _)
      | (with_reducible exact LeO.none _)
      | (with_reducible refine LeO.ite ?_ ?_)
      | (with_reducible refine LeO.bind ?_ (fun _ => ?_))
      | exact ih0 _ _ _ _ _
      | exact LeO.none _
      | refine LeO.ite ?_ ?_
      | refine LeO.bind ?_ (fun _ => ?_)
set_option maxHeartbeats 8000000 in
set_option maxRecDepth 100000 in
theorem impl_joined.calls (k : Nat) (A0 : Option Addr) (c0 : Nat) (l0 : List Int) (A1 : Option Addr) (c1 : Nat) (l1 : List Int) (r : List Int) (w : World) (hr0 : Kd.C (Kd.int .i64) w A0 l0.length l0) (hc0 : l0.length ≤ c0) (hr1 : Kd.C (Kd.int .i64) w A1 l1.length l1) (hc1 : l1.length ≤ c1) (h : impl_joined.f k l0 l1 = some r) :
    Calls Try.prog 102 #[.slice A0 l0.length c0, .slice A1 l1.length c1] w fun e w' => ∃ v0_ : Value, e = .returned (v0_) ∧ Kd.R (Kd.int .i64) 3 w' w.heap.size (fun _ => True) v0_ r ∧ Below w.heap.size w w' := by
  have HR0 := Aside0.mk hr0
  have HC0 := Aside0.mk hc0
  clear hr0 hc0
  have HR1 := Aside0.mk hr1
  have HC1 := Aside0.mk hc1
  clear hr1 hc1
  have HB := Aside0.mk (Below.refl w.heap.size w)
  have H : ((slices_Clone_int_int.f l0).bind fun t200 => (impl_joined.l0 k l0 t200 l1 (l1.length : Int) 0)) = some r := h
  clear h
  replace H := Option.bind_eq_some_iff.mp H
  obtain ⟨t200, A30, H⟩ := H
  replace H : (impl_joined.l0 k l0 t200 l1 (l1.length : Int) 0) = some r := H
  have A3 := Aside0.mk A30
  clear A30
  have H' := Aside0.mk H
  clear H
  go_enter Try.func102, Try.ntmps102
  go_wp2_with (first | ((with_reducible refine gate_callee (f := 80) rfl ?_); refine goesL_ (some 9) rfl rfl Try.func80 (by kernel_rfl) rfl #[.slice A0 l0.length c0] rfl (by (try simp only [List.map_toArray, List.map_cons, List.map_nil]); first | done | rfl | (simp only [List.length_drop, List.length_take]; rfl)) ?_; (with_reducible refine (slices_Clone_int_int.calls _ _ l0 t200 _ ?side1 ?side2 A3.out).mono ?_); (case side1 => repeat (first | exact HR0.out | (with_reducible refine Kd.C_alloc ?_ _) | (with_reducible refine Kd.C_drewN ?_ _) | (with_reducible refine Kd.C_drew ?_))); (case side2 => exact HC0.out); rintro e w4 ⟨v201, rfl, ho0, hb⟩; refine ⟨_, rfl, ?_⟩; have n0_ := Aside0.mk (Kd.R_lower ho0 (below_size (by repeat (first | (with_reducible first | exact HB.out | apply below_alloc | apply pw_below_drewN | apply below_drew1) | exact HB.out)))); have n1_ := Aside0.mk (below_step (by repeat (first | (with_reducible first | exact HB.out | apply below_alloc | apply pw_below_drewN | apply below_drew1) | exact HB.out)) hb); clear HB; have HO202 := n0_; have HB := n1_; clear n0_ n1_; (try clear hb); (try clear hb2); (try clear hk); (try clear hi); (try clear ho0)))
  go_loopg [5, 12] k (fun kq v5 v12 w' => ∃ (x5_1 : List Int) (x12_1 : Int), v12 = .int .i64 x12_1 ∧ Aside0 (impl_joined.l0 kq l0 x5_1 l1 (l1.length : Int) x12_1 = some r) ∧ Aside0 (kq ≤ k) ∧ Aside0 (Kd.R (Kd.int .i64) 3 w' w.heap.size (fun _ => True) v5 x5_1) ∧ Aside0 (Below w.heap.size w w'))
  case atStart => exact ⟨(t200), (0), (by first | rfl | (simp; done) | (simp [*]; done)), H', ⟨Nat.le_refl _⟩, ⟨by (with_reducible repeat (first | apply Kd.R_alloc | apply Kd.R_drewN | apply Kd.R_drew)); exact HO202.out⟩, ⟨by repeat (first | (with_reducible first | exact HB.out | apply below_alloc | apply pw_below_drewN | apply below_drew1) | exact HB.out)⟩⟩
  case round =>
    clear H'
    try clear c1
    try clear p2
    obtain ⟨x5_1, x12_1, rfl, HA, HK1, HO_5, HB⟩ := hrel
    cases gk with
    | zero => exact absurd HA.out (by simp [impl_joined.l0])
    | succ k1 =>
      have H := HA.out
      clear HA
      simp only [impl_joined.l0] at H
      by_cases c5 : x12_1 < (l1.length : Int)
      · rw [if_pos c5] at H
        have c5b0 : decide (x12_1 < (l1.length : Int)) = true := decide_eq_true c5
        clear c5
        by_cases c6 : 0 ≤ x12_1
        · rw [if_pos c6] at H
          have c6b0 : decide (0 ≤ x12_1) = true := decide_eq_true c6
          clear c6
          by_cases c7 : x12_1 < (l1.length : Int)
          · rw [if_pos c7] at H
            have c7b0 : decide (x12_1 < (l1.length : Int)) = true := decide_eq_true c7
            clear c7
            by_cases c8 : x5_1.length < 17592186044416
            · rw [if_pos c8] at H
              have LMc8 := Aside0.mk c8
              clear c8
              obtain ⟨y204, hy204⟩ : ∃ y_ : List Int, y_ = (x5_1 ++ [wrap64 ((rd l1 x12_1) + (l0.length : Int))]) := ⟨_, rfl⟩
              replace H : (impl_joined.l0 k1 l0 y204 l1 (l1.length : Int) (wrap64 (x12_1 + 1))) = some r := by first | (rw [hy204]; with_reducible exact H) | (have H2_ := (Option.bind_some _ _).symm.trans H; rw [hy204]; with_reducible exact H2_) | (have H2_ := (Option.bind_some _ _).symm.trans H; with_reducible exact H2_) | with_reducible exact H | (rw [hy204]; exact H) | exact H
              have Ny204 := Aside0.mk hy204
              clear hy204
              have H' := Aside0.mk H
              clear H
              have p203 : 0 ≤ (x12_1 : Int) := of_decide_eq_true (by first | (with_reducible assumption) | assumption)
              have q203 : x12_1 < (l1.length : Int) := of_decide_eq_true (by first | (with_reducible assumption) | assumption)
              obtain ⟨ad203, e203, hx203_0⟩ := Kd.at_int HR1.out x12_1 p203 q203
              cases e203
              replace hx203_0 := (HB.out.cell (World.block_lt_of_cell? w _ hx203_0)).trans hx203_0
              replace p203 := eq_true p203
              replace q203 := eq_true q203
              go_wp2_with (first | ((with_reducible refine gate_builtin (b := .append) (xs := #[.tmp 16, .tmp 21]) rfl ?_); at_builtin; refine Kd.R_append (Kd.int .i64) (w0 := w) w.heap.size rfl (.tmp 16) (.tmp 21) 30 3 (.int .i64 0) 8 rfl Try.underlying30 info3 rfl (by decide) (by omega) u5 x5_1 (wrap64 ((rd l1 x12_1) + (l0.length : Int))) [.int .i64 (wrap64 ((rd l1 x12_1) + (l0.length : Int)))] (fun _ => True) (fun _ => False) rfl rfl ?aP (fun _ hk => hk.elim) ?aF ?aO ?aB ?aS ?aL ?_; (case aP => exact rfl); (case aB => exact (by repeat (first | (with_reducible first | exact HB.out | apply below_alloc | apply pw_below_drewN | apply below_drew1) | exact HB.out))); (case aF => exact (fun _ _ => trivial)); (case aO => exact (by (with_reducible repeat (first | apply Kd.R_alloc | apply Kd.R_drewN | apply Kd.R_drew)); exact HO_5.out)); (case aS => exact (below_size (by repeat (first | (with_reducible first | exact HB.out | apply below_alloc | apply pw_below_drewN | apply below_drew1) | exact HB.out)))); (case aL => have := LMc8.out; omega); intro v205 w9 ho hb hg hat; rw [← Ny204.out] at ho; have n0_ := Aside0.mk (hb); have n1_ := Aside0.mk (ho); clear HB; clear HO_5; have HB := n0_; have HO206 := n1_; clear n0_ n1_; clear ho hb hg hat))
              go_roundg k1
              case measure => have := HK1.out; omega
              case rel => exact ⟨(y204), (wrap64 (x12_1 + 1)), (by first | rfl | (simp; done) | (simp [*]; done)), H', ⟨by have := HK1.out; omega⟩, ⟨by (with_reducible repeat (first | apply Kd.R_alloc | apply Kd.R_drewN | apply Kd.R_drew)); exact HO206.out⟩, ⟨by repeat (first | (with_reducible first | exact HB.out | apply below_alloc | apply pw_below_drewN | apply below_drew1) | exact HB.out)⟩⟩
            · rw [if_neg c8] at H
              exact absurd H (by simp)
          · rw [if_neg c7] at H
            exact absurd H (by simp)
        · rw [if_neg c6] at H
          exact absurd H (by simp)
      · rw [if_neg c5] at H
        have c5b0 : decide (x12_1 < (l1.length : Int)) = false := decide_eq_false c5
        clear c5
        obtain rfl := Option.some.inj H
        go_wp2
        go_ret
        exact ⟨_, by first | rfl | (simp [errW_none, errW_some] <;> rfl) | (simp [*, errW_none, errW_some] <;> rfl), by (with_reducible repeat (first | apply Kd.R_alloc | apply Kd.R_drewN | apply Kd.R_drew)); exact HO_5.out, by repeat (first | (with_reducible first | exact HB.out | apply below_alloc | apply pw_below_drewN | apply below_drew1) | exact HB.out)⟩

end Go.Proofs.Ytnnkjjacpbbigaa.PB
namespace Go.Proofs.Ytnnkjjacpbbigaa.PB
open Go.RowKit Go.Proofs.YtnnkjjacpbbigaaW.PrintWords Go.Proofs.YtnnkjjacpbbigaaW.PrintLast Go.Proofs.YtnnkjjacpbbigaaW.PrintMore
attribute [local go_sem] max2_int min2_int max_two min_two max_three min_three max_four min_four   -- for this text's walks alone

/-! ### impl_covered: function 103 -/
def impl_covered.l0 : Nat → List Int → List Int → Int → Int → Option (List Int)
  | 0, _, _, _, _ => none
  | k + 1, x3, x10, x11, x12 => if x12 < x11 then (if 0 ≤ x12 then (if x12 < (x10.length : Int) then (if x3.length < 17592186044416 then (impl_covered.l0 k (x3 ++ [wrap64 ((rd x10 x12) + 1)]) x10 x11 (wrap64 (x12 + 1))) else (none)) else (none)) else (none)) else (if x3.length < 17592186044416 then (some (x3 ++ [0])) else (none))
def impl_covered.f (k : Nat) (l0 : List Int) : Option (List Int) := impl_covered.l0 k (([wrap64 ((l0.length : Int) + 1)] : List Int)) l0 (l0.length : Int) 0
theorem impl_covered.mono_l : ∀ k, (∀ y0 y1 y2 y3, LeO (impl_covered.l0 k y0 y1 y2 y3) (impl_covered.l0 (k + 1) y0 y1 y2 y3))
  | 0 => fun _ _ _ _ r h => by simp [impl_covered.l0] at h
  | k + 1 => by
    have ih0 := impl_covered.mono_l k
    · intro y0 y1 y2 y3
      unfold impl_covered.l0
      repeat' first
      | (with_reducible exact ih0 _ _ _ _)
      | (with_reducible exact LeO.refl _)
      | (with_reducible exact LeO.none _)
      | (with_reducible refine LeO.ite ?_ ?_)
      | (with_reducible refine LeO.bind ?_ (fun _ => ?_))
      | exact ih0 _ _ _ _
      | exact LeO.none _
      | refine LeO.ite ?_ ?_
      | refine LeO.bind ?_ (fun _ => ?_)
theorem impl_covered.mono : ∀ a0 k, LeO (impl_covered.f k a0) (impl_covered.f (k + 1) a0) := by
  intro a0 k
  have ih0 := impl_covered.mono_l k
  unfold impl_covered.f
  repeat' first
      | (with_reducible exact ih0 _ _ _ _)
      | (with_reducible exact LeO.refl _)
      | (with_reducible exact LeO.none _)
      | (with_reducible refine LeO.ite ?_ ?_)
      | (with_reducible refine LeO.bind ?_ (fun _ => ?_))
      | exact ih0 _ _ _ _
      | exact LeO.none _
      | refine LeO.ite ?_ ?_
      | refine LeO.bind ?_ (fun _ => ?_)
set_option maxHeartbeats 8000000 in
set_option maxRecDepth 100000 in
theorem impl_covered.calls (k : Nat) (A0 : Option Addr) (c0 : Nat) (l0 : List Int) (r : List Int) (w : World) (hr0 : Kd.C (Kd.int .i64) w A0 l0.length l0) (hc0 : l0.length ≤ c0) (h : impl_covered.f k l0 = some r) :
    Calls Try.prog 103 #[.slice A0 l0.length c0] w fun e w' => ∃ v0_ : Value, e = .returned (v0_) ∧ Kd.R (Kd.int .i64) 3 w' w.heap.size (fun _ => True) v0_ r ∧ Below w.heap.size w w' := by
  have HR0 := Aside0.mk hr0
  have HC0 := Aside0.mk hc0
  clear hr0 hc0
  have HB := Aside0.mk (Below.refl w.heap.size w)
  have H : (impl_covered.l0 k (([wrap64 ((l0.length : Int) + 1)] : List Int)) l0 (l0.length : Int) 0) = some r := h
  clear h
  obtain ⟨y207, hy207⟩ : ∃ y_ : List Int, y_ = (([wrap64 ((l0.length : Int) + 1)] : List Int)) := ⟨_, rfl⟩
  replace H : (impl_covered.l0 k y207 l0 (l0.length : Int) 0) = some r := by first | (rw [hy207]; with_reducible exact H) | (have H2_ := (Option.bind_some _ _).symm.trans H; rw [hy207]; with_reducible exact H2_) | (have H2_ := (Option.bind_some _ _).symm.trans H; with_reducible exact H2_) | with_reducible exact H | (rw [hy207]; exact H) | exact H
  have Ny207 := Aside0.mk hy207
  clear hy207
  have H' := Aside0.mk H
  clear H
  go_enter Try.func103, Try.ntmps103
  go_wp2_with (first | ((with_reducible refine gate_dst (N := 9) rfl ?_); refine Kd.R_lit (Kd.int .i64) _ 3 ?hg (N := 9) ?hd (xs := ([wrap64 ((l0.length : Int) + 1)] : List Int)) (inner := [.int .i64 (wrap64 ((l0.length : Int) + 1))]) (ok := fun _ => True) (okp := fun _ => True) ?hr ?hp (fun _ hk => hk) trivial (Below.refl _ _) (Nat.le_refl _) (by simp) ?_; (case hd => rfl); (case hg => rfl); (case hr => first | (go_simp; done) | (go_simp; rfl)); (case hp => exact (Reps.one (show Kd.M (Kd.int .i64) _ _ _ (wrap64 ((l0.length : Int) + 1)) [.int .i64 (wrap64 ((l0.length : Int) + 1))] from rfl) (Reps.none _ _))); intro v208 w2 ho3 hb hg_ hnew_; clear hg_ hnew_; (first | rw [← Ny207.out] at ho3 | (simp only [Int.reduceToNat] at ho3; rw [← Ny207.out] at ho3)); have n0_ := Aside0.mk (Kd.R_lower ho3 (below_size (by repeat (first | (with_reducible first | exact HB.out | apply below_alloc | apply pw_below_drewN | apply below_drew1) | exact HB.out)))); have n1_ := Aside0.mk (below_step (by repeat (first | (with_reducible first | exact HB.out | apply below_alloc | apply pw_below_drewN | apply below_drew1) | exact HB.out)) hb); clear HB; have HO209 := n0_; have HB := n1_; clear n0_ n1_; clear hb ho3))
  go_loopg [3, 12] k (fun kq v3 v12 w' => ∃ (x3_1 : List Int) (x12_1 : Int), v12 = .int .i64 x12_1 ∧ Aside0 (impl_covered.l0 kq x3_1 l0 (l0.length : Int) x12_1 = some r) ∧ Aside0 (kq ≤ k) ∧ Aside0 (Kd.R (Kd.int .i64) 3 w' w.heap.size (fun _ => True) v3 x3_1) ∧ Aside0 (Below w.heap.size w w'))
  case atStart => exact ⟨(y207), (0), (by first | rfl | (simp; done) | (simp [*]; done)), H', ⟨Nat.le_refl _⟩, ⟨by (with_reducible repeat (first | apply Kd.R_alloc | apply Kd.R_drewN | apply Kd.R_drew)); exact HO209.out⟩, ⟨by repeat (first | (with_reducible first | exact HB.out | apply below_alloc | apply pw_below_drewN | apply below_drew1) | exact HB.out)⟩⟩
  case round =>
    clear H'
    try clear c1
    try clear p2
    obtain ⟨x3_1, x12_1, rfl, HA, HK1, HO_3, HB⟩ := hrel
    cases gk with
    | zero => exact absurd HA.out (by simp [impl_covered.l0])
    | succ k1 =>
      have H := HA.out
      clear HA
      simp only [impl_covered.l0] at H
      by_cases c4 : x12_1 < (l0.length : Int)
      · rw [if_pos c4] at H
        have c4b0 : decide (x12_1 < (l0.length : Int)) = true := decide_eq_true c4
        clear c4
        by_cases c5 : 0 ≤ x12_1
        · rw [if_pos c5] at H
          have c5b0 : decide (0 ≤ x12_1) = true := decide_eq_true c5
          clear c5
          by_cases c6 : x12_1 < (l0.length : Int)
          · rw [if_pos c6] at H
            have c6b0 : decide (x12_1 < (l0.length : Int)) = true := decide_eq_true c6
            clear c6
            by_cases c7 : x3_1.length < 17592186044416
            · rw [if_pos c7] at H
              have LMc7 := Aside0.mk c7
              clear c7
              obtain ⟨y211, hy211⟩ : ∃ y_ : List Int, y_ = (x3_1 ++ [wrap64 ((rd l0 x12_1) + 1)]) := ⟨_, rfl⟩
              replace H : (impl_covered.l0 k1 y211 l0 (l0.length : Int) (wrap64 (x12_1 + 1))) = some r := by first | (rw [hy211]; with_reducible exact H) | (have H2_ := (Option.bind_some _ _).symm.trans H; rw [hy211]; with_reducible exact H2_) | (have H2_ := (Option.bind_some _ _).symm.trans H; with_reducible exact H2_) | with_reducible exact H | (rw [hy211]; exact H) | exact H
              have Ny211 := Aside0.mk hy211
              clear hy211
              have H' := Aside0.mk H
              clear H
              have p210 : 0 ≤ (x12_1 : Int) := of_decide_eq_true (by first | (with_reducible assumption) | assumption)
              have q210 : x12_1 < (l0.length : Int) := of_decide_eq_true (by first | (with_reducible assumption) | assumption)
              obtain ⟨ad210, e210, hx210_0⟩ := Kd.at_int HR0.out x12_1 p210 q210
              cases e210
              replace hx210_0 := (HB.out.cell (World.block_lt_of_cell? w _ hx210_0)).trans hx210_0
              replace p210 := eq_true p210
              replace q210 := eq_true q210
              go_wp2_with (first | ((with_reducible refine gate_builtin (b := .append) (xs := #[.tmp 16, .tmp 19]) rfl ?_); at_builtin; refine Kd.R_append (Kd.int .i64) (w0 := w) w.heap.size rfl (.tmp 16) (.tmp 19) 30 3 (.int .i64 0) 8 rfl Try.underlying30 info3 rfl (by decide) (by omega) u3 x3_1 (wrap64 ((rd l0 x12_1) + 1)) [.int .i64 (wrap64 ((rd l0 x12_1) + 1))] (fun _ => True) (fun _ => False) rfl rfl ?aP (fun _ hk => hk.elim) ?aF ?aO ?aB ?aS ?aL ?_; (case aP => exact rfl); (case aB => exact (by repeat (first | (with_reducible first | exact HB.out | apply below_alloc | apply pw_below_drewN | apply below_drew1) | exact HB.out))); (case aF => exact (fun _ _ => trivial)); (case aO => exact (by (with_reducible repeat (first | apply Kd.R_alloc | apply Kd.R_drewN | apply Kd.R_drew)); exact HO_3.out)); (case aS => exact (below_size (by repeat (first | (with_reducible first | exact HB.out | apply below_alloc | apply pw_below_drewN | apply below_drew1) | exact HB.out)))); (case aL => have := LMc7.out; omega); intro v212 w8 ho hb hg hat; rw [← Ny211.out] at ho; have n0_ := Aside0.mk (hb); have n1_ := Aside0.mk (ho); clear HB; clear HO_3; have HB := n0_; have HO213 := n1_; clear n0_ n1_; clear ho hb hg hat))
              go_roundg k1
              case measure => have := HK1.out; omega
              case rel => exact ⟨(y211), (wrap64 (x12_1 + 1)), (by first | rfl | (simp; done) | (simp [*]; done)), H', ⟨by have := HK1.out; omega⟩, ⟨by (with_reducible repeat (first | apply Kd.R_alloc | apply Kd.R_drewN | apply Kd.R_drew)); exact HO213.out⟩, ⟨by repeat (first | (with_reducible first | exact HB.out | apply below_alloc | apply pw_below_drewN | apply below_drew1) | exact HB.out)⟩⟩
            · rw [if_neg c7] at H
              exact absurd H (by simp)
          · rw [if_neg c6] at H
            exact absurd H (by simp)
        · rw [if_neg c5] at H
          exact absurd H (by simp)
      · rw [if_neg c4] at H
        have c4b0 : decide (x12_1 < (l0.length : Int)) = false := decide_eq_false c4
        clear c4
        by_cases c9 : x3_1.length < 17592186044416
        · rw [if_pos c9] at H
          have LMc9 := Aside0.mk c9
          clear c9
          obtain ⟨y214, hy214⟩ : ∃ y_ : List Int, y_ = (x3_1 ++ [0]) := ⟨_, rfl⟩
          replace H : (some y214) = some r := by first | (rw [hy214]; with_reducible exact H) | (have H2_ := (Option.bind_some _ _).symm.trans H; rw [hy214]; with_reducible exact H2_) | (have H2_ := (Option.bind_some _ _).symm.trans H; with_reducible exact H2_) | with_reducible exact H | (rw [hy214]; exact H) | exact H
          have Ny214 := Aside0.mk hy214
          clear hy214
          obtain rfl := Option.some.inj H
          go_wp2_with (first | ((with_reducible refine gate_builtin (b := .append) (xs := #[.tmp 22, .tmp 23]) rfl ?_); at_builtin; refine Kd.R_append (Kd.int .i64) (w0 := w) w.heap.size rfl (.tmp 22) (.tmp 23) 30 3 (.int .i64 0) 8 rfl Try.underlying30 info3 rfl (by decide) (by omega) u3 x3_1 0 [.int .i64 0] (fun _ => True) (fun _ => False) rfl rfl ?aP (fun _ hk => hk.elim) ?aF ?aO ?aB ?aS ?aL ?_; (case aP => exact rfl); (case aB => exact (by repeat (first | (with_reducible first | exact HB.out | apply below_alloc | apply pw_below_drewN | apply below_drew1) | exact HB.out))); (case aF => exact (fun _ _ => trivial)); (case aO => exact (by (with_reducible repeat (first | apply Kd.R_alloc | apply Kd.R_drewN | apply Kd.R_drew)); exact HO_3.out)); (case aS => exact (below_size (by repeat (first | (with_reducible first | exact HB.out | apply below_alloc | apply pw_below_drewN | apply below_drew1) | exact HB.out)))); (case aL => have := LMc9.out; omega); intro v215 w10 ho hb hg hat; rw [← Ny214.out] at ho; have n0_ := Aside0.mk (hb); have n1_ := Aside0.mk (ho); clear HB; clear HO_3; have HB := n0_; have HO216 := n1_; clear n0_ n1_; clear ho hb hg hat))
          go_ret
          exact ⟨_, by first | rfl | (simp [errW_none, errW_some] <;> rfl) | (simp [*, errW_none, errW_some] <;> rfl), by (with_reducible repeat (first | apply Kd.R_alloc | apply Kd.R_drewN | apply Kd.R_drew)); exact HO216.out, by repeat (first | (with_reducible first | exact HB.out | apply below_alloc | apply pw_below_drewN | apply below_drew1) | exact HB.out)⟩
        · rw [if_neg c9] at H
          exact absurd H (by simp)

end Go.Proofs.Ytnnkjjacpbbigaa.PB
namespace Go.Proofs.Ytnnkjjacpbbigaa.PB
open Go.RowKit Go.Proofs.YtnnkjjacpbbigaaW.PrintWords Go.Proofs.YtnnkjjacpbbigaaW.PrintLast Go.Proofs.YtnnkjjacpbbigaaW.PrintMore
attribute [local go_sem] max2_int min2_int max_two min_two max_three min_three max_four min_four   -- for this text's walks alone

/-! ### cells of a row put in another order (a sort) -/
section
open Go.Sort
variable {α : Type} [Inhabited α]
theorem cm_holds {enc : α → Value} {w : World} {g : Nat} {cur : Array Value} {e : TypeId} {d : Array α} (hb : w.heap[g]? = some (.cells cur e (0, 0))) (ht : cur.toList.take d.size = d.toList.map enc) : Holds enc w g 0 d := by
  intro j hj
  refine ⟨?_, by simp [World.frozen?, hb]⟩
  have h1 : (cur.toList.take d.size)[j]? = (d.toList.map enc)[j]? := by rw [ht]
  rw [List.getElem?_take_of_lt hj] at h1
  simp only [World.cell?, hb, Nat.zero_add]
  simp only [Option.isSome_none, Bool.false_eq_true, if_false]
  rw [← Array.getElem?_toList, h1]
  simp [hj]
theorem cm_heap_sorted {enc : α → Value} {w : World} {g n : Nat} {os : Array Obj} {cur : Array Value} {e : TypeId} {fr : Nat × Nat} (d : Array α) (hb : w.heap[g]? = some (.cells cur e fr)) :
    (sortWorld enc w g 0 n d os).heap[g]? = some (.cells (putCells enc 0 d cur) e fr) := by
  have hg : g < w.heap.size := (Array.getElem?_eq_some_iff.1 hb).1
  unfold sortWorld
  rw [heap_grow_old _ _ (by simpa using hg)]
  simp [putRow, mapBlock, Sort.ahead, Array.getElem?_modify, hb, onCells]
theorem cm_grown_sorted {enc : α → Value} {w : World} {g n : Nat} {os : Array Obj} (d : Array α) : w.grownBy (sortWorld enc w g 0 n d os) (some g) := by
  unfold sortWorld
  refine ⟨rfl, rfl, rfl, by simp, fun k hk hne => ?_⟩
  rw [heap_grow_old _ _ (by simpa using hk)]
  have : g ≠ k := fun e => hne (by rw [e])
  simp [putRow, mapBlock, Sort.ahead, Array.getElem?_modify, this]
theorem cm_take_putCells {enc : α → Value} (cur : Array Value) (d : Array α) (h : d.size ≤ cur.size) : (putCells enc 0 d cur).toList.take d.size = d.toList.map enc := by
  apply List.ext_getElem?
  intro j
  by_cases hj : j < d.size
  · rw [List.getElem?_take_of_lt hj, Array.getElem?_toList]
    simp [putCells, hj, show j < cur.size by omega]
  · rw [List.getElem?_take_eq_none (by omega), List.getElem?_eq_none (by simp; omega)]
theorem cm_owns_sorted {enc : α → Value} {w : World} {base g cap n m : Nat} {e : TypeId} {os : Array Obj} {cur : Array Value} (d : Array α) (hm : d.size = m) (hbase : base ≤ g) (hb : w.heap[g]? = some (.cells cur e (0, 0)))
    (h1 : m ≤ cap) (h2 : cap ≤ maxLen) (h3 : cur.size = cap * 1) :
    (sortWorld enc w g 0 n d os).ownsRow base e 1 (.slice (some ⟨g, 0, none⟩) m cap) m (d.toList.map enc) := by
  subst hm
  exact ⟨by simp, .inr ⟨g, cap, _, rfl, hbase, cm_heap_sorted _ hb, h1, h2, by simp [putCells, h3], by rw [Nat.mul_one]; exact cm_take_putCells cur d (by omega)⟩⟩
end
/-! ### some of a row's elements, in any order, in a row again: they lie apart as they did -/
section
variable {α : Type} {d : Kd α} {e : Nat} {W W' : World} {base : Nat} {ok : Nat → Prop} {v v' : Value} {xs : List α}
theorem cm_S_pick {f : Nat → Nat} {inner inner' : List Value} (hok : ∀ k, v'.ownBlock = some k → ok k) (hv : ∀ k, some k ≠ v.ownBlock → some k ≠ v'.ownBlock)
    (hr : Reps ((Kd.tag f d).M W base (fun k => ok k ∧ some k ≠ v.ownBlock)) d.sz xs.zipIdx inner) (js : List Nat) (hn : js.Nodup) (z : α)
    (hj : ∀ j ∈ js, j < xs.length) (ho : W'.ownsRow base e d.sz v' js.length inner') (hi : ∀ q j, js[q]? = some j → (inner'.drop (q * d.sz)).take d.sz = (inner.drop (j * d.sz)).take d.sz)
    (hm : ∀ k, some k ≠ v.ownBlock → k < W.heap.size → W'.heap[k]? = W.heap[k]?) : Kd.S d e W' base ok v' (js.map fun j => xs.getD j z) := by
  refine ⟨fun k => js.idxOf (f k), hok, inner', by rw [List.length_zipIdx, List.length_map]; exact ho, ?_, ?_⟩
  · rw [List.length_zipIdx, List.length_map]; exact ho.1
  · intro q p hp
    rw [List.getElem?_zipIdx, List.getElem?_map, Nat.zero_add] at hp
    cases hjq : js[q]? with
    | none => rw [hjq] at hp; cases hp
    | some j =>
      rw [hjq] at hp
      simp only [Option.map_some, Option.some.injEq] at hp
      subst hp
      have hjm : j ∈ js := List.mem_of_getElem? hjq
      have hjl := hj j hjm
      have h1 := hr.2 j (xs.getD j z, j) (Kd.zip_at (by rw [List.getD_eq_getElem?_getD, List.getElem?_eq_getElem hjl]; rfl))
      change d.M W base (fun k => (ok k ∧ some k ≠ v.ownBlock) ∧ f k = j) (xs.getD j z) ((inner.drop (j * d.sz)).take d.sz) at h1
      show d.M W' base (fun k => (ok k ∧ some k ≠ v'.ownBlock) ∧ js.idxOf (f k) = q) (xs.getD j z) ((inner'.drop (q * d.sz)).take d.sz)
      rw [hi q j hjq]
      refine d.M_mono (fun k hk => ?_) (d.M_move (fun k hk => hm k hk.1.1.2 hk.2.2.1) (d.M_bound h1))
      refine ⟨⟨hk.1.1.1, hv k hk.1.1.2⟩, ?_⟩
      rw [hk.1.2]
      obtain ⟨hq, he⟩ := List.getElem?_eq_some_iff.1 hjq
      rw [← he]
      exact hn.idxOf_getElem q hq
end
/-! ### lists of integers in their order -/
def lexI : List Int → List Int → Int
  | [], [] => 0
  | [], _ :: _ => -1
  | _ :: _, [] => 1
  | a :: l, b :: m => if a < b then -1 else if b < a then 1 else lexI l m
theorem lexI_neg : ∀ l m, lexI m l = - lexI l m
  | [], [] => rfl
  | [], _ :: _ => rfl
  | _ :: _, [] => rfl
  | a :: l, b :: m => by
    simp only [lexI]
    have := lexI_neg l m
    split <;> split <;> first | omega | (try split) <;> omega
theorem lexI_zero : ∀ l m, lexI l m = 0 → l = m
  | [], [], _ => rfl
  | [], _ :: _, h => by simp [lexI] at h
  | _ :: _, [], h => by simp [lexI] at h
  | a :: l, b :: m, h => by
    simp only [lexI] at h
    split at h
    · omega
    · split at h
      · omega
      · rw [lexI_zero l m h, show a = b by omega]
theorem lexI_self : ∀ l, lexI l l = 0
  | [] => rfl
  | a :: l => by simp only [lexI]; rw [if_neg (by omega), if_neg (by omega)]; exact lexI_self l
theorem lexI_trans : ∀ l m q, lexI l m ≤ 0 → lexI m q ≤ 0 → lexI l q ≤ 0
  | [], _, [], _, _ => by simp [lexI]
  | [], _, _ :: _, _, _ => by simp [lexI]
  | _ :: _, [], _, h, _ => by simp [lexI] at h
  | _ :: _, _ :: _, [], _, h => by simp [lexI] at h
  | a :: l, b :: m, c :: q, h1, h2 => by
    simp only [lexI] at h1 h2 ⊢
    have := lexI_trans l m q
    split
    · omega
    · split at h1
      · split at h2
        · omega
        · split at h2
          · omega
          · split
            · omega
            · omega
      · split at h1
        · omega
        · split at h2
          · omega
          · split at h2
            · omega
            · rw [if_neg (by omega)]
              exact this h1 h2
theorem lexI_anti (l m : List Int) (h1 : lexI l m ≤ 0) (h2 : lexI m l ≤ 0) : l = m := lexI_zero l m (by have := lexI_neg l m; omega)
def insL (a : List Int) : List (List Int) → List (List Int)
  | [] => [a]
  | b :: l => if lexI a b ≤ 0 then a :: b :: l else b :: insL a l
def sortLL : List (List Int) → List (List Int)
  | [] => []
  | a :: l => insL a (sortLL l)
theorem insL_perm (a : List Int) : ∀ l, (insL a l).Perm (a :: l)
  | [] => .refl _
  | b :: l => by
    unfold insL
    split
    · exact .refl _
    · exact ((insL_perm a l).cons b).trans (.swap a b l)
theorem sortLL_perm : ∀ l, (sortLL l).Perm l
  | [] => .refl _
  | a :: l => (insL_perm a _).trans ((sortLL_perm l).cons a)
theorem insL_sorted (a : List Int) : ∀ l, l.Pairwise (fun x y => lexI x y ≤ 0) → (insL a l).Pairwise (fun x y => lexI x y ≤ 0)
  | [], _ => List.pairwise_singleton _ _
  | b :: l, h => by
    unfold insL
    split
    · rename_i hab
      refine List.pairwise_cons.2 ⟨fun c hc => ?_, h⟩
      rcases List.mem_cons.1 hc with rfl | hc
      · exact hab
      · exact lexI_trans _ _ _ hab ((List.pairwise_cons.1 h).1 c hc)
    · rename_i hab
      refine List.pairwise_cons.2 ⟨fun c hc => ?_, insL_sorted a l (List.pairwise_cons.1 h).2⟩
      rcases List.mem_cons.1 ((insL_perm a l).mem_iff.1 hc) with rfl | hc
      · have := lexI_neg b c
        omega
      · exact (List.pairwise_cons.1 h).1 c hc
theorem sortLL_sorted : ∀ l, (sortLL l).Pairwise (fun x y => lexI x y ≤ 0)
  | [] => List.Pairwise.nil
  | a :: l => insL_sorted a _ (sortLL_sorted l)
theorem sortLL_eq {l m : List (List Int)} (hp : m.Perm l) (hs : m.Pairwise (fun x y => lexI x y ≤ 0)) : m = sortLL l :=
  List.Perm.eq_of_pairwise (fun a b _ _ h1 h2 => lexI_anti a b h1 h2) hs (sortLL_sorted l) (hp.trans (sortLL_perm l).symm)

end Go.Proofs.Ytnnkjjacpbbigaa.PB
namespace Go.Proofs.Ytnnkjjacpbbigaa.PB
open Go.RowKit Go.Proofs.YtnnkjjacpbbigaaW.PrintWords Go.Proofs.YtnnkjjacpbbigaaW.PrintLast Go.Proofs.YtnnkjjacpbbigaaW.PrintMore
attribute [local go_sem] max2_int min2_int max_two min_two max_three min_three max_four min_four   -- for this text's walks alone

/-! ### cmp_isNaN_int: function 153 -/
def cmp_isNaN_int.f (a0 : Int) : Option (Bool) := some (a0 != a0)
set_option maxHeartbeats 8000000 in
set_option maxRecDepth 100000 in
theorem cmp_isNaN_int.calls (a0 : Int) (r : Bool) (w : World) (h : cmp_isNaN_int.f a0 = some r) :
    Calls Try.prog 153 #[.int .i64 a0] w fun e w' => e = .returned (.bool r) ∧ Drawn0 w w' := by
  have H : (some (a0 != a0)) = some r := h
  clear h
  obtain rfl := Option.some.inj H
  go_enter Try.func153, Try.ntmps153
  go_wp2
  go_ret
  exact ⟨by first | rfl | (simp; done) | (simp [*]; done), by repeat (first | exact Drawn0.refl _ | apply Drawn0.step)⟩

end Go.Proofs.Ytnnkjjacpbbigaa.PB
namespace Go.Proofs.Ytnnkjjacpbbigaa.PB
open Go.RowKit Go.Proofs.YtnnkjjacpbbigaaW.PrintWords Go.Proofs.YtnnkjjacpbbigaaW.PrintLast Go.Proofs.YtnnkjjacpbbigaaW.PrintMore
attribute [local go_sem] max2_int min2_int max_two min_two max_three min_three max_four min_four   -- for this text's walks alone

/-! ### cmp_Compare_int: function 131 -/
def cmp_Compare_int.f (a0 : Int) (a1 : Int) : Option (Int) := (cmp_isNaN_int.f a0).bind fun t217 => ((cmp_isNaN_int.f a1).bind fun t218 => (if t217 = true then (if t218 = true then (some 0) else (some (-1))) else (if t218 = true then (some 1) else (if a0 < a1 then (some (-1)) else (if a0 > a1 then (some 1) else (some 0))))))
set_option maxHeartbeats 8000000 in
set_option maxRecDepth 100000 in
theorem cmp_Compare_int.calls (a0 : Int) (a1 : Int) (r : Int) (w : World) (h : cmp_Compare_int.f a0 a1 = some r) :
    Calls Try.prog 131 #[.int .i64 a0, .int .i64 a1] w fun e w' => e = .returned (.int .i64 r) ∧ Drawn0 w w' := by
  have H : ((cmp_isNaN_int.f a0).bind fun t217 => ((cmp_isNaN_int.f a1).bind fun t218 => (if t217 = true then (if t218 = true then (some 0) else (some (-1))) else (if t218 = true then (some 1) else (if a0 < a1 then (some (-1)) else (if a0 > a1 then (some 1) else (some 0))))))) = some r := h
  clear h
  replace H := Option.bind_eq_some_iff.mp H
  obtain ⟨t217, A30, H⟩ := H
  replace H : ((cmp_isNaN_int.f a1).bind fun t218 => (if t217 = true then (if t218 = true then (some 0) else (some (-1))) else (if t218 = true then (some 1) else (if a0 < a1 then (some (-1)) else (if a0 > a1 then (some 1) else (some 0)))))) = some r := H
  have A3 := Aside0.mk A30
  clear A30
  replace H := Option.bind_eq_some_iff.mp H
  obtain ⟨t218, A40, H⟩ := H
  replace H : (if t217 = true then (if t218 = true then (some 0) else (some (-1))) else (if t218 = true then (some 1) else (if a0 < a1 then (some (-1)) else (if a0 > a1 then (some 1) else (some 0))))) = some r := H
  have A4 := Aside0.mk A40
  clear A40
  by_cases c5 : t217 = true
  · subst c5
    have H1 : (if t218 = true then (some 0) else (some (-1))) = some r := by rw [if_pos rfl] at H; exact H
    clear H
    have H := H1
    clear H1
    by_cases c6 : t218 = true
    · subst c6
      have H1 : (some 0) = some r := by rw [if_pos rfl] at H; exact H
      clear H
      have H := H1
      clear H1
      obtain rfl := Option.some.inj H
      go_enter Try.func131, Try.ntmps131
      go_wp2_with (first | ((with_reducible refine gate_callee (f := 153) rfl ?_); refine goesL_ (some 8) rfl rfl Try.func153 (by kernel_rfl) rfl #[.int .i64 a0] rfl (by (try simp only [List.map_toArray, List.map_cons, List.map_nil]); first | done | rfl | (simp only [List.length_drop, List.length_take]; rfl)) ?_; (with_reducible refine (cmp_isNaN_int.calls a0 true _ A3.out).mono ?_); rintro e w' ⟨rfl, ⟨nd, rfl⟩⟩; refine ⟨_, rfl, ?_⟩) | ((with_reducible refine gate_callee (f := 153) rfl ?_); refine goesL_ (some 10) rfl rfl Try.func153 (by kernel_rfl) rfl #[.int .i64 a1] rfl (by (try simp only [List.map_toArray, List.map_cons, List.map_nil]); first | done | rfl | (simp only [List.length_drop, List.length_take]; rfl)) ?_; (with_reducible refine (cmp_isNaN_int.calls a1 true _ A4.out).mono ?_); rintro e w' ⟨rfl, ⟨nd, rfl⟩⟩; refine ⟨_, rfl, ?_⟩))
      go_ret
      exact ⟨by first | rfl | (simp; done) | (simp [*]; done), by repeat (first | exact Drawn0.refl _ | apply Drawn0.step)⟩
    · replace c6 := Bool.eq_false_iff.mpr c6
      subst c6
      have H1 : (some (-1)) = some r := by rw [if_neg (show ¬ (false = true) by decide)] at H; exact H
      clear H
      have H := H1
      clear H1
      obtain rfl := Option.some.inj H
      go_enter Try.func131, Try.ntmps131
      go_wp2_with (first | ((with_reducible refine gate_callee (f := 153) rfl ?_); refine goesL_ (some 8) rfl rfl Try.func153 (by kernel_rfl) rfl #[.int .i64 a0] rfl (by (try simp only [List.map_toArray, List.map_cons, List.map_nil]); first | done | rfl | (simp only [List.length_drop, List.length_take]; rfl)) ?_; (with_reducible refine (cmp_isNaN_int.calls a0 true _ A3.out).mono ?_); rintro e w' ⟨rfl, ⟨nd, rfl⟩⟩; refine ⟨_, rfl, ?_⟩) | ((with_reducible refine gate_callee (f := 153) rfl ?_); refine goesL_ (some 10) rfl rfl Try.func153 (by kernel_rfl) rfl #[.int .i64 a1] rfl (by (try simp only [List.map_toArray, List.map_cons, List.map_nil]); first | done | rfl | (simp only [List.length_drop, List.length_take]; rfl)) ?_; (with_reducible refine (cmp_isNaN_int.calls a1 false _ A4.out).mono ?_); rintro e w' ⟨rfl, ⟨nd, rfl⟩⟩; refine ⟨_, rfl, ?_⟩))
      go_ret
      exact ⟨by first | rfl | (simp; done) | (simp [*]; done), by repeat (first | exact Drawn0.refl _ | apply Drawn0.step)⟩
  · replace c5 := Bool.eq_false_iff.mpr c5
    subst c5
    have H1 : (if t218 = true then (some 1) else (if a0 < a1 then (some (-1)) else (if a0 > a1 then (some 1) else (some 0)))) = some r := by rw [if_neg (show ¬ (false = true) by decide)] at H; exact H
    clear H
    have H := H1
    clear H1
    by_cases c7 : t218 = true
    · subst c7
      have H1 : (some 1) = some r := by rw [if_pos rfl] at H; exact H
      clear H
      have H := H1
      clear H1
      obtain rfl := Option.some.inj H
      go_enter Try.func131, Try.ntmps131
      go_wp2_with (first | ((with_reducible refine gate_callee (f := 153) rfl ?_); refine goesL_ (some 8) rfl rfl Try.func153 (by kernel_rfl) rfl #[.int .i64 a0] rfl (by (try simp only [List.map_toArray, List.map_cons, List.map_nil]); first | done | rfl | (simp only [List.length_drop, List.length_take]; rfl)) ?_; (with_reducible refine (cmp_isNaN_int.calls a0 false _ A3.out).mono ?_); rintro e w' ⟨rfl, ⟨nd, rfl⟩⟩; refine ⟨_, rfl, ?_⟩) | ((with_reducible refine gate_callee (f := 153) rfl ?_); refine goesL_ (some 10) rfl rfl Try.func153 (by kernel_rfl) rfl #[.int .i64 a1] rfl (by (try simp only [List.map_toArray, List.map_cons, List.map_nil]); first | done | rfl | (simp only [List.length_drop, List.length_take]; rfl)) ?_; (with_reducible refine (cmp_isNaN_int.calls a1 true _ A4.out).mono ?_); rintro e w' ⟨rfl, ⟨nd, rfl⟩⟩; refine ⟨_, rfl, ?_⟩))
      go_ret
      exact ⟨by first | rfl | (simp; done) | (simp [*]; done), by repeat (first | exact Drawn0.refl _ | apply Drawn0.step)⟩
    · replace c7 := Bool.eq_false_iff.mpr c7
      subst c7
      have H1 : (if a0 < a1 then (some (-1)) else (if a0 > a1 then (some 1) else (some 0))) = some r := by rw [if_neg (show ¬ (false = true) by decide)] at H; exact H
      clear H
      have H := H1
      clear H1
      by_cases c8 : a0 < a1
      · rw [if_pos c8] at H
        have c8b0 : decide (a0 < a1) = true := decide_eq_true c8
        clear c8
        obtain rfl := Option.some.inj H
        go_enter Try.func131, Try.ntmps131
        go_wp2_with (first | ((with_reducible refine gate_callee (f := 153) rfl ?_); refine goesL_ (some 8) rfl rfl Try.func153 (by kernel_rfl) rfl #[.int .i64 a0] rfl (by (try simp only [List.map_toArray, List.map_cons, List.map_nil]); first | done | rfl | (simp only [List.length_drop, List.length_take]; rfl)) ?_; (with_reducible refine (cmp_isNaN_int.calls a0 false _ A3.out).mono ?_); rintro e w' ⟨rfl, ⟨nd, rfl⟩⟩; refine ⟨_, rfl, ?_⟩) | ((with_reducible refine gate_callee (f := 153) rfl ?_); refine goesL_ (some 10) rfl rfl Try.func153 (by kernel_rfl) rfl #[.int .i64 a1] rfl (by (try simp only [List.map_toArray, List.map_cons, List.map_nil]); first | done | rfl | (simp only [List.length_drop, List.length_take]; rfl)) ?_; (with_reducible refine (cmp_isNaN_int.calls a1 false _ A4.out).mono ?_); rintro e w' ⟨rfl, ⟨nd, rfl⟩⟩; refine ⟨_, rfl, ?_⟩))
        go_ret
        exact ⟨by first | rfl | (simp; done) | (simp [*]; done), by repeat (first | exact Drawn0.refl _ | apply Drawn0.step)⟩
      · rw [if_neg c8] at H
        have c8b0 : decide (a0 < a1) = false := decide_eq_false c8
        clear c8
        by_cases c9 : a0 > a1
        · rw [if_pos c9] at H
          have c9b0 : decide (a1 < a0) = true := decide_eq_true c9
          clear c9
          obtain rfl := Option.some.inj H
          go_enter Try.func131, Try.ntmps131
          go_wp2_with (first | ((with_reducible refine gate_callee (f := 153) rfl ?_); refine goesL_ (some 8) rfl rfl Try.func153 (by kernel_rfl) rfl #[.int .i64 a0] rfl (by (try simp only [List.map_toArray, List.map_cons, List.map_nil]); first | done | rfl | (simp only [List.length_drop, List.length_take]; rfl)) ?_; (with_reducible refine (cmp_isNaN_int.calls a0 false _ A3.out).mono ?_); rintro e w' ⟨rfl, ⟨nd, rfl⟩⟩; refine ⟨_, rfl, ?_⟩) | ((with_reducible refine gate_callee (f := 153) rfl ?_); refine goesL_ (some 10) rfl rfl Try.func153 (by kernel_rfl) rfl #[.int .i64 a1] rfl (by (try simp only [List.map_toArray, List.map_cons, List.map_nil]); first | done | rfl | (simp only [List.length_drop, List.length_take]; rfl)) ?_; (with_reducible refine (cmp_isNaN_int.calls a1 false _ A4.out).mono ?_); rintro e w' ⟨rfl, ⟨nd, rfl⟩⟩; refine ⟨_, rfl, ?_⟩))
          go_ret
          exact ⟨by first | rfl | (simp; done) | (simp [*]; done), by repeat (first | exact Drawn0.refl _ | apply Drawn0.step)⟩
        · rw [if_neg c9] at H
          have c9b0 : decide (a1 < a0) = false := decide_eq_false c9
          clear c9
          obtain rfl := Option.some.inj H
          go_enter Try.func131, Try.ntmps131
          go_wp2_with (first | ((with_reducible refine gate_callee (f := 153) rfl ?_); refine goesL_ (some 8) rfl rfl Try.func153 (by kernel_rfl) rfl #[.int .i64 a0] rfl (by (try simp only [List.map_toArray, List.map_cons, List.map_nil]); first | done | rfl | (simp only [List.length_drop, List.length_take]; rfl)) ?_; (with_reducible refine (cmp_isNaN_int.calls a0 false _ A3.out).mono ?_); rintro e w' ⟨rfl, ⟨nd, rfl⟩⟩; refine ⟨_, rfl, ?_⟩) | ((with_reducible refine gate_callee (f := 153) rfl ?_); refine goesL_ (some 10) rfl rfl Try.func153 (by kernel_rfl) rfl #[.int .i64 a1] rfl (by (try simp only [List.map_toArray, List.map_cons, List.map_nil]); first | done | rfl | (simp only [List.length_drop, List.length_take]; rfl)) ?_; (with_reducible refine (cmp_isNaN_int.calls a1 false _ A4.out).mono ?_); rintro e w' ⟨rfl, ⟨nd, rfl⟩⟩; refine ⟨_, rfl, ?_⟩))
          go_ret
          exact ⟨by first | rfl | (simp; done) | (simp [*]; done), by repeat (first | exact Drawn0.refl _ | apply Drawn0.step)⟩

end Go.Proofs.Ytnnkjjacpbbigaa.PB
namespace Go.Proofs.Ytnnkjjacpbbigaa.PB
open Go.RowKit Go.Proofs.YtnnkjjacpbbigaaW.PrintWords Go.Proofs.YtnnkjjacpbbigaaW.PrintLast Go.Proofs.YtnnkjjacpbbigaaW.PrintMore
attribute [local go_sem] max2_int min2_int max_two min_two max_three min_three max_four min_four   -- for this text's walks alone

/-! ### slices_Compare_int_int: function 105 -/
def slices_Compare_int_int.l0 : Nat → List Int → List Int → List Int → Int → Int → Option (Int)
  | 0, _, _, _, _, _ => none
  | k + 1, x0, x1, x9, x10, x11 => if x11 < x10 then (if 0 ≤ x11 then (if x11 < (x9.length : Int) then (if x11 ≥ (x1.length : Int) then (some 1) else (if x11 < (x1.length : Int) then ((cmp_Compare_int.f (rd x9 x11) (rd x1 x11)).bind fun t221 => (if t221 = 0 then (slices_Compare_int_int.l0 k x0 x1 x9 x10 (wrap64 (x11 + 1))) else (some t221))) else (none))) else (none)) else (none)) else (if (x0.length : Int) < (x1.length : Int) then (some (-1)) else (some 0))
def slices_Compare_int_int.f (k : Nat) (l0 : List Int) (l1 : List Int) : Option (Int) := slices_Compare_int_int.l0 k l0 l1 l0 (l0.length : Int) 0
theorem slices_Compare_int_int.mono_l : ∀ k, (∀ y0 y1 y2 y3 y4, LeO (slices_Compare_int_int.l0 k y0 y1 y2 y3 y4) (slices_Compare_int_int.l0 (k + 1) y0 y1 y2 y3 y4))
  | 0 => fun _ _ _ _ _ r h => by simp [slices_Compare_int_int.l0] at h
  | k + 1 => by
    have ih0 := slices_Compare_int_int.mono_l k
    · intro y0 y1 y2 y3 y4
      unfold slices_Compare_int_int.l0
      repeat' first
      | (with_reducible exact ih0 _ _ _ _ _)
      | (with_reducible exact LeO.refl _)
      | (with_reducible exact LeO.none _)
      | (with_reducible refine LeO.ite ?_ ?_)
      | (with_reducible refine LeO.bind ?_ (fun _ => ?_))
      | exact ih0 _ _ _ _ _
      | exact LeO.none _
      | refine LeO.ite ?_ ?_
      | refine LeO.bind ?_ (fun _ => ?_)
theorem slices_Compare_int_int.mono : ∀ a0 a1 k, LeO (slices_Compare_int_int.f k a0 a1) (slices_Compare_int_int.f (k + 1) a0 a1) := by
  intro a0 a1 k
  have ih0 := slices_Compare_int_int.mono_l k
  unfold slices_Compare_int_int.f
  repeat' first
      | (with_reducible exact ih0 _ _ _ _ _)
      | (with_reducible exact LeO.refl _)
      | (with_reducible exact LeO.none _)
      | (with_reducible refine LeO.ite ?_ ?_)
      | (with_reducible refine LeO.bind ?_ (fun _ => ?_))
      | exact ih0 _ _ _ _ _
      | exact LeO.none _
      | refine LeO.ite ?_ ?_
      | refine LeO.bind ?_ (fun _ => ?_)
set_option maxHeartbeats 8000000 in
set_option maxRecDepth 100000 in
theorem slices_Compare_int_int.calls (k : Nat) (A0 : Option Addr) (c0 : Nat) (l0 : List Int) (A1 : Option Addr) (c1 : Nat) (l1 : List Int) (r : Int) (w : World) (hr0 : Kd.C (Kd.int .i64) w A0 l0.length l0) (hc0 : l0.length ≤ c0) (hr1 : Kd.C (Kd.int .i64) w A1 l1.length l1) (hc1 : l1.length ≤ c1) (h : slices_Compare_int_int.f k l0 l1 = some r) :
    Calls Try.prog 105 #[.slice A0 l0.length c0, .slice A1 l1.length c1] w fun e w' => e = .returned (.int .i64 r) ∧ Drawn0 w w' := by
  have HR0 := Aside0.mk hr0
  have HC0 := Aside0.mk hc0
  clear hr0 hc0
  have HR1 := Aside0.mk hr1
  have HC1 := Aside0.mk hc1
  clear hr1 hc1
  have H : (slices_Compare_int_int.l0 k l0 l1 l0 (l0.length : Int) 0) = some r := h
  clear h
  have H' := Aside0.mk H
  clear H
  go_enter Try.func105, Try.ntmps105
  go_wp2
  go_loopg [11] k (fun kq v11 w' => ∃ (x11_1 : Int), v11 = .int .i64 x11_1 ∧ Aside0 (slices_Compare_int_int.l0 kq l0 l1 l0 (l0.length : Int) x11_1 = some r) ∧ Aside0 (kq ≤ k) ∧ Drawn0 w w')
  case atStart => exact ⟨(0), (by first | rfl | (simp; done) | (simp [*]; done)), H', ⟨Nat.le_refl _⟩, by repeat (first | exact Drawn0.refl _ | apply Drawn0.step)⟩
  case round =>
    clear H'
    try clear c1
    try clear p2
    obtain ⟨x11_1, rfl, HA, HK1, ⟨m1, rfl⟩⟩ := hrel
    cases gk with
    | zero => exact absurd HA.out (by simp [slices_Compare_int_int.l0])
    | succ k1 =>
      have H := HA.out
      clear HA
      simp only [slices_Compare_int_int.l0] at H
      by_cases c3 : x11_1 < (l0.length : Int)
      · rw [if_pos c3] at H
        have c3b0 : decide (x11_1 < (l0.length : Int)) = true := decide_eq_true c3
        clear c3
        by_cases c4 : 0 ≤ x11_1
        · rw [if_pos c4] at H
          have c4b0 : decide (0 ≤ x11_1) = true := decide_eq_true c4
          clear c4
          by_cases c5 : x11_1 < (l0.length : Int)
          · rw [if_pos c5] at H
            have c5b0 : decide (x11_1 < (l0.length : Int)) = true := decide_eq_true c5
            clear c5
            by_cases c6 : x11_1 ≥ (l1.length : Int)
            · rw [if_pos c6] at H
              have c6b0 : decide ((l1.length : Int) ≤ x11_1) = true := decide_eq_true c6
              clear c6
              obtain rfl := Option.some.inj H
              have p219 : 0 ≤ (x11_1 : Int) := of_decide_eq_true (by first | (with_reducible assumption) | assumption)
              have q219 : x11_1 < (l0.length : Int) := of_decide_eq_true (by first | (with_reducible assumption) | assumption)
              obtain ⟨ad219, e219, hx219_0⟩ := Kd.at_int HR0.out x11_1 p219 q219
              cases e219
              replace p219 := eq_true p219
              replace q219 := eq_true q219
              go_wp2
              go_ret
              exact ⟨by first | rfl | (simp; done) | (simp [*]; done), by repeat (first | exact Drawn0.refl _ | apply Drawn0.step)⟩
            · rw [if_neg c6] at H
              have c6b0 : decide ((l1.length : Int) ≤ x11_1) = false := decide_eq_false c6
              clear c6
              by_cases c7 : x11_1 < (l1.length : Int)
              · rw [if_pos c7] at H
                have c7b0 : decide (x11_1 < (l1.length : Int)) = true := decide_eq_true c7
                clear c7
                replace H := Option.bind_eq_some_iff.mp H
                obtain ⟨t221, A80, H⟩ := H
                replace H : (if t221 = 0 then (slices_Compare_int_int.l0 k1 l0 l1 l0 (l0.length : Int) (wrap64 (x11_1 + 1))) else (some t221)) = some r := H
                have A8 := Aside0.mk A80
                clear A80
                by_cases c9 : t221 = 0
                · rw [if_pos c9] at H
                  have c9b0 : (t221 == 0) = true := beq_iff_eq.mpr c9
                  have c9b1 : (t221 != 0) = false := bne_eq_false_iff_eq.mpr c9
                  clear c9
                  have H' := Aside0.mk H
                  clear H
                  have p219 : 0 ≤ (x11_1 : Int) := of_decide_eq_true (by first | (with_reducible assumption) | assumption)
                  have q219 : x11_1 < (l0.length : Int) := of_decide_eq_true (by first | (with_reducible assumption) | assumption)
                  obtain ⟨ad219, e219, hx219_0⟩ := Kd.at_int HR0.out x11_1 p219 q219
                  cases e219
                  replace p219 := eq_true p219
                  replace q219 := eq_true q219
                  have p220 : 0 ≤ (x11_1 : Int) := of_decide_eq_true (by first | (with_reducible assumption) | assumption)
                  have q220 : x11_1 < (l1.length : Int) := of_decide_eq_true (by first | (with_reducible assumption) | assumption)
                  obtain ⟨ad220, e220, hx220_0⟩ := Kd.at_int HR1.out x11_1 p220 q220
                  cases e220
                  replace p220 := eq_true p220
                  replace q220 := eq_true q220
                  go_wp2_with (first | ((with_reducible refine gate_callee (f := 131) rfl ?_); refine goesL_ (some 26) rfl rfl Try.func131 (by kernel_rfl) rfl #[.int .i64 (rd l0 x11_1), .int .i64 (rd l1 x11_1)] rfl (by (try simp only [List.map_toArray, List.map_cons, List.map_nil]); first | done | rfl | (simp only [List.length_drop, List.length_take]; rfl)) ?_; (with_reducible refine (cmp_Compare_int.calls (rd l0 x11_1) (rd l1 x11_1) t221 _ A8.out).mono ?_); rintro e w' ⟨rfl, ⟨nd, rfl⟩⟩; refine ⟨_, rfl, ?_⟩))
                  go_roundg k1
                  case measure => have := HK1.out; omega
                  case rel => exact ⟨(wrap64 (x11_1 + 1)), (by first | rfl | (simp; done) | (simp [*]; done)), H', ⟨by have := HK1.out; omega⟩, by repeat (first | exact Drawn0.refl _ | apply Drawn0.step)⟩
                · rw [if_neg c9] at H
                  have c9b0 : (t221 == 0) = false := beq_eq_false_iff_ne.mpr c9
                  have c9b1 : (t221 != 0) = true := bne_iff_ne.mpr c9
                  obtain rfl := Option.some.inj H
                  have p219 : 0 ≤ (x11_1 : Int) := of_decide_eq_true (by first | (with_reducible assumption) | assumption)
                  have q219 : x11_1 < (l0.length : Int) := of_decide_eq_true (by first | (with_reducible assumption) | assumption)
                  obtain ⟨ad219, e219, hx219_0⟩ := Kd.at_int HR0.out x11_1 p219 q219
                  cases e219
                  replace p219 := eq_true p219
                  replace q219 := eq_true q219
                  have p220 : 0 ≤ (x11_1 : Int) := of_decide_eq_true (by first | (with_reducible assumption) | assumption)
                  have q220 : x11_1 < (l1.length : Int) := of_decide_eq_true (by first | (with_reducible assumption) | assumption)
                  obtain ⟨ad220, e220, hx220_0⟩ := Kd.at_int HR1.out x11_1 p220 q220
                  cases e220
                  replace p220 := eq_true p220
                  replace q220 := eq_true q220
                  go_wp2_with (first | ((with_reducible refine gate_callee (f := 131) rfl ?_); refine goesL_ (some 26) rfl rfl Try.func131 (by kernel_rfl) rfl #[.int .i64 (rd l0 x11_1), .int .i64 (rd l1 x11_1)] rfl (by (try simp only [List.map_toArray, List.map_cons, List.map_nil]); first | done | rfl | (simp only [List.length_drop, List.length_take]; rfl)) ?_; (with_reducible refine (cmp_Compare_int.calls (rd l0 x11_1) (rd l1 x11_1) t221 _ A8.out).mono ?_); rintro e w' ⟨rfl, ⟨nd, rfl⟩⟩; refine ⟨_, rfl, ?_⟩))
                  go_ret
                  exact ⟨by first | rfl | (simp; done) | (simp [*]; done), by repeat (first | exact Drawn0.refl _ | apply Drawn0.step)⟩
              · rw [if_neg c7] at H
                exact absurd H (by simp)
          · rw [if_neg c5] at H
            exact absurd H (by simp)
        · rw [if_neg c4] at H
          exact absurd H (by simp)
      · rw [if_neg c3] at H
        have c3b0 : decide (x11_1 < (l0.length : Int)) = false := decide_eq_false c3
        clear c3
        by_cases c10 : (l0.length : Int) < (l1.length : Int)
        · rw [if_pos c10] at H
          have c10b0 : decide ((l0.length : Int) < (l1.length : Int)) = true := decide_eq_true c10
          have c10b1 : decide (l0.length < l1.length) = true := decide_eq_true (Int.ofNat_lt.mp c10)
          clear c10
          obtain rfl := Option.some.inj H
          go_wp2
          go_ret
          exact ⟨by first | rfl | (simp; done) | (simp [*]; done), by repeat (first | exact Drawn0.refl _ | apply Drawn0.step)⟩
        · rw [if_neg c10] at H
          have c10b0 : decide ((l0.length : Int) < (l1.length : Int)) = false := decide_eq_false c10
          have c10b1 : decide (l0.length < l1.length) = false := decide_eq_false (fun h => c10 (Int.ofNat_lt.mpr h))
          clear c10
          obtain rfl := Option.some.inj H
          go_wp2
          go_ret
          exact ⟨by first | rfl | (simp; done) | (simp [*]; done), by repeat (first | exact Drawn0.refl _ | apply Drawn0.step)⟩

end Go.Proofs.Ytnnkjjacpbbigaa.PB
namespace Go.Proofs.Ytnnkjjacpbbigaa.PB
open Go.RowKit Go.Proofs.YtnnkjjacpbbigaaW.PrintWords Go.Proofs.YtnnkjjacpbbigaaW.PrintLast Go.Proofs.YtnnkjjacpbbigaaW.PrintMore
attribute [local go_sem] max2_int min2_int max_two min_two max_three min_three max_four min_four   -- for this text's walks alone

/-! ### slices_SortFunc_int_int: function 104 -/
def lays_SortFuncII_ren : Go.Shelf.Ren := ⟨fun | 6 => 104 | 15 => 100 | 14 => 130 | 28 => 127 | 29 => 128 | 20 => 145 | 21 => 146 | 22 => 147 | 23 => 148 | 24 => 149 | 25 => 150 | 26 => 151 | 27 => 152 | 46 => 160 | 47 => 140 | 48 => 141 | 49 => 161 | 50 => 162 | 57 => 166 | n => n, fun | 22 => 76 | 24 => 30 | 25 => 95 | 3 => 3 | 39 => 91 | 0 => 0 | 53 => 113 | 55 => 73 | 4 => 4 | 46 => 106 | 45 => 105 | 50 => 28 | 5 => 5 | 9 => 9 | 66 => 122 | 70 => 126 | 76 => 136 | 77 => 137 | n => n, fun | n => n⟩
theorem lays_SortFuncII : Go.Proofs.SlLaysF.n6 Try.prog lays_SortFuncII_ren := {
  mixed := by kernel_rfl,
  f6 := ⟨Try.f104.name, by decide, Try.func104.trans (congrArg some (by kernel_rfl))⟩,
  f14 := ⟨Try.f130.name, by decide, Try.func130.trans (congrArg some (by kernel_rfl))⟩,
  f15 := Try.func100.trans (congrArg some (by kernel_rfl)),
  f20 := ⟨Try.f145.name, by decide, Try.func145.trans (congrArg some (by kernel_rfl))⟩,
  f21 := ⟨Try.f146.name, by decide, Try.func146.trans (congrArg some (by kernel_rfl))⟩,
  f22 := ⟨Try.f147.name, by decide, Try.func147.trans (congrArg some (by kernel_rfl))⟩,
  f23 := ⟨Try.f148.name, by decide, Try.func148.trans (congrArg some (by kernel_rfl))⟩,
  f24 := ⟨Try.f149.name, by decide, Try.func149.trans (congrArg some (by kernel_rfl))⟩,
  f25 := ⟨Try.f150.name, by decide, Try.func150.trans (congrArg some (by kernel_rfl))⟩,
  f26 := ⟨Try.f151.name, by decide, Try.func151.trans (congrArg some (by kernel_rfl))⟩,
  f27 := ⟨Try.f152.name, by decide, Try.func152.trans (congrArg some (by kernel_rfl))⟩,
  f28 := Try.func127.trans (congrArg some (by kernel_rfl)),
  f29 := Try.func128.trans (congrArg some (by kernel_rfl)),
  f46 := ⟨Try.f160.name, by decide, Try.func160.trans (congrArg some (by kernel_rfl))⟩,
  f47 := Try.func140.trans (congrArg some (by kernel_rfl)),
  f48 := Try.func141.trans (congrArg some (by kernel_rfl)),
  f49 := ⟨Try.f161.name, by decide, Try.func161.trans (congrArg some (by kernel_rfl))⟩,
  f50 := ⟨Try.f162.name, by decide, Try.func162.trans (congrArg some (by kernel_rfl))⟩,
  f57 := ⟨Try.f166.name, by decide, Try.func166.trans (congrArg some (by kernel_rfl))⟩,
  t0 := Try.underlying0,
  a0 := Try.isAgg0,
  z0 := Try.sizeOf0,
  v0 := Try.zeroValue0,
  t3 := Try.underlying3,
  a3 := Try.isAgg3,
  z3 := Try.sizeOf3,
  v3 := Try.zeroValue3,
  t4 := Try.underlying4,
  a4 := Try.isAgg4,
  z4 := Try.sizeOf4,
  v4 := Try.zeroValue4,
  t5 := Try.underlying5,
  a5 := Try.isAgg5,
  z5 := Try.sizeOf5,
  v5 := Try.zeroValue5,
  t9 := Try.underlying9,
  a9 := Try.isAgg9,
  z9 := Try.sizeOf9,
  v9 := Try.zeroValue9,
  t22 := Try.underlying76,
  a22 := Try.isAgg76,
  z22 := Try.sizeOf76,
  v22 := Try.zeroValue76,
  a24 := Try.isAgg30,
  z24 := Try.sizeOf30,
  t25 := Try.underlying95,
  a25 := Try.isAgg95,
  z25 := Try.sizeOf95,
  v25 := Try.zeroValue95,
  t39 := Try.underlying91,
  a39 := Try.isAgg91,
  z39 := Try.sizeOf91,
  v39 := Try.zeroValue91,
  t45 := Try.underlying105,
  a45 := Try.isAgg105,
  z45 := Try.sizeOf105,
  v45 := Try.zeroValue105,
  t46 := Try.underlying106,
  a46 := Try.isAgg106,
  z46 := Try.sizeOf106,
  v46 := Try.zeroValue106,
  t50 := Try.underlying28,
  a50 := Try.isAgg28,
  z50 := Try.sizeOf28,
  v50 := Try.zeroValue28,
  t53 := Try.underlying113,
  a53 := Try.isAgg113,
  z53 := Try.sizeOf113,
  v53 := Try.zeroValue113,
  t55 := Try.underlying73,
  a55 := Try.isAgg73,
  z55 := Try.sizeOf73,
  v55 := Try.zeroValue73,
  t66 := Try.underlying122,
  a66 := Try.isAgg122,
  z66 := Try.sizeOf122,
  v66 := Try.zeroValue122,
  t70 := Try.underlying126,
  a70 := Try.isAgg126,
  z70 := Try.sizeOf126,
  v70 := Try.zeroValue126,
  t76 := Try.underlying136,
  a76 := Try.isAgg136,
  z76 := Try.sizeOf136,
  v76 := Try.zeroValue136,
  t77 := Try.underlying137,
  a77 := Try.isAgg137,
  z77 := Try.sizeOf137,
  v77 := Try.zeroValue137 }

theorem slices_SortFunc_int_int.cmp_lex (l0 l1 : List Int) (h0 : l0.length ≤ 9223372036854775807) (h1 : l1.length ≤ 9223372036854775807) : ∀ k i, i ≤ l0.length → l0.length < k + i → slices_Compare_int_int.l0 k l0 l1 l0 (l0.length : Int) (i : Int) = some (lexI (l0.drop i) (l1.drop i))
  | 0, i, h, hk => by omega
  | k + 1, i, h, hk => by
    unfold slices_Compare_int_int.l0
    by_cases hi : i < l0.length
    · rw [if_pos (by omega), if_pos (by omega), if_pos (by omega), List.drop_eq_getElem_cons hi]
      by_cases hj : i < l1.length
      · rw [if_neg (by omega), if_pos (by omega), List.drop_eq_getElem_cons hj]
        have e0 : rd l0 (i : Int) = l0[i] := by simp [rd, List.getD_eq_getElem?_getD, hi]
        have e1 : rd l1 (i : Int) = l1[i] := by simp [rd, List.getD_eq_getElem?_getD, hj]
        have ew : wrap64 ((i : Int) + 1) = ((i + 1 : Nat) : Int) := by
          rw [show ((i : Int) + 1) = ((i + 1 : Nat) : Int) by omega]
          simp only [wrap64]
          omega
        rw [e0, e1, ew, slices_SortFunc_int_int.cmp_lex l0 l1 h0 h1 k (i + 1) (by omega) (by omega)]
        simp only [cmp_Compare_int.f, cmp_isNaN_int.f, lexI]
        by_cases c1 : l0[i] < l1[i]
        · simp [c1]
        · by_cases c2 : l1[i] < l0[i]
          · simp [c1, c2]
          · simp [c1, c2]
      · rw [if_pos (by omega), List.drop_eq_nil_of_le (show l1.length ≤ i by omega)]
        rfl
    · rw [if_neg (by omega), List.drop_eq_nil_of_le (by omega)]
      by_cases hj : l0.length < l1.length
      · rw [if_pos (by omega), List.drop_eq_getElem_cons (by omega)]
        rfl
      · rw [if_neg (by omega), List.drop_eq_nil_of_le (by omega)]
        rfl
def slices_SortFunc_int_int.g (xs : List (List Int)) : List (List Int) := sortLL xs
theorem slices_SortFunc_int_int.ev {w0 W : World} (base : Nat) (ok : Nat → Prop) (v : Value) (xs : List (List Int)) (h : xs.length < 4611686018427387904) (HO : Kd.S (Kd.slice 3 (Kd.int .i64)) 30 W base ok v xs) (HB : Below base w0 W) (hbase : base ≤ W.heap.size) :
    Calls Try.prog 104 #[v, .func (.func 105) #[] #[]] W fun e w' => e = .returned (.tuple #[]) ∧ Kd.S (Kd.slice 3 (Kd.int .i64)) 30 w' base ok v (slices_SortFunc_int_int.g xs) ∧ Below base w0 w' ∧ W.grownBy w' v.ownBlock := by
  have HO2 := HO
  obtain ⟨f, hok, inner, hown, hr⟩ := HO
  rw [List.length_zipIdx] at hown
  rcases hown.2 with ⟨hv, hnil⟩ | ⟨g, cap, cur, hv, hb0, hb, h1, h2, h3, h4⟩
  · subst hv
    have he : xs = [] := List.eq_nil_of_length_eq_zero hnil
    subst he
    have hc := AnyF.slices_SortFunc_none (L := { lays_SortFuncII with }) none 0 (.func (.func 105) #[] #[]) W
    change Calls Try.prog 104 #[.slice none 0 0, _] W _ at hc
    refine hc.mono ?_
    rintro e w' ⟨rfl, rfl⟩
    exact ⟨rfl, by simpa [slices_SortFunc_int_int.g, sortLL] using HO2, HB, World.grownBy.refl _ _⟩
  · subst hv
    have hlen : inner.length = xs.length := by have := hown.1; simpa [Kd.tag, Kd.slice] using this
    let enc : Nat → Value := fun j => inner.getD j (.slice none 0 0)
    let at_ : Nat → List Int := fun j => xs.getD j []
    let cf : Nat → Nat → Int := fun i j => lexI (at_ i) (at_ j)
    have hencs : (List.range xs.length).map enc = inner := by
      apply List.ext_getElem (by simp [hlen])
      intro i h1 h2
      simp [enc, List.getD_eq_getElem?_getD, h2]
    -- each element read in whatever world the sort passes through
    have hread : ∀ W1, W.grownBy W1 (some g) → ∀ x, ∃ A c, enc x = .slice A (at_ x).length c ∧ (at_ x).length ≤ c ∧ Kd.C (Kd.int .i64) W1 A (at_ x).length (at_ x) := by
      intro W1 hg x
      by_cases hx : x < xs.length
      · have h1 := hr.2 x (xs[x], x) (Kd.zip_at (List.getElem?_eq_getElem hx))
        change (Kd.slice 3 (Kd.int .i64)).M W base (fun k => (ok k ∧ some k ≠ (Value.slice (some ⟨g, 0, none⟩) xs.length cap).ownBlock) ∧ f k = x) xs[x] ((inner.drop (x * 1)).take 1) at h1
        have h2 := (Kd.slice 3 (Kd.int .i64)).M_move (w1 := W1) (fun k hk => hg.block k hk.2.2.1 hk.1.1.2) ((Kd.slice 3 (Kd.int .i64)).M_bound h1)
        obtain ⟨A, c, hcs, hle, hC⟩ := (Kd.slice 3 (Kd.int .i64)).K_of_M h2
        have hx' : x < inner.length := by omega
        rw [Nat.mul_one, List.drop_eq_getElem_cons hx'] at hcs
        simp only [List.take_succ_cons, List.take_zero, List.cons.injEq, and_true] at hcs
        have ha : at_ x = xs[x] := by simp [at_, List.getD_eq_getElem?_getD, hx]
        refine ⟨A, c, ?_, by rw [ha]; exact hle, by rw [ha]; exact hC⟩
        simp only [enc, List.getD_eq_getElem?_getD, List.getElem?_eq_getElem hx', Option.getD_some, ha]
        exact hcs
      · have ha : at_ x = [] := by simp [at_, List.getD_eq_getElem?_getD, List.getElem?_eq_none (Nat.le_of_not_lt hx)]
        refine ⟨none, 0, ?_, by simp [ha], ?_⟩
        · simp [enc, List.getD_eq_getElem?_getD, List.getElem?_eq_none (show inner.length ≤ x by omega), ha]
        · rw [ha]
          exact ⟨rfl, by simp, fun h => absurd h (by simp)⟩
    have hO : Go.Sort.SWO (ltOf cf) := by
      refine ⟨fun x => ?_, fun x y z h1 h2 => ?_, fun x y z h1 h2 => ?_⟩
      · simp [ltOf, cf, lexI_self]
      · simp only [ltOf, cf, decide_eq_true_eq] at h1 h2 ⊢
        have h3 := lexI_trans (at_ x) (at_ y) (at_ z) (by omega) (by omega)
        by_cases h4 : lexI (at_ x) (at_ z) = 0
        · have h5 := lexI_zero _ _ h4
          rw [h5] at h1
          have := lexI_neg (at_ y) (at_ z)
          omega
        · omega
      · simp only [ltOf, cf, decide_eq_false_iff_not] at h1 h2 ⊢
        have h3 := lexI_trans (at_ z) (at_ y) (at_ x) (by have := lexI_neg (at_ y) (at_ z); omega) (by have := lexI_neg (at_ x) (at_ y); omega)
        have := lexI_neg (at_ x) (at_ z)
        omega
    have hcmp : CmpLays1 Try.prog 105 #[] enc cf g 0 (List.range xs.length).toArray.size W := by
      intro m os dk hdk x y
      obtain ⟨A0, c0, he0, hc0, hC0⟩ := hread _ (cm_grown_sorted (enc := enc) (w := W) (g := g) (n := m) (os := os) dk) x
      obtain ⟨A1, c1, he1, hc1, hC1⟩ := hread _ (cm_grown_sorted (enc := enc) (w := W) (g := g) (n := m) (os := os) dk) y
      have hcc := slices_Compare_int_int.calls ((at_ x).length + 1) A0 c0 (at_ x) A1 c1 (at_ y) (cf x y) (sortWorld enc W g 0 m dk os) hC0 hc0 hC1 hc1 (by
        have := slices_SortFunc_int_int.cmp_lex (at_ x) (at_ y) hC0.2.1 hC1.2.1 ((at_ x).length + 1) 0 (Nat.zero_le _) (by omega)
        simpa [slices_Compare_int_int.f, cf] using this)
      rw [he0, he1]
      refine hcc.mono ?_
      rintro e w' ⟨rfl, q, rfl⟩
      exact ⟨rfl, q, #[], by rw [Go.Sort.grow_empty]⟩
    have hH := cm_holds (enc := enc) (d := (List.range xs.length).toArray) hb (by
      have h5 : cur.toList.take (xs.length * 1) = inner := h4
      rw [Nat.mul_one] at h5
      simpa [hencs] using h5)
    have h1c : OneCell enc := by
      intro x
      obtain ⟨A, c, he, _⟩ := hread W (World.grownBy.refl W _) x
      rw [he]
      rfl
    have hcon := Any.slices_SortFunc lays_SortFuncII enc h1c cf hO 105 #[] g 0 cap (List.range xs.length).toArray W (enters_ Try.func105 (by decide) (by rfl)) hcmp hH (Array.getElem?_eq_some_iff.1 hb).1 (by simpa using h)
    change Calls Try.prog 104 #[.slice (some ⟨g, 0, none⟩) (List.range xs.length).toArray.size cap, _] W _ at hcon
    rw [show (List.range xs.length).toArray.size = xs.length by simp] at hcon
    refine hcon.mono ?_
    rintro e w' ⟨rfl, d', n, os, hperm, hsort, rfl⟩
    have hp : d'.toList.Perm (List.range xs.length) := by
      have h6 := hperm.2.2
      have h7 := hperm.1
      simp only [List.size_toArray, List.length_range] at h6 h7
      rw [Array.extract_eq_self_of_le (by omega), Array.extract_eq_self_of_le (by simp)] at h6
      exact h6
    have hsz : d'.size = xs.length := by simpa using hperm.1
    have hg := cm_grown_sorted (enc := enc) (w := W) (g := g) (n := n) (os := os) d'
    have hj : ∀ j ∈ d'.toList, j < xs.length := fun j hm => by simpa using hp.mem_iff.1 hm
    have hown' := cm_owns_sorted (enc := enc) (w := W) (base := base) (g := g) (cap := cap) (n := n) (os := os) d' hsz hb0 hb h1 h2 h3
    have hS := cm_S_pick (d := Kd.slice 3 (Kd.int .i64)) (e := 30) (W := W) (W' := sortWorld enc W g 0 n d' os) (base := base) (ok := ok) (v := .slice (some ⟨g, 0, none⟩) xs.length cap) (v' := .slice (some ⟨g, 0, none⟩) xs.length cap) (xs := xs) (f := f) (inner := inner) (inner' := d'.toList.map enc) hok (fun _ hk => hk) hr d'.toList (hp.nodup_iff.2 List.nodup_range) [] hj
      (by rw [show d'.toList.length = xs.length by simp [hsz]]; exact hown')
      (fun q j hq => by
        obtain ⟨hql, hqe⟩ := List.getElem?_eq_some_iff.1 hq
        have hjl : j < inner.length := by rw [hlen]; exact hj j (List.mem_of_getElem? hq)
        show ((d'.toList.map enc).drop (q * 1)).take 1 = (inner.drop (j * 1)).take 1
        rw [Nat.mul_one, Nat.mul_one, List.drop_eq_getElem_cons (by simpa using hql), List.drop_eq_getElem_cons hjl]
        simp only [List.take_succ_cons, List.take_zero, List.getElem_map, hqe]
        simp [enc, List.getD_eq_getElem?_getD, hjl])
      (fun k hk hlt => hg.block k hlt hk)
    have heq : (d'.toList.map fun j => xs.getD j []) = slices_SortFunc_int_int.g xs := by
      refine sortLL_eq ?_ ?_
      · have h8 := hp.map (fun j => xs.getD j [])
        have h9 : (List.range xs.length).map (fun j => xs.getD j []) = xs := by
          apply List.ext_getElem (by simp)
          intro i h1 h2
          simp [List.getD_eq_getElem?_getD, h2]
        rwa [h9] at h8
      · rw [List.pairwise_map, List.pairwise_iff_getElem]
        intro i j hi hjl hij
        have h10 := hsort i j (Nat.zero_le _) hij (by simpa [hsz] using hjl)
        have hjl' : j < d'.size := by simpa using hjl
        have hi' : i < d'.size := by omega
        simp only [ltOf, cf, decide_eq_false_iff_not, getElem!_pos d' j hjl', getElem!_pos d' i hi'] at h10
        have := lexI_neg (at_ d'[i]) (at_ d'[j])
        simp only [Array.getElem_toList]
        show lexI (at_ d'[i]) (at_ d'[j]) ≤ 0
        omega
    rw [heq] at hS
    exact ⟨rfl, hS, HB.grown hg hbase (fun k hk => by cases hk; exact hb0), hg⟩

end Go.Proofs.Ytnnkjjacpbbigaa.PB
namespace Go.Proofs.Ytnnkjjacpbbigaa.PB
open Go.RowKit Go.Proofs.YtnnkjjacpbbigaaW.PrintWords Go.Proofs.YtnnkjjacpbbigaaW.PrintLast Go.Proofs.YtnnkjjacpbbigaaW.PrintMore
attribute [local go_sem] max2_int min2_int max_two min_two max_three min_three max_four min_four   -- for this text's walks alone

/-! ### impl_systems: function 77 -/
mutual
def impl_systems.l0 : Nat → Int → List (List Int) → Int → Int → Option ((List (List Int)))
  | 0, _, _, _, _ => none
  | k + 1, x0, x3, x14, x15 => if x15 < x14 then ((impl_systems.f k x15).bind fun t234 => (impl_systems.l1 k x0 x3 x15 x14 x15 t234 (t234.length : Int) 0)) else (if x3.length < 4611686018427387904 then (some (slices_SortFunc_int_int.g x3)) else (none))
def impl_systems.l1 : Nat → Int → List (List Int) → Int → Int → Int → List (List Int) → Int → Int → Option ((List (List Int)))
  | 0, _, _, _, _, _, _, _, _ => none
  | k + 1, x0, x3, x4, x14, x15, x19, x20, x21 => if x21 < x20 then (if 0 ≤ x21 then (if x21 < (x19.length : Int) then ((impl_systems.f k (wrap64 ((wrap64 (x0 - 1)) - x4))).bind fun t238 => (impl_systems.l2 k x0 x3 x4 (rd_L1 x19 x21) x14 x15 x19 x20 x21 t238 (t238.length : Int) 0)) else (none)) else (none)) else (impl_systems.l0 k x0 x3 x14 (wrap64 (x15 + 1)))
def impl_systems.l2 : Nat → Int → List (List Int) → Int → List Int → Int → Int → List (List Int) → Int → Int → List (List Int) → Int → Int → Option ((List (List Int)))
  | 0, _, _, _, _, _, _, _, _, _, _, _, _ => none
  | k + 1, x0, x3, x4, x6, x14, x15, x19, x20, x21, x29, x30, x31 => if x31 < x30 then (if 0 ≤ x31 then (if x31 < (x29.length : Int) then ((impl_covered.f k x6).bind fun t242 => ((impl_joined.f k t242 (rd_L1 x29 x31)).bind fun t245 => (if x3.length < 5864062014805 then (impl_systems.l2 k x0 (x3 ++ [t245]) x4 x6 x14 x15 x19 x20 x21 x29 x30 (wrap64 (x31 + 1))) else (none)))) else (none)) else (none)) else (impl_systems.l1 k x0 x3 x4 x14 x15 x19 x20 (wrap64 (x21 + 1)))
def impl_systems.f : Nat → Int → Option ((List (List Int)))
  | 0, _ => none
  | k + 1, a0 => if a0 = 0 then (some (([(([] : List Int))] : List (List Int)))) else (impl_systems.l0 k a0 (([] : List (List Int))) a0 0)
end
theorem impl_systems.mono_l : ∀ k, (∀ y0, LeO (impl_systems.f k y0) (impl_systems.f (k + 1) y0)) ∧ (∀ y0 y1 y2 y3, LeO (impl_systems.l0 k y0 y1 y2 y3) (impl_systems.l0 (k + 1) y0 y1 y2 y3)) ∧ (∀ y0 y1 y2 y3 y4 y5 y6 y7, LeO (impl_systems.l1 k y0 y1 y2 y3 y4 y5 y6 y7) (impl_systems.l1 (k + 1) y0 y1 y2 y3 y4 y5 y6 y7)) ∧ (∀ y0 y1 y2 y3 y4 y5 y6 y7 y8 y9 y10 y11, LeO (impl_systems.l2 k y0 y1 y2 y3 y4 y5 y6 y7 y8 y9 y10 y11) (impl_systems.l2 (k + 1) y0 y1 y2 y3 y4 y5 y6 y7 y8 y9 y10 y11))
  | 0 => ⟨fun _ r h => by simp [impl_systems.f] at h, fun _ _ _ _ r h => by simp [impl_systems.l0] at h, fun _ _ _ _ _ _ _ _ r h => by simp [impl_systems.l1] at h, fun _ _ _ _ _ _ _ _ _ _ _ _ r h => by simp [impl_systems.l2] at h⟩
  | k + 1 => by
    obtain ⟨ih0, ih1, ih2, ih3⟩ := impl_systems.mono_l k
    refine ⟨?_, ?_, ?_, ?_⟩
    · intro y0
      unfold impl_systems.f
      repeat' first
      | (with_reducible exact ih0 _)
      | (with_reducible exact ih1 _ _ _ _)
      | (with_reducible exact ih2 _ _ _ _ _ _ _ _)
      | (with_reducible exact ih3 _ _ _ _ _ _ _ _ _ _ _ _)
      | (with_reducible exact impl_covered.mono _ _)
      | (with_reducible exact impl_joined.mono _ _ _)
      | (with_reducible exact LeO.refl _)
      | (with_reducible exact LeO.none _)
      | (with_reducible refine LeO.ite ?_ ?_)
      | (with_reducible refine LeO.bind ?_ (fun _ => ?_))
      | exact ih0 _
      | exact ih1 _ _ _ _
      | exact ih2 _ _ _ _ _ _ _ _
      | exact ih3 _ _ _ _ _ _ _ _ _ _ _ _
      | exact impl_covered.mono _ _
      | exact impl_joined.mono _ _ _
      | exact LeO.none _
      | refine LeO.ite ?_ ?_
      | refine LeO.bind ?_ (fun _ => ?_)
    · intro y0 y1 y2 y3
      unfold impl_systems.l0
      repeat' first
      | (with_reducible exact ih0 _)
      | (with_reducible exact ih1 _ _ _ _)
      | (with_reducible exact ih2 _ _ _ _ _ _ _ _)
      | (with_reducible exact ih3 _ _ _ _ _ _ _ _ _ _ _ _)
      | (with_reducible exact impl_covered.mono _ _)
      | (with_reducible exact impl_joined.mono _ _ _)
      | (with_reducible exact LeO.refl _)
      | (with_reducible exact LeO.none _)
      | (with_reducible refine LeO.ite ?_ ?_)
      | (with_reducible refine LeO.bind ?_ (fun _ => ?_))
      | exact ih0 _
      | exact ih1 _ _ _ _
      | exact ih2 _ _ _ _ _ _ _ _
      | exact ih3 _ _ _ _ _ _ _ _ _ _ _ _
      | exact impl_covered.mono _ _
      | exact impl_joined.mono _ _ _
      | exact LeO.none _
      | refine LeO.ite ?_ ?_
      | refine LeO.bind ?_ (fun _ => ?_)
    · intro y0 y1 y2 y3 y4 y5 y6 y7
      unfold impl_systems.l1
      repeat' first
      | (with_reducible exact ih0 _)
      | (with_reducible exact ih1 _ _ _ _)
      | (with_reducible exact ih2 _ _ _ _ _ _ _ _)
      | (with_reducible exact ih3 _ _ _ _ _ _ _ _ _ _ _ _)
      | (with_reducible exact impl_covered.mono _ _)
      | (with_reducible exact impl_joined.mono _ _ _)
      | (with_reducible exact LeO.refl _)
      | (with_reducible exact LeO.none _)
      | (with_reducible refine LeO.ite ?_ ?_)
      | (with_reducible refine LeO.bind ?_ (fun _ => ?_))
      | exact ih0 _
      | exact ih1 _ _ _ _
      | exact ih2 _ _ _ _ _ _ _ _
      | exact ih3 _ _ _ _ _ _ _ _ _ _ _ _
      | exact impl_covered.mono _ _
      | exact impl_joined.mono _ _ _
      | exact LeO.none _
      | refine LeO.ite ?_ ?_
      | refine LeO.bind ?_ (fun _ => ?_)
    · intro y0 y1 y2 y3 y4 y5 y6 y7 y8 y9 y10 y11
      unfold impl_systems.l2
      repeat' first
      | (with_reducible exact ih0 _)
      | (with_reducible exact ih1 _ _ _ _)
      | (with_reducible exact ih2 _ _ _ _ _ _ _ _)
      | (with_reducible exact ih3 _ _ _ _ _ _ _ _ _ _ _ _)
      | (with_reducible exact impl_covered.mono _ _)
      | (with_reducible exact impl_joined.mono _ _ _)
      | (with_reducible exact LeO.refl _)
      | (with_reducible exact LeO.none _)
      | (with_reducible refine LeO.ite ?_ ?_)
      | (with_reducible refine LeO.bind ?_ (fun _ => ?_))
      | exact ih0 _
      | exact ih1 _ _ _ _
      | exact ih2 _ _ _ _ _ _ _ _
      | exact ih3 _ _ _ _ _ _ _ _ _ _ _ _
      | exact impl_covered.mono _ _
      | exact impl_joined.mono _ _ _
      | exact LeO.none _
      | refine LeO.ite ?_ ?_
      | refine LeO.bind ?_ (fun _ => ?_)
theorem impl_systems.mono : ∀ a0 k, LeO (impl_systems.f k a0) (impl_systems.f (k + 1) a0) := by
  intro a0 k
  obtain ⟨ih0, ih1, ih2, ih3⟩ := impl_systems.mono_l k
  exact ih0 a0
set_option maxHeartbeats 8000000 in
set_option maxRecDepth 100000 in
theorem impl_systems.calls (k : Nat) : ∀ (a0 : Int) (r : List (List Int)) (w : World) (h : impl_systems.f k a0 = some r),
    Calls Try.prog 77 #[.int .i64 a0] w fun e w' => ∃ v0_ : Value, e = .returned (v0_) ∧ Kd.S (Kd.slice 3 (Kd.int .i64)) 30 w' w.heap.size (fun _ => True) v0_ r ∧ Below w.heap.size w w' := by
  induction k using Nat.strongRecOn with
  | _ k ih =>
  intro a0 r w h
  cases k with
  | zero => exact absurd h (by simp [impl_systems.f])
  | succ k =>
  simp only [impl_systems.f] at h
  have HB := Aside0.mk (Below.refl w.heap.size w)
  have H : (if a0 = 0 then (some (([(([] : List Int))] : List (List Int)))) else (impl_systems.l0 k a0 (([] : List (List Int))) a0 0)) = some r := h
  clear h
  by_cases c2 : a0 = 0
  · rw [if_pos c2] at H
    have c2b0 : (a0 == 0) = true := beq_iff_eq.mpr c2
    have c2b1 : (a0 != 0) = false := bne_eq_false_iff_eq.mpr c2
    clear c2
    obtain ⟨y222, hy222⟩ : ∃ y_ : List Int, y_ = (([] : List Int)) := ⟨_, rfl⟩
    replace H : (some (([y222] : List (List Int)))) = some r := by first | (rw [hy222]; with_reducible exact H) | (have H2_ := (Option.bind_some _ _).symm.trans H; rw [hy222]; with_reducible exact H2_) | (have H2_ := (Option.bind_some _ _).symm.trans H; with_reducible exact H2_) | with_reducible exact H | (rw [hy222]; exact H) | exact H
    have Ny222 := Aside0.mk hy222
    clear hy222
    obtain ⟨y225, hy225⟩ : ∃ y_ : List (List Int), y_ = (([y222] : List (List Int))) := ⟨_, rfl⟩
    replace H : (some y225) = some r := by first | (rw [hy225]; with_reducible exact H) | (have H2_ := (Option.bind_some _ _).symm.trans H; rw [hy225]; with_reducible exact H2_) | (have H2_ := (Option.bind_some _ _).symm.trans H; with_reducible exact H2_) | with_reducible exact H | (rw [hy225]; exact H) | exact H
    have Ny225 := Aside0.mk hy225
    clear hy225
    obtain rfl := Option.some.inj H
    go_enter Try.func77, Try.ntmps77
    go_wp2_with (first | ((with_reducible refine gate_dst (N := 11) rfl ?_); refine Kd.R_lit (Kd.int .i64) _ 3 ?hg (N := 11) ?hd (xs := ([] : List Int)) (inner := []) (ok := fun _ => True) (okp := fun _ => True) ?hr ?hp (fun _ hk => hk) trivial (Below.refl _ _) (Nat.le_refl _) (by simp) ?_; (case hd => rfl); (case hg => rfl); (case hr => first | (go_simp; done) | (go_simp; rfl)); (case hp => exact (Reps.none _ _)); intro v223 w3 ho4 hb hg_ hnew_; clear hg_ hnew_; (first | rw [← Ny222.out] at ho4 | (simp only [Int.reduceToNat] at ho4; rw [← Ny222.out] at ho4)); have n0_ := Aside0.mk (Kd.R_lower ho4 (below_size (by repeat (first | (with_reducible first | exact HB.out | apply below_alloc | apply pw_below_drewN | apply below_drew1) | exact HB.out)))); have n1_ := Aside0.mk (below_step (by repeat (first | (with_reducible first | exact HB.out | apply below_alloc | apply pw_below_drewN | apply below_drew1) | exact HB.out)) hb); clear HB; have HO224 := n0_; have HB := n1_; clear n0_ n1_; clear hb ho4; obtain ⟨Ao5, co5, eo5⟩ := Kd.R_slice HO224.out; subst eo5) | ((with_reducible refine gate_dst (N := 12) rfl ?_); refine Kd.S_lits (Kd.slice 3 (Kd.int .i64)) w.heap.size 30 ?hg (N := 12) ?hd (xs := ([y222] : List (List Int))) (inner := [.slice Ao5 y222.length co5]) (ok := fun _ => True) (fun j_ _ => j_ = 0) ?hr rfl ?hp (fun _ _ _ h1_ h2_ => h1_.trans h2_.symm) (fun _ _ _ => trivial) trivial (by repeat (first | (with_reducible first | exact HB.out | apply below_alloc | apply pw_below_drewN | apply below_drew1) | exact HB.out)) (below_size (by repeat (first | (with_reducible first | exact HB.out | apply below_alloc | apply pw_below_drewN | apply below_drew1) | exact HB.out))) (by simp) ?_; (case hd => rfl); (case hg => rfl); (case hr => first | (go_simp; done) | (go_simp; rfl)); (case hp => (intro j_ x_ hx_; (rcases j_ with _ | j_); (cases hx_; exact Kd.M_row (Kd.R_mono (by (with_reducible repeat (first | apply Kd.R_alloc | apply Kd.R_drewN | apply Kd.R_drew)); exact HO224.out) (fun _ _ => rfl))); (cases hx_))); intro v226 w6 ho7 hb hg_ hnew_; clear hb; have hb := (⟨hg_.os, hg_.tape, hg_.output, hg_.size, fun i_ hi_ => hg_.block i_ hi_ (by simp)⟩ : Below (World.heap _).size _ w6); clear hg_ hnew_; (first | rw [← Ny225.out] at ho7 | (simp only [Int.reduceToNat] at ho7; rw [← Ny225.out] at ho7)); have n0_ := Aside0.mk (ho7); have n1_ := Aside0.mk (below_step (by repeat (first | (with_reducible first | exact HB.out | apply below_alloc | apply pw_below_drewN | apply below_drew1) | exact HB.out)) hb); clear HB; clear HO224; have HO227 := n0_; have HB := n1_; clear n0_ n1_; clear hb ho7))
    go_ret
    exact ⟨_, by first | rfl | (simp [errW_none, errW_some] <;> rfl) | (simp [*, errW_none, errW_some] <;> rfl), by (with_reducible repeat (first | apply Kd.S_alloc | apply Kd.S_drewN | apply Kd.S_drew)); exact HO227.out, by repeat (first | (with_reducible first | exact HB.out | apply below_alloc | apply pw_below_drewN | apply below_drew1) | exact HB.out)⟩
  · rw [if_neg c2] at H
    have c2b0 : (a0 == 0) = false := beq_eq_false_iff_ne.mpr c2
    have c2b1 : (a0 != 0) = true := bne_iff_ne.mpr c2
    obtain ⟨y228, hy228⟩ : ∃ y_ : List (List Int), y_ = (([] : List (List Int))) := ⟨_, rfl⟩
    replace H : (impl_systems.l0 k a0 y228 a0 0) = some r := by first | (rw [hy228]; with_reducible exact H) | (have H2_ := (Option.bind_some _ _).symm.trans H; rw [hy228]; with_reducible exact H2_) | (have H2_ := (Option.bind_some _ _).symm.trans H; with_reducible exact H2_) | with_reducible exact H | (rw [hy228]; exact H) | exact H
    have Ny228 := Aside0.mk hy228
    clear hy228
    have H' := Aside0.mk H
    clear H
    go_enter Try.func77, Try.ntmps77
    go_wp2_with (first | ((with_reducible refine gate_dst (N := 13) rfl ?_); refine Kd.S_lit (Kd.slice 3 (Kd.int .i64)) _ 30 ?hg (N := 13) ?hd (xs := ([] : List (List Int))) (inner := []) (ok := fun _ => True) (okp := fun _ => True) ?hr ?hp (fun _ hk => hk) trivial (Below.refl _ _) (Nat.le_refl _) (by simp) ?_; (case hd => rfl); (case hg => rfl); (case hr => first | (go_simp; done) | (go_simp; rfl)); (case hp => exact (Reps.none _ _)); intro v229 w8 ho9 hb hg_ hnew_; clear hg_ hnew_; (first | rw [← Ny228.out] at ho9 | (simp only [Int.reduceToNat] at ho9; rw [← Ny228.out] at ho9)); have n0_ := Aside0.mk (Kd.S_lower ho9 (below_size (by repeat (first | (with_reducible first | exact HB.out | apply below_alloc | apply pw_below_drewN | apply below_drew1) | exact HB.out)))); have n1_ := Aside0.mk (below_step (by repeat (first | (with_reducible first | exact HB.out | apply below_alloc | apply pw_below_drewN | apply below_drew1) | exact HB.out)) hb); clear HB; have HO230 := n0_; have HB := n1_; clear n0_ n1_; clear hb ho9))
    go_loopg [3, 15] k (fun kq v3 v15 w' => ∃ (x3_1 : List (List Int)) (x15_1 : Int), v15 = .int .i64 x15_1 ∧ Aside0 (impl_systems.l0 kq a0 x3_1 a0 x15_1 = some r) ∧ Aside0 (kq ≤ k) ∧ Aside0 (Kd.S (Kd.slice 3 (Kd.int .i64)) 30 w' w.heap.size (fun _ => True) v3 x3_1) ∧ Aside0 (Below w.heap.size w w'))
    case atStart => exact ⟨(y228), (0), (by first | rfl | (simp; done) | (simp [*]; done)), H', ⟨Nat.le_refl _⟩, ⟨by (with_reducible repeat (first | apply Kd.S_alloc | apply Kd.S_drewN | apply Kd.S_drew)); exact HO230.out⟩, ⟨by repeat (first | (with_reducible first | exact HB.out | apply below_alloc | apply pw_below_drewN | apply below_drew1) | exact HB.out)⟩⟩
    case round =>
      clear H'
      try clear c2
      try clear c2b0
      try clear c2b1
      try clear p2
      try clear c7
      obtain ⟨x3_1, x15_1, rfl, HA, HK1, HO_3, HB⟩ := hrel
      cases gk with
      | zero => exact absurd HA.out (by simp [impl_systems.l0])
      | succ k1 =>
        have H := HA.out
        clear HA
        simp only [impl_systems.l0] at H
        by_cases c10 : x15_1 < a0
        · rw [if_pos c10] at H
          have c10b0 : decide (x15_1 < a0) = true := decide_eq_true c10
          clear c10
          replace H := Option.bind_eq_some_iff.mp H
          obtain ⟨t234, A110, H⟩ := H
          replace H : (impl_systems.l1 k1 a0 x3_1 x15_1 a0 x15_1 t234 (t234.length : Int) 0) = some r := H
          have A11 := Aside0.mk A110
          clear A110
          have H' := Aside0.mk H
          clear H
          go_wp2_with (first | ((with_reducible refine gate_callee (f := 77) rfl ?_); refine goesL_ (some 19) rfl rfl Try.func77 (by kernel_rfl) rfl #[.int .i64 x15_1] rfl (by (try simp only [List.map_toArray, List.map_cons, List.map_nil]); first | done | rfl | (simp only [List.length_drop, List.length_take]; rfl)) ?_; (with_reducible refine (ih k1 (by have := HK1.out; omega) x15_1 t234 _ A11.out).mono ?_); rintro e w12 ⟨v235, rfl, ho0, hb⟩; refine ⟨_, rfl, ?_⟩; have n0_ := Aside0.mk (Kd.S_elder' (by (with_reducible repeat (first | apply Kd.S_alloc | apply Kd.S_drewN | apply Kd.S_drew)); exact HO_3.out) (Kd.S_base ho0) hb); have n1_ := Aside0.mk (Kd.S_lower (Kd.S_new' ho0 (Kd.S_lt (by (with_reducible repeat (first | apply Kd.S_alloc | apply Kd.S_drewN | apply Kd.S_drew)); exact HO_3.out))) (below_size (by repeat (first | (with_reducible first | exact HB.out | apply below_alloc | apply pw_below_drewN | apply below_drew1) | exact HB.out)))); have n2_ := Aside0.mk (below_step (by repeat (first | (with_reducible first | exact HB.out | apply below_alloc | apply pw_below_drewN | apply below_drew1) | exact HB.out)) hb); clear HO_3; clear HB; have HO_3 := n0_; have HO236 := n1_; have HB := n2_; clear n0_ n1_ n2_; (try clear hb); (try clear hb2); (try clear hk); (try clear hi); (try clear ho0); obtain ⟨Ao13, co13, eo13⟩ := Kd.S_slice HO236.out; subst eo13))
          go_loopg [3, 21] k1 (fun kq v3 v21 w' => ∃ (x3_2 : List (List Int)) (x21_2 : Int), v21 = .int .i64 x21_2 ∧ Aside0 (impl_systems.l1 kq a0 x3_2 x15_1 a0 x15_1 t234 (t234.length : Int) x21_2 = some r) ∧ Aside0 (kq ≤ k1) ∧ Aside0 (Kd.S (Kd.slice 3 (Kd.int .i64)) 30 w' w.heap.size (fun k_ => some k_ ≠ ((.slice Ao13 t234.length co13) : Value).ownBlock) v3 x3_2) ∧ Aside0 (Kd.S (Kd.slice 3 (Kd.int .i64)) 30 w' w.heap.size (fun k_ => some k_ ≠ (v3 : Value).ownBlock) (.slice Ao13 t234.length co13) t234) ∧ Aside0 (Below w.heap.size w w'))
          case atStart => exact ⟨(x3_1), (0), (by first | rfl | (simp; done) | (simp [*]; done)), H', ⟨Nat.le_refl _⟩, ⟨by (with_reducible repeat (first | apply Kd.S_alloc | apply Kd.S_drewN | apply Kd.S_drew)); exact Kd.S_mono HO_3.out (fun _ hk => hk.2)⟩, ⟨by (with_reducible repeat (first | apply Kd.S_alloc | apply Kd.S_drewN | apply Kd.S_drew)); exact Kd.S_mono HO236.out (fun _ hk => hk.2)⟩, ⟨by repeat (first | (with_reducible first | exact HB.out | apply below_alloc | apply pw_below_drewN | apply below_drew1) | exact HB.out)⟩⟩
          case round =>
            clear H'
            try clear c1
            try clear c2
            try clear c2b0
            try clear c2b1
            try clear p2
            try clear c7
            try clear c10
            try clear c10b0
            try clear p2
            obtain ⟨x3_2, x21_2, rfl, HA, HK2, HO_3, HO_19, HB⟩ := hrel
            cases gk with
            | zero => exact absurd HA.out (by simp [impl_systems.l1])
            | succ k2 =>
              have H := HA.out
              clear HA
              simp only [impl_systems.l1] at H
              by_cases c14 : x21_2 < (t234.length : Int)
              · rw [if_pos c14] at H
                have c14b0 : decide (x21_2 < (t234.length : Int)) = true := decide_eq_true c14
                clear c14
                by_cases c15 : 0 ≤ x21_2
                · rw [if_pos c15] at H
                  have c15b0 : decide (0 ≤ x21_2) = true := decide_eq_true c15
                  clear c15
                  by_cases c16 : x21_2 < (t234.length : Int)
                  · rw [if_pos c16] at H
                    have c16b0 : decide (x21_2 < (t234.length : Int)) = true := decide_eq_true c16
                    clear c16
                    replace H := Option.bind_eq_some_iff.mp H
                    obtain ⟨t238, A170, H⟩ := H
                    replace H : (impl_systems.l2 k2 a0 x3_2 x15_1 (rd_L1 t234 x21_2) a0 x15_1 t234 (t234.length : Int) x21_2 t238 (t238.length : Int) 0) = some r := H
                    have A17 := Aside0.mk A170
                    clear A170
                    have H' := Aside0.mk H
                    clear H
                    have p237 : 0 ≤ (x21_2 : Int) := of_decide_eq_true (by first | (with_reducible assumption) | assumption)
                    have q237 : x21_2 < (t234.length : Int) := of_decide_eq_true (by first | (with_reducible assumption) | assumption)
                    obtain ⟨ad237, A237_0, c237_0, e237, hx237_0, hl237_0, hi237_0⟩ := at_L1 (Kd.S_reads' HO_19.out).2.2 x21_2 p237 q237
                    cases e237
                    obtain ⟨ce237, hce237, hMe237, hcc237⟩ := Kd.S_get HO_19.out [] x21_2 p237 (by first | exact q237 | exact of_decide_eq_true (by first | (with_reducible assumption) | assumption) | (have e_ := (Kd.S_reads' HO_19.out).1; omega))
                    obtain ⟨ve237_0, rfl, ge237_0⟩ := hMe237
                    have hv237_0 := hcc237 0 _ rfl
                    rw [Nat.add_zero, show ((Kd.slice 3 (Kd.int .i64))).sz = 1 from rfl, Nat.mul_one] at hv237_0
                    replace hv237_0 := Option.some.inj (hv237_0.symm.trans hx237_0)
                    rw [hv237_0] at ge237_0
                    have HL237_0 := Aside0.mk (show Kd.R (Kd.int .i64) 3 _ _ _ _ (rd_L1 t234 x21_2) from ge237_0)
                    clear hv237_0 ge237_0
                    clear hcc237 hce237
                    have HR237_0 := Aside0.mk hi237_0
                    have HC237_0 := Aside0.mk hl237_0
                    clear hi237_0 hl237_0
                    replace p237 := eq_true p237
                    replace q237 := eq_true q237
                    go_wp2_with (first | ((with_reducible refine gate_callee (f := 77) rfl ?_); refine goesL_ (some 29) rfl rfl Try.func77 (by kernel_rfl) rfl #[.int .i64 (wrap64 ((wrap64 (a0 - 1)) - x15_1))] rfl (by (try simp only [List.map_toArray, List.map_cons, List.map_nil]); first | done | rfl | (simp only [List.length_drop, List.length_take]; rfl)) ?_; (with_reducible refine (ih k2 (by have := HK1.out; have := HK2.out; omega) (wrap64 ((wrap64 (a0 - 1)) - x15_1)) t238 _ A17.out).mono ?_); rintro e w18 ⟨v239, rfl, ho0, hb⟩; refine ⟨_, rfl, ?_⟩; have n0_ := Aside0.mk (Kd.S_elder' (by (with_reducible repeat (first | apply Kd.S_alloc | apply Kd.S_drewN | apply Kd.S_drew)); exact HO_3.out) (Kd.S_base ho0) hb); have n1_ := Aside0.mk (Kd.S_elder' (by (with_reducible repeat (first | apply Kd.S_alloc | apply Kd.S_drewN | apply Kd.S_drew)); exact HO_19.out) (Kd.S_base ho0) hb); have n2_ := Aside0.mk (Kd.R_below (by (with_reducible repeat (first | apply Kd.R_alloc | apply Kd.R_drewN | apply Kd.R_drew)); exact HL237_0.out) hb); have n3_ := Aside0.mk (Kd.S_lower (Kd.S_new' (Kd.S_new' (Kd.S_new' ho0 (Kd.S_lt (by (with_reducible repeat (first | apply Kd.S_alloc | apply Kd.S_drewN | apply Kd.S_drew)); exact HO_3.out))) (Kd.S_lt (by (with_reducible repeat (first | apply Kd.S_alloc | apply Kd.S_drewN | apply Kd.S_drew)); exact HO_19.out))) (Kd.R_lt (by (with_reducible repeat (first | apply Kd.R_alloc | apply Kd.R_drewN | apply Kd.R_drew)); exact HL237_0.out))) (below_size (by repeat (first | (with_reducible first | exact HB.out | apply below_alloc | apply pw_below_drewN | apply below_drew1) | exact HB.out)))); have n4_ := Aside0.mk (Kd.C_below (by repeat (first | (with_reducible exact HR237_0.out) | (with_reducible refine Kd.C_alloc ?_ _) | (with_reducible refine Kd.C_drewN ?_ _) | (with_reducible refine Kd.C_drew ?_) | exact HR237_0.out)) hb); have n5_ := Aside0.mk (below_step (by repeat (first | (with_reducible first | exact HB.out | apply below_alloc | apply pw_below_drewN | apply below_drew1) | exact HB.out)) hb); clear HO_3; clear HO_19; clear HL237_0; clear HR237_0; clear HB; have HO_3 := n0_; have HO_19 := n1_; have HL237_0 := n2_; have HO240 := n3_; have HR237_0 := n4_; have HB := n5_; clear n0_ n1_ n2_ n3_ n4_ n5_; (try clear hb); (try clear hb2); (try clear hk); (try clear hi); (try clear ho0); obtain ⟨Ao19, co19, eo19⟩ := Kd.S_slice HO240.out; subst eo19))
                    go_loopg [3, 31] k2 (fun kq v3 v31 w' => ∃ (x3_3 : List (List Int)) (x31_3 : Int), v31 = .int .i64 x31_3 ∧ Aside0 (impl_systems.l2 kq a0 x3_3 x15_1 (rd_L1 t234 x21_2) a0 x15_1 t234 (t234.length : Int) x21_2 t238 (t238.length : Int) x31_3 = some r) ∧ Aside0 (kq ≤ k2) ∧ Aside0 (Kd.S (Kd.slice 3 (Kd.int .i64)) 30 w' w.heap.size (fun k_ => some k_ ≠ ((.slice (some ad237) t234.length co13) : Value).ownBlock ∧ some k_ ≠ ((.slice Ao19 t238.length co19) : Value).ownBlock) v3 x3_3) ∧ Aside0 (Kd.S (Kd.slice 3 (Kd.int .i64)) 30 w' w.heap.size (fun k_ => some k_ ≠ (v3 : Value).ownBlock ∧ some k_ ≠ ((.slice Ao19 t238.length co19) : Value).ownBlock) (.slice (some ad237) t234.length co13) t234) ∧ Aside0 (Kd.S (Kd.slice 3 (Kd.int .i64)) 30 w' w.heap.size (fun k_ => some k_ ≠ (v3 : Value).ownBlock ∧ some k_ ≠ ((.slice (some ad237) t234.length co13) : Value).ownBlock) (.slice Ao19 t238.length co19) t238) ∧ Aside0 (Kd.R (Kd.int .i64) 3 w' w.heap.size (fun k_ => some k_ ≠ (v3 : Value).ownBlock ∧ some k_ ≠ ((.slice (some ad237) t234.length co13) : Value).ownBlock) (.slice A237_0 (rd_L1 t234 x21_2).length c237_0) (rd_L1 t234 x21_2)) ∧ Aside0 (Below w.heap.size w w'))
                    case atStart => exact ⟨(x3_2), (0), (by first | rfl | (simp; done) | (simp [*]; done)), H', ⟨Nat.le_refl _⟩, ⟨by (with_reducible repeat (first | apply Kd.S_alloc | apply Kd.S_drewN | apply Kd.S_drew)); exact HO_3.out⟩, ⟨by (with_reducible repeat (first | apply Kd.S_alloc | apply Kd.S_drewN | apply Kd.S_drew)); exact HO_19.out⟩, ⟨by (with_reducible repeat (first | apply Kd.S_alloc | apply Kd.S_drewN | apply Kd.S_drew)); exact Kd.S_mono HO240.out (fun _ hk => ⟨hk.1.1.2, hk.1.2⟩)⟩, ⟨by (with_reducible repeat (first | apply Kd.R_alloc | apply Kd.R_drewN | apply Kd.R_drew)); exact HL237_0.out⟩, ⟨by repeat (first | (with_reducible first | exact HB.out | apply below_alloc | apply pw_below_drewN | apply below_drew1) | exact HB.out)⟩⟩
                    case round =>
                      clear H'
                      try clear c1
                      try clear c2
                      try clear c2b0
                      try clear c2b1
                      try clear p2
                      try clear q2
                      try clear hx2
                      try clear p6
                      try clear c7
                      try clear c10
                      try clear c10b0
                      try clear c14
                      try clear c14b0
                      try clear c15
                      try clear c15b0
                      try clear c16
                      try clear c16b0
                      try clear hx237_0
                      try clear p2
                      try clear p237
                      try clear q237
                      obtain ⟨x3_3, x31_3, rfl, HA, HK3, HO_3, HO_19, HO_29, HL237_0, HB⟩ := hrel
                      have HR237_0 := Aside0.mk (Kd.R_reads' HL237_0.out).2.2
                      cases gk with
                      | zero => exact absurd HA.out (by simp [impl_systems.l2])
                      | succ k3 =>
                        have H := HA.out
                        clear HA
                        simp only [impl_systems.l2] at H
                        by_cases c20 : x31_3 < (t238.length : Int)
                        · rw [if_pos c20] at H
                          have c20b0 : decide (x31_3 < (t238.length : Int)) = true := decide_eq_true c20
                          clear c20
                          by_cases c21 : 0 ≤ x31_3
                          · rw [if_pos c21] at H
                            have c21b0 : decide (0 ≤ x31_3) = true := decide_eq_true c21
                            clear c21
                            by_cases c22 : x31_3 < (t238.length : Int)
                            · rw [if_pos c22] at H
                              have c22b0 : decide (x31_3 < (t238.length : Int)) = true := decide_eq_true c22
                              clear c22
                              replace H := Option.bind_eq_some_iff.mp H
                              obtain ⟨t242, A230, H⟩ := H
                              replace H : ((impl_joined.f k3 t242 (rd_L1 t238 x31_3)).bind fun t245 => (if x3_3.length < 5864062014805 then (impl_systems.l2 k3 a0 (x3_3 ++ [t245]) x15_1 (rd_L1 t234 x21_2) a0 x15_1 t234 (t234.length : Int) x21_2 t238 (t238.length : Int) (wrap64 (x31_3 + 1))) else (none))) = some r := H
                              have A23 := Aside0.mk A230
                              clear A230
                              replace H := Option.bind_eq_some_iff.mp H
                              obtain ⟨t245, A240, H⟩ := H
                              replace H : (if x3_3.length < 5864062014805 then (impl_systems.l2 k3 a0 (x3_3 ++ [t245]) x15_1 (rd_L1 t234 x21_2) a0 x15_1 t234 (t234.length : Int) x21_2 t238 (t238.length : Int) (wrap64 (x31_3 + 1))) else (none)) = some r := H
                              have A24 := Aside0.mk A240
                              clear A240
                              by_cases c25 : x3_3.length < 5864062014805
                              · rw [if_pos c25] at H
                                have LMc25 := Aside0.mk c25
                                clear c25
                                obtain ⟨y248, hy248⟩ : ∃ y_ : List (List Int), y_ = (x3_3 ++ [t245]) := ⟨_, rfl⟩
                                replace H : (impl_systems.l2 k3 a0 y248 x15_1 (rd_L1 t234 x21_2) a0 x15_1 t234 (t234.length : Int) x21_2 t238 (t238.length : Int) (wrap64 (x31_3 + 1))) = some r := by first | (rw [hy248]; with_reducible exact H) | (have H2_ := (Option.bind_some _ _).symm.trans H; rw [hy248]; with_reducible exact H2_) | (have H2_ := (Option.bind_some _ _).symm.trans H; with_reducible exact H2_) | with_reducible exact H | (rw [hy248]; exact H) | exact H
                                have Ny248 := Aside0.mk hy248
                                clear hy248
                                have H' := Aside0.mk H
                                clear H
                                have p241 : 0 ≤ (x31_3 : Int) := of_decide_eq_true (by first | (with_reducible assumption) | assumption)
                                have q241 : x31_3 < (t238.length : Int) := of_decide_eq_true (by first | (with_reducible assumption) | assumption)
                                obtain ⟨ad241, A241_0, c241_0, e241, hx241_0, hl241_0, hi241_0⟩ := at_L1 (Kd.S_reads' HO_29.out).2.2 x31_3 p241 q241
                                cases e241
                                obtain ⟨ce241, hce241, hMe241, hcc241⟩ := Kd.S_get HO_29.out [] x31_3 p241 (by first | exact q241 | exact of_decide_eq_true (by first | (with_reducible assumption) | assumption) | (have e_ := (Kd.S_reads' HO_29.out).1; omega))
                                obtain ⟨ve241_0, rfl, ge241_0⟩ := hMe241
                                have hv241_0 := hcc241 0 _ rfl
                                rw [Nat.add_zero, show ((Kd.slice 3 (Kd.int .i64))).sz = 1 from rfl, Nat.mul_one] at hv241_0
                                replace hv241_0 := Option.some.inj (hv241_0.symm.trans hx241_0)
                                rw [hv241_0] at ge241_0
                                have HL241_0 := Aside0.mk (show Kd.R (Kd.int .i64) 3 _ _ _ _ (rd_L1 t238 x31_3) from ge241_0)
                                clear hv241_0 ge241_0
                                clear hcc241 hce241
                                have HR241_0 := Aside0.mk hi241_0
                                have HC241_0 := Aside0.mk hl241_0
                                clear hi241_0 hl241_0
                                replace p241 := eq_true p241
                                replace q241 := eq_true q241
                                go_wp2_with (first | ((with_reducible refine gate_callee (f := 103) rfl ?_); refine goesL_ (some 37) rfl rfl Try.func103 (by kernel_rfl) rfl #[.slice A237_0 (rd_L1 t234 x21_2).length c237_0] rfl (by (try simp only [List.map_toArray, List.map_cons, List.map_nil]); first | done | rfl | (simp only [List.length_drop, List.length_take]; rfl)) ?_; (with_reducible refine (impl_covered.calls k3 _ _ (rd_L1 t234 x21_2) t242 _ ?side1 ?side2 A23.out).mono ?_); (case side1 => repeat (first | exact (by repeat (first | (with_reducible exact HR237_0.out) | (with_reducible refine Kd.C_alloc ?_ _) | (with_reducible refine Kd.C_drewN ?_ _) | (with_reducible refine Kd.C_drew ?_) | exact HR237_0.out)) | (with_reducible refine Kd.C_alloc ?_ _) | (with_reducible refine Kd.C_drewN ?_ _) | (with_reducible refine Kd.C_drew ?_))); (case side2 => exact HC237_0.out); rintro e w26 ⟨v243, rfl, ho0, hb⟩; refine ⟨_, rfl, ?_⟩; have n0_ := Aside0.mk (Kd.S_elder' (by (with_reducible repeat (first | apply Kd.S_alloc | apply Kd.S_drewN | apply Kd.S_drew)); exact HO_3.out) (Kd.R_base ho0) hb); have n1_ := Aside0.mk (Kd.S_elder' (by (with_reducible repeat (first | apply Kd.S_alloc | apply Kd.S_drewN | apply Kd.S_drew)); exact HO_19.out) (Kd.R_base ho0) hb); have n2_ := Aside0.mk (Kd.S_elder' (by (with_reducible repeat (first | apply Kd.S_alloc | apply Kd.S_drewN | apply Kd.S_drew)); exact HO_29.out) (Kd.R_base ho0) hb); have n3_ := Aside0.mk (Kd.R_elder' (by (with_reducible repeat (first | apply Kd.R_alloc | apply Kd.R_drewN | apply Kd.R_drew)); exact HL237_0.out) (Kd.R_base ho0) hb); have n4_ := Aside0.mk (Kd.R_elder' (by (with_reducible repeat (first | apply Kd.R_alloc | apply Kd.R_drewN | apply Kd.R_drew)); exact HL241_0.out) (Kd.R_base ho0) hb); have n5_ := Aside0.mk (Kd.R_lower (Kd.R_new' (Kd.R_new' ho0 (Kd.R_lt (by (with_reducible repeat (first | apply Kd.R_alloc | apply Kd.R_drewN | apply Kd.R_drew)); exact HL237_0.out))) (Kd.R_lt (by (with_reducible repeat (first | apply Kd.R_alloc | apply Kd.R_drewN | apply Kd.R_drew)); exact HL241_0.out))) (below_size (by repeat (first | (with_reducible first | exact HB.out | apply below_alloc | apply pw_below_drewN | apply below_drew1) | exact HB.out)))); have n6_ := Aside0.mk (Kd.C_below (by repeat (first | (with_reducible exact HR237_0.out) | (with_reducible refine Kd.C_alloc ?_ _) | (with_reducible refine Kd.C_drewN ?_ _) | (with_reducible refine Kd.C_drew ?_) | exact HR237_0.out)) hb); have n7_ := Aside0.mk (Kd.C_below (by repeat (first | (with_reducible exact HR241_0.out) | (with_reducible refine Kd.C_alloc ?_ _) | (with_reducible refine Kd.C_drewN ?_ _) | (with_reducible refine Kd.C_drew ?_) | exact HR241_0.out)) hb); have n8_ := Aside0.mk (below_step (by repeat (first | (with_reducible first | exact HB.out | apply below_alloc | apply pw_below_drewN | apply below_drew1) | exact HB.out)) hb); clear HO_3; clear HO_19; clear HO_29; clear HL237_0; clear HL241_0; clear HR237_0; clear HR241_0; clear HB; have HO_3 := n0_; have HO_19 := n1_; have HO_29 := n2_; have HL237_0 := n3_; have HL241_0 := n4_; have HO244 := n5_; have HR237_0 := n6_; have HR241_0 := n7_; have HB := n8_; clear n0_ n1_ n2_ n3_ n4_ n5_ n6_ n7_ n8_; (try clear hb); (try clear hb2); (try clear hk); (try clear hi); (try clear ho0); obtain ⟨Ao27, co27, eo27⟩ := Kd.R_slice HO244.out; subst eo27) | ((with_reducible refine gate_callee (f := 102) rfl ?_); refine goesL_ (some 39) rfl rfl Try.func102 (by kernel_rfl) rfl #[.slice Ao27 t242.length co27, .slice A241_0 (rd_L1 t238 x31_3).length c241_0] rfl (by (try simp only [List.map_toArray, List.map_cons, List.map_nil]); first | done | rfl | (simp only [List.length_drop, List.length_take]; rfl)) ?_; (with_reducible refine (impl_joined.calls k3 _ _ t242 _ _ (rd_L1 t238 x31_3) t245 _ ?side1 ?side2 ?side3 ?side4 A24.out).mono ?_); (case side1 => repeat (first | exact (Kd.R_reads' HO244.out).2.2 | (with_reducible refine Kd.C_alloc ?_ _) | (with_reducible refine Kd.C_drewN ?_ _) | (with_reducible refine Kd.C_drew ?_))); (case side2 => exact (Kd.R_reads' HO244.out).2.1); (case side3 => repeat (first | exact (by repeat (first | (with_reducible exact HR241_0.out) | (with_reducible refine Kd.C_alloc ?_ _) | (with_reducible refine Kd.C_drewN ?_ _) | (with_reducible refine Kd.C_drew ?_) | exact HR241_0.out)) | (with_reducible refine Kd.C_alloc ?_ _) | (with_reducible refine Kd.C_drewN ?_ _) | (with_reducible refine Kd.C_drew ?_))); (case side4 => exact HC241_0.out); rintro e w28 ⟨v246, rfl, ho0, hb⟩; refine ⟨_, rfl, ?_⟩; have n0_ := Aside0.mk (Kd.S_elder' (by (with_reducible repeat (first | apply Kd.S_alloc | apply Kd.S_drewN | apply Kd.S_drew)); exact HO_3.out) (Kd.R_base ho0) hb); have n1_ := Aside0.mk (Kd.S_elder' (by (with_reducible repeat (first | apply Kd.S_alloc | apply Kd.S_drewN | apply Kd.S_drew)); exact HO_19.out) (Kd.R_base ho0) hb); have n2_ := Aside0.mk (Kd.S_elder' (by (with_reducible repeat (first | apply Kd.S_alloc | apply Kd.S_drewN | apply Kd.S_drew)); exact HO_29.out) (Kd.R_base ho0) hb); have n3_ := Aside0.mk (Kd.R_elder' (by (with_reducible repeat (first | apply Kd.R_alloc | apply Kd.R_drewN | apply Kd.R_drew)); exact HL237_0.out) (Kd.R_base ho0) hb); have n4_ := Aside0.mk (Kd.R_elder' (by (with_reducible repeat (first | apply Kd.R_alloc | apply Kd.R_drewN | apply Kd.R_drew)); exact HL241_0.out) (Kd.R_base ho0) hb); have n5_ := Aside0.mk (Kd.R_elder' (by (with_reducible repeat (first | apply Kd.R_alloc | apply Kd.R_drewN | apply Kd.R_drew)); exact HO244.out) (Kd.R_base ho0) hb); have n6_ := Aside0.mk (Kd.R_lower (Kd.R_new' (Kd.R_new' (Kd.R_new' ho0 (Kd.R_lt (by (with_reducible repeat (first | apply Kd.R_alloc | apply Kd.R_drewN | apply Kd.R_drew)); exact HL237_0.out))) (Kd.R_lt (by (with_reducible repeat (first | apply Kd.R_alloc | apply Kd.R_drewN | apply Kd.R_drew)); exact HL241_0.out))) (Kd.R_lt (by (with_reducible repeat (first | apply Kd.R_alloc | apply Kd.R_drewN | apply Kd.R_drew)); exact HO244.out))) (below_size (by repeat (first | (with_reducible first | exact HB.out | apply below_alloc | apply pw_below_drewN | apply below_drew1) | exact HB.out)))); have n7_ := Aside0.mk (Kd.C_below (by repeat (first | (with_reducible exact HR237_0.out) | (with_reducible refine Kd.C_alloc ?_ _) | (with_reducible refine Kd.C_drewN ?_ _) | (with_reducible refine Kd.C_drew ?_) | exact HR237_0.out)) hb); have n8_ := Aside0.mk (Kd.C_below (by repeat (first | (with_reducible exact HR241_0.out) | (with_reducible refine Kd.C_alloc ?_ _) | (with_reducible refine Kd.C_drewN ?_ _) | (with_reducible refine Kd.C_drew ?_) | exact HR241_0.out)) hb); have n9_ := Aside0.mk (below_step (by repeat (first | (with_reducible first | exact HB.out | apply below_alloc | apply pw_below_drewN | apply below_drew1) | exact HB.out)) hb); clear HO_3; clear HO_19; clear HO_29; clear HL237_0; clear HL241_0; clear HO244; clear HR237_0; clear HR241_0; clear HB; have HO_3 := n0_; have HO_19 := n1_; have HO_29 := n2_; have HL237_0 := n3_; have HL241_0 := n4_; have HO244 := n5_; have HO247 := n6_; have HR237_0 := n7_; have HR241_0 := n8_; have HB := n9_; clear n0_ n1_ n2_ n3_ n4_ n5_ n6_ n7_ n8_ n9_; (try clear hb); (try clear hb2); (try clear hk); (try clear hi); (try clear ho0); obtain ⟨Ao30, co30, eo30⟩ := Kd.R_slice HO247.out; subst eo30) | ((with_reducible refine gate_builtin (b := .append) (xs := #[.tmp 35, .tmp 40]) rfl ?_); at_builtin; refine Kd.S_append (Kd.slice 3 (Kd.int .i64)) (w0 := w) w.heap.size rfl (.tmp 35) (.tmp 40) 76 30 (.slice none 0 0) 24 rfl Try.underlying76 info30 rfl (by decide) (by omega) u3 x3_3 t245 [.slice Ao30 t245.length co30] (fun k_ => some k_ ≠ (.slice (some ad237) t234.length co13 : Value).ownBlock ∧ some k_ ≠ (.slice (some ad241) t238.length co19 : Value).ownBlock ∧ some k_ ≠ (.slice Ao27 t242.length co27 : Value).ownBlock) (fun k_ => some k_ = (.slice Ao30 t245.length co30 : Value).ownBlock) rfl rfl ?aP (fun k_ hk_ => ((Kd.R_mono (ok' := fun k_ => ((fun k_ => some k_ ≠ (.slice (some ad237) t234.length co13 : Value).ownBlock ∧ some k_ ≠ (.slice (some ad241) t238.length co19 : Value).ownBlock ∧ some k_ ≠ (.slice Ao27 t242.length co27 : Value).ownBlock)) k_ ∧ some k_ ≠ (u3 : Value).ownBlock) (Kd.R_apart' (Kd.R_apart' (Kd.R_apart' (HO247.out) (Kd.S_typed HO_19.out) (by decide)) (Kd.S_typed HO_29.out) (by decide)) (Kd.S_typed HO_3.out) (by decide)) (fun k_ hk => ⟨⟨hk.1.1.2, ⟨hk.1.2, hk.1.1.1.2⟩⟩, hk.2⟩))).1 k_ hk_.symm) ?aF ?aO ?aB ?aS ?aL ?_; (case aP => exact Kd.M_row (Kd.R_mono (Kd.R_tight rfl (Kd.R_mono (ok' := fun k_ => ((fun k_ => some k_ ≠ (.slice (some ad237) t234.length co13 : Value).ownBlock ∧ some k_ ≠ (.slice (some ad241) t238.length co19 : Value).ownBlock ∧ some k_ ≠ (.slice Ao27 t242.length co27 : Value).ownBlock)) k_ ∧ some k_ ≠ (u3 : Value).ownBlock) (Kd.R_apart' (Kd.R_apart' (Kd.R_apart' (HO247.out) (Kd.S_typed HO_19.out) (by decide)) (Kd.S_typed HO_29.out) (by decide)) (Kd.S_typed HO_3.out) (by decide)) (fun k_ hk => ⟨⟨hk.1.1.2, ⟨hk.1.2, hk.1.1.1.2⟩⟩, hk.2⟩))) (fun _ h_ => h_))); (case aB => exact (by repeat (first | (with_reducible first | exact HB.out | apply below_alloc | apply pw_below_drewN | apply below_drew1) | exact HB.out))); (case aF => exact (fun k_ hk => ⟨Kd.fresh' (Kd.S_lt (by (with_reducible repeat (first | apply Kd.S_alloc | apply Kd.S_drewN | apply Kd.S_drew)); exact HO_19.out)) k_ hk, Kd.fresh' (Kd.S_lt (by (with_reducible repeat (first | apply Kd.S_alloc | apply Kd.S_drewN | apply Kd.S_drew)); exact HO_29.out)) k_ hk, Kd.fresh' (Kd.R_lt (by (with_reducible repeat (first | apply Kd.R_alloc | apply Kd.R_drewN | apply Kd.R_drew)); exact HO244.out)) k_ hk⟩)); (case aO => exact (by (with_reducible repeat (first | apply Kd.S_alloc | apply Kd.S_drewN | apply Kd.S_drew)); exact Kd.S_mono HO_3.out (fun k_ hk => ⟨⟨hk.1.1.1, ⟨hk.1.1.2, hk.1.2⟩⟩, fun e_ => hk.2 e_⟩))); (case aS => exact (below_size (by repeat (first | (with_reducible first | exact HB.out | apply below_alloc | apply pw_below_drewN | apply below_drew1) | exact HB.out)))); (case aL => have := LMc25.out; omega); intro v249 w29 ho hb hg hat; rw [← Ny248.out] at ho; have n0_ := Aside0.mk (Kd.S_after (ok := (fun k_ => some k_ ≠ (.slice (some ad241) t238.length co19 : Value).ownBlock ∧ some k_ ≠ (.slice Ao27 t242.length co27 : Value).ownBlock ∧ some k_ ≠ (.slice Ao30 t245.length co30 : Value).ownBlock)) (by (with_reducible repeat (first | apply Kd.S_alloc | apply Kd.S_drewN | apply Kd.S_drew)); exact Kd.S_mono HO_19.out (fun _ hk => ⟨⟨hk.1.1.2, ⟨hk.1.2, hk.2⟩⟩, hk.1.1.1⟩)) hg hat); have n1_ := Aside0.mk (Kd.S_after (ok := (fun k_ => some k_ ≠ (.slice (some ad237) t234.length co13 : Value).ownBlock ∧ some k_ ≠ (.slice Ao27 t242.length co27 : Value).ownBlock ∧ some k_ ≠ (.slice Ao30 t245.length co30 : Value).ownBlock)) (by (with_reducible repeat (first | apply Kd.S_alloc | apply Kd.S_drewN | apply Kd.S_drew)); exact Kd.S_mono HO_29.out (fun _ hk => ⟨⟨hk.1.1.2, ⟨hk.1.2, hk.2⟩⟩, hk.1.1.1⟩)) hg hat); have n2_ := Aside0.mk (Kd.R_after (ok := (fun k_ => some k_ ≠ (.slice (some ad237) t234.length co13 : Value).ownBlock ∧ some k_ ≠ (.slice Ao27 t242.length co27 : Value).ownBlock ∧ some k_ ≠ (.slice Ao30 t245.length co30 : Value).ownBlock)) (by (with_reducible repeat (first | apply Kd.R_alloc | apply Kd.R_drewN | apply Kd.R_drew)); exact Kd.R_mono HL237_0.out (fun _ hk => ⟨⟨hk.1.1.2, ⟨hk.1.2, hk.2⟩⟩, hk.1.1.1⟩)) hg hat); have n3_ := Aside0.mk (Kd.R_after (ok := (fun k_ => some k_ ≠ (.slice (some ad237) t234.length co13 : Value).ownBlock ∧ some k_ ≠ (.slice (some ad241) t238.length co19 : Value).ownBlock ∧ some k_ ≠ (.slice Ao27 t242.length co27 : Value).ownBlock ∧ some k_ ≠ (.slice Ao30 t245.length co30 : Value).ownBlock)) (by (with_reducible repeat (first | apply Kd.R_alloc | apply Kd.R_drewN | apply Kd.R_drew)); exact Kd.R_mono HL241_0.out (fun _ hk => ⟨⟨hk.1.1.1.2, ⟨hk.1.1.2, ⟨hk.1.2, hk.2⟩⟩⟩, hk.1.1.1.1⟩)) hg hat); have n4_ := Aside0.mk (Kd.R_over' (by (with_reducible repeat (first | apply Kd.R_alloc | apply Kd.R_drewN | apply Kd.R_drew)); exact HO244.out) (Kd.S_typed (by (with_reducible repeat (first | apply Kd.S_alloc | apply Kd.S_drewN | apply Kd.S_drew)); exact HO_3.out)) (by decide) hg); have n5_ := Aside0.mk (hb); have n6_ := Aside0.mk (ho); clear HO_19; clear HO_29; clear HL237_0; clear HL241_0; clear HO244; clear HB; clear HO_3; clear HO247; have HO_19 := n0_; have HO_29 := n1_; have HL237_0 := n2_; have HL241_0 := n3_; have HO244 := n4_; have HB := n5_; have HO250 := n6_; clear n0_ n1_ n2_ n3_ n4_ n5_ n6_; clear ho hb hg hat))
                                go_roundg k3
                                case measure => have := HK1.out; have := HK2.out; have := HK3.out; omega
                                case rel => exact ⟨(y248), (wrap64 (x31_3 + 1)), (by first | rfl | (simp; done) | (simp [*]; done)), H', ⟨by have := HK1.out; have := HK2.out; have := HK3.out; omega⟩, ⟨by (with_reducible repeat (first | apply Kd.S_alloc | apply Kd.S_drewN | apply Kd.S_drew)); exact Kd.S_mono HO250.out (fun _ hk => ⟨hk.1, hk.2.1⟩)⟩, ⟨by (with_reducible repeat (first | apply Kd.S_alloc | apply Kd.S_drewN | apply Kd.S_drew)); exact Kd.S_mono HO_19.out (fun _ hk => ⟨hk.2, hk.1.1⟩)⟩, ⟨by (with_reducible repeat (first | apply Kd.S_alloc | apply Kd.S_drewN | apply Kd.S_drew)); exact Kd.S_mono HO_29.out (fun _ hk => ⟨hk.2, hk.1.1⟩)⟩, ⟨by (with_reducible repeat (first | apply Kd.R_alloc | apply Kd.R_drewN | apply Kd.R_drew)); exact Kd.R_mono HL237_0.out (fun _ hk => ⟨hk.2, hk.1.1⟩)⟩, ⟨by repeat (first | (with_reducible first | exact HB.out | apply below_alloc | apply pw_below_drewN | apply below_drew1) | exact HB.out)⟩⟩
                              · rw [if_neg c25] at H
                                exact absurd H (by simp)
                            · rw [if_neg c22] at H
                              exact absurd H (by simp)
                          · rw [if_neg c21] at H
                            exact absurd H (by simp)
                        · rw [if_neg c20] at H
                          have c20b0 : decide (x31_3 < (t238.length : Int)) = false := decide_eq_false c20
                          clear c20
                          have H' := Aside0.mk H
                          clear H
                          go_wp2
                          go_roundg k3
                          case measure => have := HK1.out; have := HK2.out; have := HK3.out; omega
                          case rel => exact ⟨(x3_3), (wrap64 (x21_2 + 1)), (by first | rfl | (simp; done) | (simp [*]; done)), H', ⟨by have := HK1.out; have := HK2.out; have := HK3.out; omega⟩, ⟨by (with_reducible repeat (first | apply Kd.S_alloc | apply Kd.S_drewN | apply Kd.S_drew)); exact Kd.S_mono HO_3.out (fun _ hk => hk.1)⟩, ⟨by (with_reducible repeat (first | apply Kd.S_alloc | apply Kd.S_drewN | apply Kd.S_drew)); exact Kd.S_mono HO_19.out (fun _ hk => hk.1)⟩, ⟨by repeat (first | (with_reducible first | exact HB.out | apply below_alloc | apply pw_below_drewN | apply below_drew1) | exact HB.out)⟩⟩
                  · rw [if_neg c16] at H
                    exact absurd H (by simp)
                · rw [if_neg c15] at H
                  exact absurd H (by simp)
              · rw [if_neg c14] at H
                have c14b0 : decide (x21_2 < (t234.length : Int)) = false := decide_eq_false c14
                clear c14
                have H' := Aside0.mk H
                clear H
                go_wp2
                go_roundg k2
                case measure => have := HK1.out; have := HK2.out; omega
                case rel => exact ⟨(x3_2), (wrap64 (x15_1 + 1)), (by first | rfl | (simp; done) | (simp [*]; done)), H', ⟨by have := HK1.out; have := HK2.out; omega⟩, ⟨by (with_reducible repeat (first | apply Kd.S_alloc | apply Kd.S_drewN | apply Kd.S_drew)); exact Kd.S_mono HO_3.out (fun _ hk => trivial)⟩, ⟨by repeat (first | (with_reducible first | exact HB.out | apply below_alloc | apply pw_below_drewN | apply below_drew1) | exact HB.out)⟩⟩
        · rw [if_neg c10] at H
          have c10b0 : decide (x15_1 < a0) = false := decide_eq_false c10
          clear c10
          by_cases c31 : x3_1.length < 4611686018427387904
          · rw [if_pos c31] at H
            have LMc31 := Aside0.mk c31
            clear c31
            obtain ⟨y231, hy231⟩ : ∃ y_ : List (List Int), y_ = (slices_SortFunc_int_int.g x3_1) := ⟨_, rfl⟩
            replace H : (some y231) = some r := by first | (rw [hy231]; with_reducible exact H) | (have H2_ := (Option.bind_some _ _).symm.trans H; rw [hy231]; with_reducible exact H2_) | (have H2_ := (Option.bind_some _ _).symm.trans H; with_reducible exact H2_) | with_reducible exact H | (rw [hy231]; exact H) | exact H
            have Ny231 := Aside0.mk hy231
            clear hy231
            obtain rfl := Option.some.inj H
            go_wp2_with (first | ((with_reducible refine gate_callee (f := 104) rfl ?_); refine goesL_ (some 46) rfl rfl Try.func104 (by kernel_rfl) rfl #[u3, .func (.func 105) #[] #[]] rfl (by (try simp only [List.map_toArray, List.map_cons, List.map_nil]); first | done | rfl) ?_; refine (slices_SortFunc_int_int.ev (w0 := w) w.heap.size _ u3 x3_1 (by have := LMc31.out; omega) (by (with_reducible repeat (first | apply Kd.S_alloc | apply Kd.S_drewN | apply Kd.S_drew)); exact HO_3.out) (by repeat (first | (with_reducible first | exact HB.out | apply below_alloc | apply pw_below_drewN | apply below_drew1) | exact HB.out)) (below_size (by repeat (first | (with_reducible first | exact HB.out | apply below_alloc | apply pw_below_drewN | apply below_drew1) | exact HB.out)))).mono ?_; rintro e_ w32 ⟨rfl, ho, hb, hg⟩; refine ⟨_, rfl, ?_⟩; rw [← Ny231.out] at ho; skip; have n0_ := Aside0.mk (ho); have n1_ := Aside0.mk (hb); clear HO_3; clear HB; have HO_3 := n0_; have HB := n1_; clear n0_ n1_; clear ho hb hg))
            go_ret
            exact ⟨_, by first | rfl | (simp [errW_none, errW_some] <;> rfl) | (simp [*, errW_none, errW_some] <;> rfl), by (with_reducible repeat (first | apply Kd.S_alloc | apply Kd.S_drewN | apply Kd.S_drew)); exact HO_3.out, by repeat (first | (with_reducible first | exact HB.out | apply below_alloc | apply pw_below_drewN | apply below_drew1) | exact HB.out)⟩
          · rw [if_neg c31] at H
            exact absurd H (by simp)

end Go.Proofs.Ytnnkjjacpbbigaa.PB
namespace Go.Proofs.Ytnnkjjacpbbigaa.PB
open Go.RowKit Go.Proofs.YtnnkjjacpbbigaaW.PrintWords Go.Proofs.YtnnkjjacpbbigaaW.PrintLast Go.Proofs.YtnnkjjacpbbigaaW.PrintMore
attribute [local go_sem] max2_int min2_int max_two min_two max_three min_three max_four min_four   -- for this text's walks alone

/-! ### impl_pairs: function 61 -/
def impl_pairs.f (k : Nat) (a0 : Int) : Option (List S41) := (impl_systems.f k a0).bind fun xs => if xs.length ≤ 1000 ∧ xs.all (fun p => decide (p.length ≤ 1000)) = true then some (xs.flatMap fun p => xs.map fun q => (⟨p, q⟩ : S41)) else none
theorem impl_pairs.mono : ∀ a0 k, LeO (impl_pairs.f k a0) (impl_pairs.f (k + 1) a0) := fun a0 k => LeO.bind (impl_systems.mono a0 k) (fun _ => LeO.refl _)
def impl_pairs.upto (xs : List (List Int)) (i : Nat) : List S41 := (xs.take i).flatMap fun p => xs.map fun q => (⟨p, q⟩ : S41)
theorem impl_pairs.upto_len (xs : List (List Int)) (i : Nat) : (impl_pairs.upto xs i).length = min i xs.length * xs.length := by
  unfold impl_pairs.upto
  have : ∀ l : List (List Int), (l.flatMap fun p => xs.map fun q => (⟨p, q⟩ : S41)).length = l.length * xs.length := by
    intro l
    induction l with
    | nil => simp
    | cons a l ih => simp only [List.flatMap_cons, List.length_append, List.length_map, ih, List.length_cons, Nat.succ_mul]; omega
  rw [this, List.length_take]
theorem impl_pairs.upto_succ (xs : List (List Int)) (i : Nat) (h : i < xs.length) : impl_pairs.upto xs (i + 1) = impl_pairs.upto xs i ++ xs.map fun q => (⟨xs[i], q⟩ : S41) := by
  unfold impl_pairs.upto
  rw [show xs.take (i + 1) = xs.take i ++ [xs[i]] from List.take_succ_eq_append_getElem h, List.flatMap_append]
  simp
set_option maxHeartbeats 8000000 in
set_option maxRecDepth 100000 in
theorem impl_pairs.callsA (k : Nat) (a0 : Int) (r : List S41) (w : World) (h : impl_pairs.f k a0 = some r) :
    Calls Try.prog 61 #[.int .i64 a0] w fun e w' => ∃ v0_ : Value, e = .returned (v0_) ∧ Kd.S cm_kA 41 w' w.heap.size (fun _ => True) v0_ r ∧ Below w.heap.size w w' := by
  have hu41 := Try.underlying41
  have HB := Aside0.mk (Below.refl w.heap.size w)
  obtain ⟨xs, A1, H⟩ := Option.bind_eq_some_iff.mp h
  by_cases hc : xs.length ≤ 1000 ∧ xs.all (fun p => decide (p.length ≤ 1000)) = true
  · rw [if_pos hc] at H
    have hr := Option.some.inj H
    have hxs : ∀ p ∈ xs, p.length ≤ 1000 := fun p hp => by simpa using List.all_eq_true.1 hc.2 p hp
    have HR := Aside0.mk hr
    have HXS := Aside0.mk hxs
    have HXL := Aside0.mk hc.1
    have HA1 := Aside0.mk A1
    clear hr hxs hc H A1 h
    go_enter Try.func61, Try.ntmps61
    go_wp2_with (first | ((with_reducible refine gate_dst (N := 8) rfl ?_); refine Kd.S_lit cm_kA _ 41 ?hg (N := 8) ?hd (xs := ([] : List S41)) (inner := []) (ok := fun _ => True) (okp := fun _ => True) ?hr ?hp (fun _ hk => hk) trivial (Below.refl _ _) (Nat.le_refl _) (by simp) ?_; (case hd => rfl); (case hg => rfl); (case hr => first | (go_simp; done) | (go_simp; rfl)); (case hp => exact (Reps.none _ _)); intro v3 w3 ho4 hb hg_ hnew_; have n0_ := Aside0.mk (Kd.S_lower ho4 (below_size (by repeat (first | (with_reducible first | exact HB.out | apply below_alloc | apply pw_below_drewN | apply below_drew1) | exact HB.out)))); have n1_ := Aside0.mk (below_step (by repeat (first | (with_reducible first | exact HB.out | apply below_alloc | apply pw_below_drewN | apply below_drew1) | exact HB.out)) hb); clear HB; have HO := n0_; have HB := n1_; clear n0_ n1_ hg_ hnew_ hb ho4))
    refine (impl_systems.calls k a0 xs _ HA1.out).mono ?_
    rintro e w4 ⟨vp, rfl, ho, hb⟩
    have HP := Aside0.mk (Kd.S_lower (Kd.S_new' ho (Kd.S_lt HO.out)) (below_size HB.out))
    have HO4 := Aside0.mk (Kd.S_below HO.out hb)
    have HB4 := Aside0.mk (below_step HB.out hb)
    obtain ⟨Ap, cp, rfl⟩ := Kd.S_slice ho
    clear HO HB ho hb
    have hmax := (Kd.S_reads' HP.out).2.2.2.1
    dsimp only
    go_wp2
    go_loopg [3, 12] xs.length (fun kq v3 v12 w' => ∃ i : Nat, v12 = .int .i64 (i : Int) ∧ i ≤ xs.length ∧ kq = xs.length - i ∧ Aside0 (Kd.S cm_kA 41 w' w.heap.size (fun _ => True) v3 (impl_pairs.upto xs i)) ∧ Aside0 (Kd.S (Kd.slice 3 (Kd.int .i64)) 30 w' w.heap.size (fun k_ => True ∧ some k_ ≠ (v3 : Value).ownBlock) (.slice Ap xs.length cp) xs) ∧ Aside0 (Below w.heap.size w w'))
    case atStart => exact ⟨0, rfl, Nat.zero_le _, rfl, ⟨by simpa [impl_pairs.upto] using HO4.out⟩, HP, HB4⟩
    case round =>
      clear HP HO4 HB4
      obtain ⟨i, rfl, hi, hk, HO, HP, HB⟩ := hrel
      by_cases c : i < xs.length
      · obtain ⟨ad, A0, c0, e1, hx, hRp⟩ := cm_S_elem HP.out i c
        subst e1
        obtain ⟨p, ep⟩ : ∃ p, p = xs[i] := ⟨_, rfl⟩
        rw [← ep] at hx hRp
        have EP := Aside0.mk ep
        have hp1000 : p.length ≤ 1000 := by rw [ep]; exact HXS.out _ (List.getElem_mem c)
        have HPE := Aside0.mk hRp
        have hc0 := (Kd.R_reads' HPE.out).2.1
        have hpm := (Kd.R_reads' HPE.out).2.2.2.1
        have cb0 : decide ((i : Int) < (xs.length : Int)) = true := decide_eq_true (by omega)
        have p14 : (0 ≤ (i : Int)) = True := eq_true (by omega)
        have q14 : ((i : Int) < (xs.length : Int)) = True := eq_true (by omega)
        have HJ := Aside0.mk (And.intro c hk)
        have HW1 := Aside0.mk (show wrap64 ((i : Int) + 1) = ((i + 1 : Nat) : Int) by simp only [wrap64]; omega)
        clear hRp ep hi hk
        go_wp2_with fail
        refine (impl_systems.calls k a0 xs _ HA1.out).mono ?_
        rintro e w5 ⟨vq, rfl, ho, hb⟩
        obtain ⟨f, hRq⟩ := ho
        obtain ⟨Aq, cq, eq⟩ := Kd.R_slice hRq
        rw [List.length_zipIdx] at eq
        subst eq
        obtain ⟨s0, hs0⟩ : ∃ s, s = wr.heap.size := ⟨_, rfl⟩
        obtain ⟨s1, hs1⟩ : ∃ s, s = w5.heap.size := ⟨_, rfl⟩
        obtain ⟨OK, hOK⟩ : ∃ OK : Nat → Nat → Prop, ∀ j k, OK j k ↔ ¬ (s0 ≤ k ∧ k < s1 ∧ (j ≤ f k ∨ some k = (Value.slice Aq xs.length cq).ownBlock)) := ⟨_, fun _ _ => Iff.rfl⟩
        have HOK := Aside0.mk hOK
        have HQ := Aside0.mk (show (Kd.tag f (Kd.slice 3 (Kd.int .i64))).R 30 w5 s0 (fun k_ => s0 ≤ k_ ∧ k_ < s1) (.slice Aq xs.length cq) xs.zipIdx by rw [hs0, hs1]; exact Kd.R_mono (Kd.R_bound hRq) (fun _ h_ => ⟨h_.2.1, h_.2.2.1⟩))
        have HO5 := Aside0.mk (show Kd.S cm_kA 41 w5 w.heap.size (OK 0) u3 (impl_pairs.upto xs i ++ (xs.take 0).map fun q => (⟨p, q⟩ : S41)) by
          simp only [List.take_zero, List.map_nil, List.append_nil]
          exact Kd.S_mono (Kd.S_below (Kd.S_bound HO.out) hb) (fun k_ h_ => by rw [hOK, hs0]; have := h_.2.2.1; omega))
        have HV5 := Aside0.mk (show ∀ b, (u3 : Value).ownBlock = some b → b < s0 ∨ s1 ≤ b from fun b h_ => .inl (by rw [hs0]; exact Kd.S_lt HO.out b h_))
        have HP5 := Aside0.mk (Kd.S_below HP.out hb)
        have HPE5 := Aside0.mk (Kd.R_below HPE.out hb)
        have HB5 := Aside0.mk (below_step HB.out hb)
        have HS5 := Aside0.mk (show s1 ≤ w5.heap.size from Nat.le_of_eq hs1)
        have HS0 := Aside0.mk (show w.heap.size ≤ s0 by rw [hs0]; exact HB.out.size)
        have HS01 := Aside0.mk (show s0 ≤ s1 by rw [hs0, hs1]; exact hb.size)
        clear hRq hs0 hs1 hOK hb HO HP HPE HB
        dsimp only
        go_wp2
        go_loopg [3, 19] xs.length (fun kq v3 v19 w' => ∃ j : Nat, v19 = .int .i64 (j : Int) ∧ j ≤ xs.length ∧ kq = xs.length - j ∧ Aside0 (Kd.S cm_kA 41 w' w.heap.size (OK j) v3 (impl_pairs.upto xs i ++ (xs.take j).map fun q => (⟨p, q⟩ : S41))) ∧ Aside0 (Kd.S (Kd.slice 3 (Kd.int .i64)) 30 w' w.heap.size (fun k_ => True ∧ some k_ ≠ (v3 : Value).ownBlock) (.slice (some ad) xs.length cp) xs) ∧ Aside0 (Kd.R (Kd.int .i64) 3 w' w.heap.size (fun k_ => True ∧ some k_ ≠ (v3 : Value).ownBlock) (.slice A0 p.length c0) p) ∧ Aside0 ((Kd.tag f (Kd.slice 3 (Kd.int .i64))).R 30 w' s0 (fun k_ => s0 ≤ k_ ∧ k_ < s1) (.slice Aq xs.length cq) xs.zipIdx) ∧ Aside0 (∀ b, (v3 : Value).ownBlock = some b → b < s0 ∨ s1 ≤ b) ∧ Aside0 (s1 ≤ w'.heap.size) ∧ Aside0 (Below w.heap.size w w'))
        case atStart => exact ⟨0, rfl, Nat.zero_le _, rfl, HO5, HP5, HPE5, HQ, HV5, HS5, HB5⟩
        case round =>
          clear HO5 HP5 HPE5 HQ HV5 HS5 HB5
          obtain ⟨j, rfl, hj, hkj, HO, HP, HPE, HQ, HV, HS, HB⟩ := hrel
          by_cases cj : j < xs.length
          · obtain ⟨ad2, A2, c2, e2, hx2, hRj⟩ := cm_tag_elem HQ.out j cj
            cases e2
            obtain ⟨q, eq⟩ : ∃ q, q = xs[j] := ⟨_, rfl⟩
            rw [← eq] at hx2 hRj
            have EQ := Aside0.mk eq
            have HRJ := Aside0.mk hRj
            have cb1 : decide ((j : Int) < (xs.length : Int)) = true := decide_eq_true (by omega)
            have p21 : (0 ≤ (j : Int)) = True := eq_true (by omega)
            have q21 : ((j : Int) < (xs.length : Int)) = True := eq_true (by omega)
            have HJ2 := Aside0.mk (And.intro cj hkj)
            have HW2 := Aside0.mk (show wrap64 ((j : Int) + 1) = ((j + 1 : Nat) : Int) by simp only [wrap64]; omega)
            have hcl : slices_Clone_int_int.f p = some p := by unfold slices_Clone_int_int.f; rw [if_pos (by omega)]
            have HCL := Aside0.mk hcl
            clear hRj eq hj hkj hcl
            go_wp2_with fail
            refine (slices_Clone_int_int.calls A0 c0 p p _ (Kd.R_reads' HPE.out).2.2 hc0 HCL.out).mono ?_
            rintro e w6 ⟨vc, rfl, hoc, hb⟩
            obtain ⟨Ac, cc, rfl⟩ := Kd.R_slice hoc
            obtain ⟨s2, hs2⟩ : ∃ s, s = wr.heap.size := ⟨_, rfl⟩
            obtain ⟨OP, hOP⟩ : ∃ OP : Nat → Prop, ∀ k, OP k ↔ (s2 ≤ k ∨ (s0 ≤ k ∧ k < s1 ∧ f k = j ∧ some k ≠ (Value.slice (some ad2) xs.length cq).ownBlock)) := ⟨_, fun _ => Iff.rfl⟩
            have hs12 : s1 ≤ s2 := by rw [hs2]; exact HS.out
            have HC6 := Aside0.mk (show cm_kA.M w6 w.heap.size OP (⟨p, q⟩ : S41) [.slice Ac p.length cc, .slice A2 q.length c2] from ⟨fun k_ => decide (s2 ≤ k_), _, _, rfl, Kd.R_mono (Kd.R_lower (Kd.R_bound hoc) HB.out.size) (fun k_ h_ => ⟨(hOP k_).2 (.inl (by rw [hs2]; exact h_.2.1)), decide_eq_true (by rw [hs2]; exact h_.2.1)⟩), Kd.R_mono (Kd.R_lower (Kd.R_below HRJ.out hb) HS0.out) (fun k_ h_ => ⟨(hOP k_).2 (.inr ⟨h_.1.1.1, h_.1.1.2, h_.2, h_.1.2⟩), decide_eq_false (by have := h_.1.1.2; omega)⟩)⟩)
            have HO6 := Aside0.mk (Kd.S_mono (Kd.S_below (Kd.S_bound HO.out) hb) (ok' := fun k_ => OK (j + 1) k_ ∧ ¬ OP k_) (fun k_ h_ => by
              have h1 := (HOK.out j k_).1 h_.1
              have h2 := h_.2.2.1
              refine ⟨(HOK.out (j + 1) k_).2 (fun h3 => h1 ⟨h3.1, h3.2.1, h3.2.2.elim (fun h4 => .inl (by omega)) .inr⟩), fun h3 => ?_⟩
              rcases (hOP k_).1 h3 with h4 | ⟨h4, h5, h6, h7⟩
              · omega
              · exact h1 ⟨h4, h5, .inl (by omega)⟩))
            have HAP := Aside0.mk (show ∀ k_, OP k_ → OK (j + 1) k_ ∧ some k_ ≠ (u3 : Value).ownBlock from fun k_ h_ => by
              rcases (hOP k_).1 h_ with h4 | ⟨h4, h5, h6, h7⟩
              · refine ⟨(HOK.out (j + 1) k_).2 (fun h3 => by omega), fun h3 => ?_⟩
                have := Kd.S_lt HO.out k_ h3.symm
                omega
              · refine ⟨(HOK.out (j + 1) k_).2 (fun h3 => h3.2.2.elim (fun h8 => by omega) (fun h8 => h7 h8)), fun h3 => ?_⟩
                have := HV.out k_ h3.symm
                omega)
            have HP6 := Aside0.mk (Kd.S_below HP.out hb)
            have HPE6 := Aside0.mk (Kd.R_below HPE.out hb)
            have HQ6 := Aside0.mk (Kd.R_below HQ.out hb)
            have HS6 := Aside0.mk (Nat.le_trans HS.out hb.size)
            have HB6 := Aside0.mk (below_step HB.out hb)
            have HLN := Aside0.mk (show (impl_pairs.upto xs i ++ (xs.take j).map fun q => (⟨p, q⟩ : S41)).length + 1 ≤ 2000000 by
              have h1 := impl_pairs.upto_len xs i
              have h3 := HXL.out
              have h2 : min i xs.length * xs.length ≤ 1000 * 1000 := Nat.mul_le_mul (by omega) HXL.out
              simp only [List.length_append, List.length_map, List.length_take]
              omega)
            clear hoc hb hs2 hOP hs12 HO HP HPE HQ HS HB HRJ
            dsimp only
            go_wp2_with (first | ((with_reducible refine gate_builtin (b := .append) (xs := #[.tmp 23, .tmp 28]) rfl ?_); at_builtin; refine Kd.S_append cm_kA (w0 := w) w.heap.size rfl (.tmp 23) (.tmp 28) 22 41 (.agg #[(.slice none 0 0), (.slice none 0 0)]) 48 rfl Try.underlying22 info41 rfl (by decide) (by omega) u3 _ (⟨p, q⟩ : S41) [.slice Ac p.length cc, .slice A2 q.length c2] (OK (j + 1)) OP rfl rfl HC6.out HAP.out ?aF HO6.out HB6.out HB6.out.size ?aL ?_; (case aF => exact fun k_ h_ => (HOK.out (j + 1) k_).2 (fun h3 => by have := HS6.out; omega)); (case aL => have := HLN.out; omega); intro v1 w7 ho hbw hg hat; have n0_ := Aside0.mk ho; have n1_ := Aside0.mk (Kd.S_after HP6.out hg hat); have n2_ := Aside0.mk (Kd.R_after HPE6.out hg hat); have n3_ := Aside0.mk (Kd.R_grown HQ6.out hg (fun k_ h_ h2_ => by have := HV.out k_ h2_.symm; omega)); have n4_ := Aside0.mk (show ∀ b, (v1 : Value).ownBlock = some b → b < s0 ∨ s1 ≤ b from fun b h_ => hat.elim (fun h2_ => HV.out b (h2_ ▸ h_)) (fun ⟨b2, h2_, h3_⟩ => by rw [h2_] at h_; injection h_ with h_; have := HS6.out; omega)); have n5_ := Aside0.mk (Nat.le_trans HS6.out hg.size); have n6_ := Aside0.mk hbw; clear HC6 HO6 HAP HP6 HPE6 HQ6 HS6 HB6 HV ho hbw hg hat))
            go_roundg (xs.length - (j + 1))
            case measure => have := HJ2.out; omega
            case rel => exact ⟨j + 1, by first | go_num | (rw [HW2.out]), by have := HJ2.out; omega, rfl, ⟨by rw [show xs.take (j + 1) = xs.take j ++ [q] from by rw [EQ.out]; exact List.take_succ_eq_append_getElem HJ2.out.1, List.map_append, ← List.append_assoc]; exact n0_.out⟩, n1_, n2_, n3_, n4_, n5_, n6_⟩
          · have cb1 : decide ((j : Int) < (xs.length : Int)) = false := decide_eq_false (by omega)
            have HE := Aside0.mk (show impl_pairs.upto xs i ++ (xs.take j).map (fun q => (⟨p, q⟩ : S41)) = impl_pairs.upto xs (i + 1) by rw [impl_pairs.upto_succ xs i c, List.take_of_length_le (by omega), EP.out])
            clear hj hkj
            go_wp2
            go_roundg (xs.length - (i + 1))
            case measure => have := HJ.out; omega
            case rel => exact ⟨i + 1, by first | go_num | (rw [HW1.out]), by have := HJ.out; omega, rfl, ⟨by rw [← HE.out]; exact Kd.S_mono HO.out (fun _ _ => trivial)⟩, HP, HB⟩
      · have cb0 : decide ((i : Int) < (xs.length : Int)) = false := decide_eq_false (by omega)
        have HE := Aside0.mk (show impl_pairs.upto xs i = r by rw [← HR.out]; unfold impl_pairs.upto; rw [List.take_of_length_le (by omega)])
        clear hi hk
        go_wp2
        go_ret
        exact ⟨_, rfl, by rw [← HE.out]; exact HO.out, HB.out⟩
  · rw [if_neg hc] at H
    cases H
theorem impl_pairs.calls (k : Nat) (a0 : Int) (r : List S41) (w : World) (h : impl_pairs.f k a0 = some r) :
    Calls Try.prog 61 #[.int .i64 a0] w fun e w' => ∃ v0_ : Value, e = .returned (v0_) ∧ Kd.S k41 41 w' w.heap.size (fun _ => True) v0_ r ∧ Below w.heap.size w w' :=
  (impl_pairs.callsA k a0 r w h).mono fun _ _ ⟨v, h1, h2, h3⟩ => ⟨v, h1, cm_kA_S h2, h3⟩

end Go.Proofs.Ytnnkjjacpbbigaa.PB
namespace Go.Proofs.Ytnnkjjacpbbigaa.PB
open Go.RowKit Go.Proofs.YtnnkjjacpbbigaaW.PrintWords Go.Proofs.YtnnkjjacpbbigaaW.PrintLast Go.Proofs.YtnnkjjacpbbigaaW.PrintMore
attribute [local go_sem] max2_int min2_int max_two min_two max_three min_three max_four min_four   -- for this text's walks alone

/-! ### impl_without: function 114 -/
/-- How many of the first i points are kept (G: gone). -/
def impl_without.cnt (G : Int → Bool) : Nat → Nat
  | 0 => 0
  | i + 1 => if G (i : Int) = true then impl_without.cnt G i else impl_without.cnt G i + 1
def impl_without.pl (G : Int → Bool) (n i : Nat) : List Int := (List.range n).map fun j => if j < i then (impl_without.cnt G j : Int) else 0
def impl_without.out (G : Int → Bool) (pl : List Int) : Nat → List Int → List Int → Option (List Int)
  | _, [], out => some out
  | i, j :: rest, out => if G (i : Int) = true then impl_without.out G pl (i + 1) rest out else if 0 ≤ j then (if j < (pl.length : Int) then impl_without.out G pl (i + 1) rest (out ++ [rd pl j]) else none) else none
def impl_without.f (G : Int → Bool) (l0 : List Int) : Option (List Int) := if l0.length ≤ 1000000 then impl_without.out G (impl_without.pl G l0.length l0.length) 0 l0 [] else none
theorem impl_without.cnt_le (G : Int → Bool) : ∀ i, impl_without.cnt G i ≤ i
  | 0 => Nat.le_refl _
  | i + 1 => by
    have := impl_without.cnt_le G i
    unfold impl_without.cnt
    split <;> omega
theorem impl_without.pl_length (G : Int → Bool) (n i : Nat) : (impl_without.pl G n i).length = n := by simp [impl_without.pl]
theorem impl_without.pl_zero (G : Int → Bool) (n : Nat) : impl_without.pl G n 0 = List.replicate n 0 := by
  simp only [impl_without.pl, Nat.not_lt_zero, if_false]
  apply List.ext_getElem (by simp)
  intro i h1 h2
  simp
theorem impl_without.pl_set (G : Int → Bool) (n i : Nat) : (impl_without.pl G n i).set i (impl_without.cnt G i : Int) = impl_without.pl G n (i + 1) := by
  apply List.ext_getElem (by simp [impl_without.pl])
  intro q h1 h2
  rw [List.getElem_set]
  simp only [impl_without.pl, List.getElem_map, List.getElem_range]
  by_cases e : i = q
  · subst e
    simp
  · rw [if_neg e]
    by_cases hq : q < i
    · rw [if_pos hq, if_pos (by omega)]
    · rw [if_neg hq, if_neg (by omega)]
theorem impl_without.out_le (G : Int → Bool) (pl : List Int) : ∀ (rest : List Int) (i : Nat) (out r : List Int), impl_without.out G pl i rest out = some r → r.length ≤ out.length + rest.length
  | [], _, out, r, h => by
    simp only [impl_without.out, Option.some.injEq] at h
    subst h
    simp
  | j :: rest, i, out, r, h => by
    unfold impl_without.out at h
    split at h
    · have := impl_without.out_le G pl rest _ _ _ h
      simp only [List.length_cons]
      omega
    · split at h
      · split at h
        · have := impl_without.out_le G pl rest _ _ _ h
          simp only [List.length_append, List.length_cons, List.length_nil] at this ⊢
          omega
        · cases h
      · cases h
set_option maxHeartbeats 8000000 in
set_option maxRecDepth 100000 in
theorem impl_without.callsG (G : Int → Bool) (g : FuncId) (cb : Array Value) (A0 : Option Addr) (c0 : Nat) (l0 : List Int) (r : List Int) (w : World) (hr0 : Kd.C (Kd.int .i64) w A0 l0.length l0) (hc0 : l0.length ≤ c0)
    (heg : ∀ args W, (callFunc g args).run Try.prog W = .ok (.enter g args) W)
    (hG : ∀ W, Below w.heap.size w W → ∀ (x : Int) (b : Bool), G x = b → Calls Try.prog g (#[.int .i64 x] ++ cb) W fun e w' => e = .returned (.bool b) ∧ Drawn0 W w')
    (h : impl_without.f G l0 = some r) :
    Calls Try.prog 114 #[.slice A0 l0.length c0, .func (.func g) #[] cb] w fun e w' => ∃ v0_ : Value, e = .returned (v0_) ∧ Kd.R (Kd.int .i64) 3 w' w.heap.size (fun _ => True) v0_ r ∧ Below w.heap.size w w' := by
  have HR0 := Aside0.mk hr0
  have HB := Aside0.mk (Below.refl w.heap.size w)
  clear hr0
  have hg' := Aside0.mk hG
  clear hG
  unfold impl_without.f at h
  by_cases hl : l0.length ≤ 1000000
  · rw [if_pos hl] at h
    have c3 : decide ((0 : Int) ≤ (l0.length : Int)) = true := decide_eq_true (by omega)
    have c4 : decide (((l0.length : Int) : Int).toNat ≤ 35184372088832) = true := decide_eq_true (by omega)
    have Ny := Aside0.mk (show impl_without.pl G l0.length 0 = List.replicate ((l0.length : Int) : Int).toNat 0 by rw [impl_without.pl_zero]; rfl)
    go_enter Try.func114, Try.ntmps114
    go_wp2_with (first | ((with_reducible refine gate_dst (N := 13) rfl ?_); refine Kd.R_make (Kd.int .i64) _ 3 rfl (N := 13) rfl 30 _ _ rfl (l0.length : Int) rfl rfl Try.underlying30 (.int .i64 0) 8 info3 rfl (by decide) (by omega) 0 (ok := fun _ => True) (okp := fun _ => True) rfl (fun _ hk => hk) trivial (of_decide_eq_true (by first | (with_reducible assumption) | assumption)) (Nat.le_trans (Nat.mul_le_mul_right _ (of_decide_eq_true (by first | (with_reducible assumption) | assumption) : (l0.length : Int).toNat ≤ 35184372088832)) (by omega)) (Below.refl _ _) (Nat.le_refl _) ?_; intro v470 w4 ho5 hb hg_ hnew_; clear hg_ hnew_; (first | rw [← Ny.out] at ho5 | (simp only [Int.reduceToNat] at ho5; rw [← Ny.out] at ho5)); have n0_ := Aside0.mk (Kd.R_lower ho5 (below_size (by repeat (first | (with_reducible first | exact HB.out | apply below_alloc | apply pw_below_drewN | apply below_drew1) | exact HB.out)))); have n1_ := Aside0.mk (below_step (by repeat (first | (with_reducible first | exact HB.out | apply below_alloc | apply pw_below_drewN | apply below_drew1) | exact HB.out)) hb); clear HB; have HO := n0_; have HB := n1_; clear n0_ n1_; clear hb ho5))
    go_loopg [6, 16] l0.length (fun kq v6 v16 w' => ∃ (x6 x16 : Int) (j : Nat), v6 = .int .i64 x6 ∧ v16 = .int .i64 x16 ∧ x6 = ((impl_without.cnt G j : Nat) : Int) ∧ x16 = (j : Int) ∧ j ≤ l0.length ∧ kq = l0.length - j ∧ Aside0 (Kd.R (Kd.int .i64) 3 w' w.heap.size (fun _ => True) v470 (impl_without.pl G l0.length j)) ∧ Aside0 (Below w.heap.size w w'))
    case atStart => exact ⟨0, 0, 0, rfl, rfl, rfl, rfl, Nat.zero_le _, rfl, ⟨by (with_reducible repeat (first | apply Kd.R_alloc | apply Kd.R_drewN | apply Kd.R_drew)); exact HO.out⟩, ⟨by repeat (first | (with_reducible first | exact HB.out | apply below_alloc | apply pw_below_drewN | apply below_drew1) | exact HB.out)⟩⟩
    case round =>
      clear HO HB Ny
      obtain ⟨x6, x16, j, rfl, rfl, hx6, hx16, hj, hk, HO, HB⟩ := hrel
      have hcle := impl_without.cnt_le G j
      by_cases c : j < l0.length
      · have cb0 : decide (x16 < (l0.length : Int)) = true := decide_eq_true (by omega)
        have p9 : 0 ≤ x16 := by omega
        have q9 : x16 < ((impl_without.pl G l0.length j).length : Int) := by rw [impl_without.pl_length]; omega
        have hpl := impl_without.pl_length G l0.length j
        obtain ⟨go9, co9, eo9, gb9, gl9, cl9, HG9⟩ := Kd.R_form HO.out (by rw [impl_without.pl_length]; omega)
        subst eo9
        have GB9 := Aside0.mk gb9
        have GG9 := Aside0.mk HG9
        clear gb9 gl9 HG9
        obtain ⟨hx9_0, hf9_0⟩ := Kd.R_celln 0 HO.out x16 p9 q9
        have hset : (impl_without.pl G l0.length j).set x16.toNat x6 = impl_without.pl G l0.length (j + 1) := by
          rw [hx16, hx6]
          exact impl_without.pl_set G l0.length j
        replace p9 := eq_true p9
        replace q9 := eq_true q9
        have HP10 := Kd.R_putg HO.out x16 x6
        have hw1 : wrap64 (x16 + 1) = ((j + 1 : Nat) : Int) := by simp only [wrap64]; omega
        have hw2 : wrap64 (x6 + 1) = ((impl_without.cnt G j + 1 : Nat) : Int) := by simp only [wrap64]; omega
        have HS := Aside0.mk hset
        have HW1 := Aside0.mk hw1
        have HW2 := Aside0.mk hw2
        have HX6 := Aside0.mk hx6
        have hb0 : G x16 = G (j : Int) := by rw [hx16]
        have hc0 : impl_without.cnt G (j + 1) = if G (j : Int) = true then impl_without.cnt G j else impl_without.cnt G j + 1 := rfl
        rw [← hb0] at hc0
        have HC0 := Aside0.mk hc0
        have HJ := Aside0.mk (And.intro c hk)
        clear hset hw1 hw2 hx6 hx16 hb0 hc0 hcle hpl hj hk c
        cases hb : G x16
        · have HCC := Aside0.mk (show impl_without.cnt G (j + 1) = impl_without.cnt G j + 1 by rw [HC0.out, hb]; rfl)
          go_wp2_with (first | ((with_reducible refine gate_store (t := 3) (p := 22) rfl ?_); refine store_event (t := 3) (p := 22) (v := ?vo_w11) (w1 := (wr.setCell ⟨go9, (x16 : Int).toNat, none⟩ (.int .i64 x6))) ?hg ?ho ?hn ?hr ?_; (case ho => rfl); (case hg => rfl); (case hn => rfl); (case hr => first | (go_simp; done) | (go_simp; rfl)); intro w11 hw; have hg : wr.grownBy w11 (some go9) := (by rw [hw]; exact HP10.2); have hp_ : Kd.R (Kd.int .i64) 3 w11 w.heap.size (fun _ => True) (.slice (some ⟨go9, 0, none⟩) (impl_without.pl G l0.length j).length co9) (impl_without.pl G l0.length (j + 1)) := (by rw [hw, ← HS.out]; exact HP10.1); clear HP10; have n0_ := Aside0.mk (hp_); have n1_ := Aside0.mk ((by rw [hw]; exact below_set (HB.out) GB9.out : Below w.heap.size w w11)); clear HO; clear HB; have HO := n0_; have HB := n1_; clear n0_ n1_; clear hg hw hp_))
          (with_reducible refine (hg'.out _ ?side1 x16 _ hb).mono ?_)
          case side1 => exact HB.out
          rintro e w' ⟨rfl, ⟨nd, rfl⟩⟩
          dsimp only
          go_wp2
          go_roundg (l0.length - (j + 1))
          case measure => have := HJ.out; omega
          case rel => exact ⟨wrap64 (x6 + 1), wrap64 (x16 + 1), j + 1, rfl, rfl, by rw [HW2.out, HCC.out], HW1.out, by have := HJ.out; omega, by have := HJ.out; omega, ⟨by (with_reducible repeat (first | apply Kd.R_alloc | apply Kd.R_drewN | apply Kd.R_drew)); exact HO.out⟩, ⟨by repeat (first | (with_reducible first | exact HB.out | apply below_alloc | apply pw_below_drewN | apply below_drew1) | exact HB.out)⟩⟩
        · have HCC := Aside0.mk (show impl_without.cnt G (j + 1) = impl_without.cnt G j by rw [HC0.out, hb]; rfl)
          go_wp2_with (first | ((with_reducible refine gate_store (t := 3) (p := 22) rfl ?_); refine store_event (t := 3) (p := 22) (v := ?vo_w11) (w1 := (wr.setCell ⟨go9, (x16 : Int).toNat, none⟩ (.int .i64 x6))) ?hg ?ho ?hn ?hr ?_; (case ho => rfl); (case hg => rfl); (case hn => rfl); (case hr => first | (go_simp; done) | (go_simp; rfl)); intro w11 hw; have hg : wr.grownBy w11 (some go9) := (by rw [hw]; exact HP10.2); have hp_ : Kd.R (Kd.int .i64) 3 w11 w.heap.size (fun _ => True) (.slice (some ⟨go9, 0, none⟩) (impl_without.pl G l0.length j).length co9) (impl_without.pl G l0.length (j + 1)) := (by rw [hw, ← HS.out]; exact HP10.1); clear HP10; have n0_ := Aside0.mk (hp_); have n1_ := Aside0.mk ((by rw [hw]; exact below_set (HB.out) GB9.out : Below w.heap.size w w11)); clear HO; clear HB; have HO := n0_; have HB := n1_; clear n0_ n1_; clear hg hw hp_))
          (with_reducible refine (hg'.out _ ?side1 x16 _ hb).mono ?_)
          case side1 => exact HB.out
          rintro e w' ⟨rfl, ⟨nd, rfl⟩⟩
          dsimp only
          go_wp2
          go_roundg (l0.length - (j + 1))
          case measure => have := HJ.out; omega
          case rel => exact ⟨x6, wrap64 (x16 + 1), j + 1, rfl, rfl, by rw [HX6.out, HCC.out], HW1.out, by have := HJ.out; omega, by have := HJ.out; omega, ⟨by (with_reducible repeat (first | apply Kd.R_alloc | apply Kd.R_drewN | apply Kd.R_drew)); exact HO.out⟩, ⟨by repeat (first | (with_reducible first | exact HB.out | apply below_alloc | apply pw_below_drewN | apply below_drew1) | exact HB.out)⟩⟩
      · have cb0 : decide (x16 < (l0.length : Int)) = false := decide_eq_false (by omega)
        have ej : j = l0.length := by omega
        subst ej
        have HP := HO
        clear HO hj hk hx6 hx16 hcle c
        go_wp2_with (first | ((with_reducible refine gate_dst (N := 30) rfl ?_); refine Kd.R_lit (Kd.int .i64) _ 3 ?hg (N := 30) ?hd (xs := ([] : List Int)) (inner := []) (ok := fun _ => True) (okp := fun _ => True) ?hr ?hp (fun _ hk => hk) trivial (Below.refl _ _) (Nat.le_refl _) (by simp) ?_; (case hd => rfl); (case hg => rfl); (case hr => first | (go_simp; done) | (go_simp; rfl)); (case hp => exact (Reps.none _ _)); intro v496 w2 ho3 hb hg_ hnew_; have n0_ := Aside0.mk (Kd.R_lower ho3 (below_size (by repeat (first | (with_reducible first | exact HB.out | apply below_alloc | apply pw_below_drewN | apply below_drew1) | exact HB.out)))); have n1_ := Aside0.mk (below_step (by repeat (first | (with_reducible first | exact HB.out | apply below_alloc | apply pw_below_drewN | apply below_drew1) | exact HB.out)) hb); have n2_ := Aside0.mk (Kd.R_elder' HP.out (v := v496) (fun k hk => by obtain ⟨b_, hb1, hb2⟩ := hnew_; rw [hb1] at hk; injection hk with hk; subst hk; exact hb2) hb); clear HB; clear HP; have HO := n0_; have HB := n1_; have HP := n2_; clear n0_ n1_ n2_; clear hb ho3 hg_ hnew_))
        have hlp := Aside0.mk (impl_without.pl_length G l0.length l0.length)
        go_loopg [8, 33] l0.length (fun kq v8 v33 w' => ∃ (o : List Int) (x33 : Int) (j : Nat), v33 = .int .i64 x33 ∧ x33 = (j : Int) ∧ j ≤ l0.length ∧ kq = l0.length - j ∧ Aside0 (o.length ≤ j) ∧ Aside0 (impl_without.out G (impl_without.pl G l0.length l0.length) j (l0.drop j) o = some r) ∧ Aside0 (Kd.R (Kd.int .i64) 3 w' w.heap.size (fun _ => True) v8 o) ∧ Aside0 (Kd.R (Kd.int .i64) 3 w' w.heap.size (fun k_ => True ∧ some k_ ≠ v8.ownBlock) v470 (impl_without.pl G l0.length l0.length)) ∧ Aside0 (Below w.heap.size w w'))
        case atStart => exact ⟨[], 0, 0, rfl, rfl, Nat.zero_le _, rfl, ⟨Nat.le_refl _⟩, ⟨h⟩, ⟨by (with_reducible repeat (first | apply Kd.R_alloc | apply Kd.R_drewN | apply Kd.R_drew)); exact HO.out⟩, ⟨by (with_reducible repeat (first | apply Kd.R_alloc | apply Kd.R_drewN | apply Kd.R_drew)); exact HP.out⟩, ⟨by repeat (first | (with_reducible first | exact HB.out | apply below_alloc | apply pw_below_drewN | apply below_drew1) | exact HB.out)⟩⟩
        case round =>
          clear HO HB HP h
          obtain ⟨o, x33, j, rfl, hx33, hj, hk, HL, HA, HO, HP, HB⟩ := hrel
          by_cases c : j < l0.length
          · have cb1 : decide (x33 < (l0.length : Int)) = true := decide_eq_true (by omega)
            have H := HA.out
            clear HA
            rw [List.drop_eq_getElem_cons c] at H
            have hrd : rd l0 x33 = l0[j] := by rw [hx33]; simp [rd, List.getD_eq_getElem?_getD, c]
            rw [← hrd] at H
            unfold impl_without.out at H
            rw [← hx33] at H
            have HW1 := Aside0.mk (show wrap64 (x33 + 1) = ((j + 1 : Nat) : Int) by simp only [wrap64]; omega)
            have p472 : 0 ≤ x33 := by omega
            have q472 : x33 < (l0.length : Int) := by omega
            obtain ⟨ad472, e472, hx472_0⟩ := Kd.at_int HR0.out x33 p472 q472
            cases e472
            replace hx472_0 := (HB.out.cell (World.block_lt_of_cell? w _ hx472_0)).trans hx472_0
            replace p472 := eq_true p472
            replace q472 := eq_true q472
            have HJ := Aside0.mk (And.intro c hk)
            clear hx33 hj hk c hrd
            cases hb : G x33
            · rw [hb, if_neg (by decide)] at H
              by_cases c5 : 0 ≤ rd l0 x33
              · rw [if_pos c5] at H
                by_cases c6 : rd l0 x33 < ((impl_without.pl G l0.length l0.length).length : Int)
                · rw [if_pos c6] at H
                  obtain ⟨Ap, cp, ep⟩ := Kd.R_slice HP.out
                  subst ep
                  obtain ⟨ad5, e5, hx5⟩ := Kd.at_int (Kd.R_reads' HP.out).2.2 (rd l0 x33) c5 c6
                  cases e5
                  have H' := Aside0.mk H
                  clear H
                  replace c5 := eq_true c5
                  replace c6 := eq_true c6
                  go_wp2
                  (with_reducible refine (hg'.out _ ?side1 x33 _ hb).mono ?_)
                  case side1 => repeat (first | (with_reducible first | exact HB.out | apply below_alloc | apply pw_below_drewN | apply below_drew1) | exact HB.out)
                  rintro e w' ⟨rfl, ⟨nd, rfl⟩⟩
                  dsimp only
                  go_wp2_with (first | ((with_reducible refine gate_builtin (b := .append) (xs := #[.tmp 42, .tmp 47]) rfl ?_); at_builtin; refine Kd.R_append (Kd.int .i64) (w0 := w) w.heap.size rfl (.tmp 42) (.tmp 47) 30 3 (.int .i64 0) 8 rfl Try.underlying30 info3 rfl (by decide) (by omega) _ o (rd (impl_without.pl G l0.length l0.length) (rd l0 x33)) [.int .i64 (rd (impl_without.pl G l0.length l0.length) (rd l0 x33))] (fun _ => True) (fun _ => False) rfl rfl ?aP (fun _ hk => hk.elim) ?aF ?aO ?aB ?aS ?aL ?_; (case aP => exact rfl); (case aB => exact (by repeat (first | (with_reducible first | exact HB.out | apply below_alloc | apply pw_below_drewN | apply below_drew1) | exact HB.out))); (case aF => exact (fun _ _ => trivial)); (case aO => exact (by (with_reducible repeat (first | apply Kd.R_alloc | apply Kd.R_drewN | apply Kd.R_drew)); exact HO.out)); (case aS => exact (below_size (by repeat (first | (with_reducible first | exact HB.out | apply below_alloc | apply pw_below_drewN | apply below_drew1) | exact HB.out)))); (case aL => have := HL.out; have := HJ.out; omega); intro v282 w11 ho hb_ hg_ hat_; have n0_ := Aside0.mk (hb_); have n1_ := Aside0.mk (ho); have n2_ := Aside0.mk (Kd.R_after (by (with_reducible repeat (first | apply Kd.R_alloc | apply Kd.R_drewN | apply Kd.R_drew)); exact HP.out) hg_ hat_); clear HB; clear HO; clear HP; have HB := n0_; have HO := n1_; have HP := n2_; clear n0_ n1_ n2_; clear ho hb_ hg_ hat_))
                  go_roundg (l0.length - (j + 1))
                  case measure => have := HJ.out; omega
                  case rel => exact ⟨_, wrap64 (x33 + 1), j + 1, rfl, HW1.out, by have := HJ.out; omega, by have := HJ.out; omega, ⟨by have := HL.out; simp only [List.length_append, List.length_cons, List.length_nil]; omega⟩, H', ⟨by (with_reducible repeat (first | apply Kd.R_alloc | apply Kd.R_drewN | apply Kd.R_drew)); exact HO.out⟩, ⟨by (with_reducible repeat (first | apply Kd.R_alloc | apply Kd.R_drewN | apply Kd.R_drew)); exact HP.out⟩, ⟨by repeat (first | (with_reducible first | exact HB.out | apply below_alloc | apply pw_below_drewN | apply below_drew1) | exact HB.out)⟩⟩
                · rw [if_neg c6] at H
                  cases H
              · rw [if_neg c5] at H
                cases H
            · rw [hb, if_pos rfl] at H
              have H' := Aside0.mk H
              clear H
              go_wp2
              (with_reducible refine (hg'.out _ ?side1 x33 _ hb).mono ?_)
              case side1 => repeat (first | (with_reducible first | exact HB.out | apply below_alloc | apply pw_below_drewN | apply below_drew1) | exact HB.out)
              rintro e w' ⟨rfl, ⟨nd, rfl⟩⟩
              dsimp only
              go_wp2
              go_roundg (l0.length - (j + 1))
              case measure => have := HJ.out; omega
              case rel => exact ⟨o, wrap64 (x33 + 1), j + 1, rfl, HW1.out, by have := HJ.out; omega, by have := HJ.out; omega, ⟨by have := HL.out; omega⟩, H', ⟨by (with_reducible repeat (first | apply Kd.R_alloc | apply Kd.R_drewN | apply Kd.R_drew)); exact HO.out⟩, ⟨by (with_reducible repeat (first | apply Kd.R_alloc | apply Kd.R_drewN | apply Kd.R_drew)); exact HP.out⟩, ⟨by repeat (first | (with_reducible first | exact HB.out | apply below_alloc | apply pw_below_drewN | apply below_drew1) | exact HB.out)⟩⟩
          · have cb1 : decide (x33 < (l0.length : Int)) = false := decide_eq_false (by omega)
            have H := HA.out
            rw [List.drop_eq_nil_of_le (by omega)] at H
            simp only [impl_without.out] at H
            obtain rfl := Option.some.inj H
            go_wp2
            go_ret
            exact ⟨_, rfl, by (with_reducible repeat (first | apply Kd.R_alloc | apply Kd.R_drewN | apply Kd.R_drew)); exact HO.out, by repeat (first | (with_reducible first | exact HB.out | apply below_alloc | apply pw_below_drewN | apply below_drew1) | exact HB.out)⟩
  · rw [if_neg hl] at h
    cases h

end Go.Proofs.Ytnnkjjacpbbigaa.PB
namespace Go.Proofs.Ytnnkjjacpbbigaa.PB
open Go.RowKit Go.Proofs.YtnnkjjacpbbigaaW.PrintWords Go.Proofs.YtnnkjjacpbbigaaW.PrintLast Go.Proofs.YtnnkjjacpbbigaaW.PrintMore
attribute [local go_sem] max2_int min2_int max_two min_two max_three min_three max_four min_four   -- for this text's walks alone

/-! ### impl_Meander_isClosed: function 133 -/
def impl_Meander_isClosed.l0 : Nat → Int → Int → Int → List Int → List Int → Option (Bool)
  | 0, _, _, _, _, _ => none
  | k + 1, x1, x2, x7, x252000, x252001 => if x7 ≤ x2 then (if 0 ≤ x7 then (if x7 < (x252000.length : Int) then ((impl_in.f (rd x252000 x7) x1 x2).bind fun t253 => (if t253 = true then (if x7 < (x252001.length : Int) then ((impl_in.f (rd x252001 x7) x1 x2).bind fun t255 => (if t255 = true then (impl_Meander_isClosed.l0 k x1 x2 (wrap64 (x7 + 1)) x252000 x252001) else (some false))) else (none)) else (some false))) else (none)) else (none)) else (some true)
def impl_Meander_isClosed.f (k : Nat) (l0_0 : List Int) (l0_1 : List Int) (a1 : Int) (a2 : Int) : Option (Bool) := impl_Meander_isClosed.l0 k a1 a2 a1 l0_0 l0_1
theorem impl_Meander_isClosed.mono_l : ∀ k, (∀ y0 y1 y2 y3 y4, LeO (impl_Meander_isClosed.l0 k y0 y1 y2 y3 y4) (impl_Meander_isClosed.l0 (k + 1) y0 y1 y2 y3 y4))
  | 0 => fun _ _ _ _ _ r h => by simp [impl_Meander_isClosed.l0] at h
  | k + 1 => by
    have ih0 := impl_Meander_isClosed.mono_l k
    · intro y0 y1 y2 y3 y4
      unfold impl_Meander_isClosed.l0
      repeat' first
      | (with_reducible exact ih0 _ _ _ _ _)
      | (with_reducible exact LeO.refl _)
      | (with_reducible exact LeO.none _)
      | (with_reducible refine LeO.ite ?_ ?_)
      | (with_reducible refine LeO.bind ?_ (fun _ => ?_))
      | exact ih0 _ _ _ _ _
      | exact LeO.none _
      | refine LeO.ite ?_ ?_
      | refine LeO.bind ?_ (fun _ => ?_)
theorem impl_Meander_isClosed.mono : ∀ a0 a1 a2 a3 k, LeO (impl_Meander_isClosed.f k a0 a1 a2 a3) (impl_Meander_isClosed.f (k + 1) a0 a1 a2 a3) := by
  intro a0 a1 a2 a3 k
  have ih0 := impl_Meander_isClosed.mono_l k
  unfold impl_Meander_isClosed.f
  repeat' first
      | (with_reducible exact ih0 _ _ _ _ _)
      | (with_reducible exact LeO.refl _)
      | (with_reducible exact LeO.none _)
      | (with_reducible refine LeO.ite ?_ ?_)
      | (with_reducible refine LeO.bind ?_ (fun _ => ?_))
      | exact ih0 _ _ _ _ _
      | exact LeO.none _
      | refine LeO.ite ?_ ?_
      | refine LeO.bind ?_ (fun _ => ?_)
set_option maxHeartbeats 8000000 in
set_option maxRecDepth 100000 in
theorem impl_Meander_isClosed.calls (k : Nat) (A0_0 : Option Addr) (c0_0 : Nat) (l0_0 : List Int) (A0_1 : Option Addr) (c0_1 : Nat) (l0_1 : List Int) (a1 : Int) (a2 : Int) (r : Bool) (w : World) (hr0_0 : Kd.C (Kd.int .i64) w A0_0 l0_0.length l0_0) (hc0_0 : l0_0.length ≤ c0_0) (hr0_1 : Kd.C (Kd.int .i64) w A0_1 l0_1.length l0_1) (hc0_1 : l0_1.length ≤ c0_1) (h : impl_Meander_isClosed.f k l0_0 l0_1 a1 a2 = some r) :
    Calls Try.prog 133 #[.agg #[.slice A0_0 l0_0.length c0_0, .slice A0_1 l0_1.length c0_1], .int .i64 a1, .int .i64 a2] w fun e w' => e = .returned (.bool r) ∧ Below w.heap.size w w' := by
  have hu41 := Try.underlying41
  have HR0_0 := Aside0.mk hr0_0
  have HC0_0 := Aside0.mk hc0_0
  clear hr0_0 hc0_0
  have HR0_1 := Aside0.mk hr0_1
  have HC0_1 := Aside0.mk hc0_1
  clear hr0_1 hc0_1
  have HB := Aside0.mk (Below.refl w.heap.size w)
  have H : (impl_Meander_isClosed.l0 k a1 a2 a1 l0_0 l0_1) = some r := h
  clear h
  have H' := Aside0.mk H
  clear H
  go_enter Try.func133, Try.ntmps133
  go_wp2_with (first | ((with_reducible refine gate_dst (N := 3) rfl ?_); refine box_event ?hg (N := 3) ?hd (cs := #[.slice A0_0 l0_0.length c0_0, .slice A0_1 l0_1.length c0_1]) (t := 41) ?hr ?_; (case hd => rfl); (case hg => rfl); (case hr => first | (go_simp; done) | (go_simp; rfl)); intro gb251 hg w4 hbox hb; have n0_ := Aside0.mk (below_step (by repeat (first | (with_reducible first | exact HB.out | apply below_alloc | apply pw_below_drewN | apply below_drew1) | exact HB.out)) hb); have n1_ := Aside0.mk (hbox); have n2_ := Aside0.mk ((by rw [hg]; exact (below_size (by repeat (first | (with_reducible first | exact HB.out | apply below_alloc | apply pw_below_drewN | apply below_drew1) | exact HB.out))) : w.heap.size ≤ gb251)); have n3_ := Aside0.mk ((by rw [hg]; exact (below_size (by repeat (first | (with_reducible first | exact HB.out | apply below_alloc | apply pw_below_drewN | apply below_drew1) | exact HB.out))) : w.heap.size ≤ gb251)); clear HB; have HB := n0_; have BK251 := n1_; have GW251 := n2_; have GE251 := n3_; clear n0_ n1_ n2_ n3_; clear hb hbox hg))
  go_loopg [7] k (fun kq v7 w' => ∃ (x7_1 : Int), v7 = .int .i64 x7_1 ∧ Aside0 (impl_Meander_isClosed.l0 kq a1 a2 x7_1 l0_0 l0_1 = some r) ∧ Aside0 (kq ≤ k) ∧ Aside0 (w'.heap[gb251]? = some (.cells #[(.slice A0_0 l0_0.length c0_0), (.slice A0_1 l0_1.length c0_1)] 41 (0, 0))) ∧ Aside0 (Below w.heap.size w w'))
  case atStart => exact ⟨(a1), (by first | rfl | (simp; done) | (simp [*]; done)), H', ⟨Nat.le_refl _⟩, ⟨by (with_reducible repeat (first | refine blk_drewN ?_ _ | refine blk_drew ?_ | refine blk_alloc ?_ _)); exact BK251.out⟩, ⟨by repeat (first | (with_reducible first | exact HB.out | apply below_alloc | apply pw_below_drewN | apply below_drew1 | refine below_set ?_ GE251.out) | exact HB.out)⟩⟩
  case round =>
    clear H'
    try clear c1
    try clear p2
    obtain ⟨x7_1, rfl, HA, HK1, BK251, HB⟩ := hrel
    cases gk with
    | zero => exact absurd HA.out (by simp [impl_Meander_isClosed.l0])
    | succ k1 =>
      have H := HA.out
      clear HA
      simp only [impl_Meander_isClosed.l0] at H
      by_cases c5 : x7_1 ≤ a2
      · rw [if_pos c5] at H
        have c5b0 : decide (x7_1 ≤ a2) = true := decide_eq_true c5
        clear c5
        by_cases c6 : 0 ≤ x7_1
        · rw [if_pos c6] at H
          have c6b0 : decide (0 ≤ x7_1) = true := decide_eq_true c6
          clear c6
          by_cases c7 : x7_1 < (l0_0.length : Int)
          · rw [if_pos c7] at H
            have c7b0 : decide (x7_1 < (l0_0.length : Int)) = true := decide_eq_true c7
            clear c7
            replace H := Option.bind_eq_some_iff.mp H
            obtain ⟨t253, A80, H⟩ := H
            replace H : (if t253 = true then (if x7_1 < (l0_1.length : Int) then ((impl_in.f (rd l0_1 x7_1) a1 a2).bind fun t255 => (if t255 = true then (impl_Meander_isClosed.l0 k1 a1 a2 (wrap64 (x7_1 + 1)) l0_0 l0_1) else (some false))) else (none)) else (some false)) = some r := H
            have A8 := Aside0.mk A80
            clear A80
            by_cases c9 : t253 = true
            · subst c9
              have H1 : (if x7_1 < (l0_1.length : Int) then ((impl_in.f (rd l0_1 x7_1) a1 a2).bind fun t255 => (if t255 = true then (impl_Meander_isClosed.l0 k1 a1 a2 (wrap64 (x7_1 + 1)) l0_0 l0_1) else (some false))) else (none)) = some r := by rw [if_pos rfl] at H; exact H
              clear H
              have H := H1
              clear H1
              by_cases c10 : x7_1 < (l0_1.length : Int)
              · rw [if_pos c10] at H
                have c10b0 : decide (x7_1 < (l0_1.length : Int)) = true := decide_eq_true c10
                clear c10
                replace H := Option.bind_eq_some_iff.mp H
                obtain ⟨t255, A110, H⟩ := H
                replace H : (if t255 = true then (impl_Meander_isClosed.l0 k1 a1 a2 (wrap64 (x7_1 + 1)) l0_0 l0_1) else (some false)) = some r := H
                have A11 := Aside0.mk A110
                clear A110
                by_cases c12 : t255 = true
                · subst c12
                  have H1 : (impl_Meander_isClosed.l0 k1 a1 a2 (wrap64 (x7_1 + 1)) l0_0 l0_1) = some r := by rw [if_pos rfl] at H; exact H
                  clear H
                  have H := H1
                  clear H1
                  have H' := Aside0.mk H
                  clear H
                  have hcz13_0 : wr.cell? ⟨gb251, 0, none⟩ = some (.slice A0_0 l0_0.length c0_0) := (blk_cell BK251.out 0).trans rfl
                  have hcz13_1 : wr.cell? ⟨gb251, 1, none⟩ = some (.slice A0_1 l0_1.length c0_1) := (blk_cell BK251.out 1).trans rfl
                  have hfz13_0 := blk_frozen BK251.out 0
                  have hfz13_1 := blk_frozen BK251.out 1
                  have p252 : 0 ≤ (x7_1 : Int) := of_decide_eq_true (by first | (with_reducible assumption) | assumption)
                  have q252 : x7_1 < (l0_0.length : Int) := of_decide_eq_true (by first | (with_reducible assumption) | assumption)
                  obtain ⟨ad252, e252, hx252_0⟩ := Kd.at_int HR0_0.out x7_1 p252 q252
                  cases e252
                  replace hx252_0 := (HB.out.cell (World.block_lt_of_cell? w _ hx252_0)).trans hx252_0
                  replace p252 := eq_true p252
                  replace q252 := eq_true q252
                  go_wp2_with (first | ((with_reducible refine gate_callee (f := 57) rfl ?_); refine goesL_ (some 21) rfl rfl Try.func57 (by kernel_rfl) rfl #[.int .i64 (rd l0_0 x7_1), .int .i64 a1, .int .i64 a2] rfl (by (try simp only [List.map_toArray, List.map_cons, List.map_nil]); first | done | rfl | (simp only [List.length_drop, List.length_take]; rfl)) ?_; (with_reducible refine (impl_in.calls (rd l0_0 x7_1) a1 a2 true _ A8.out).mono ?_); rintro e w' ⟨rfl, ⟨nd, rfl⟩⟩; refine ⟨_, rfl, ?_⟩; have p254 : 0 ≤ (x7_1 : Int) := of_decide_eq_true (by first | (with_reducible assumption) | assumption); have q254 : x7_1 < (l0_1.length : Int) := of_decide_eq_true (by first | (with_reducible assumption) | assumption); obtain ⟨ad254, e254, hx254_0⟩ := Kd.at_int HR0_1.out x7_1 p254 q254; cases e254; replace hx254_0 := (HB.out.cell (World.block_lt_of_cell? w _ hx254_0)).trans hx254_0; replace p254 := eq_true p254; replace q254 := eq_true q254) | (go_at_call 57; (with_reducible refine (impl_in.calls (rd l0_1 x7_1) a1 a2 true _ A11.out).mono ?_); rintro e w' ⟨rfl, ⟨nd, rfl⟩⟩))
                  go_roundg k1
                  case measure => have := HK1.out; omega
                  case rel => exact ⟨(wrap64 (x7_1 + 1)), (by first | rfl | (simp; done) | (simp [*]; done)), H', ⟨by have := HK1.out; omega⟩, ⟨by (with_reducible repeat (first | refine blk_drewN ?_ _ | refine blk_drew ?_ | refine blk_alloc ?_ _)); exact BK251.out⟩, ⟨by repeat (first | (with_reducible first | exact HB.out | apply below_alloc | apply pw_below_drewN | apply below_drew1 | refine below_set ?_ GE251.out) | exact HB.out)⟩⟩
                · replace c12 := Bool.eq_false_iff.mpr c12
                  subst c12
                  have H1 : (some false) = some r := by rw [if_neg (show ¬ (false = true) by decide)] at H; exact H
                  clear H
                  have H := H1
                  clear H1
                  obtain rfl := Option.some.inj H
                  have hcz14_0 : wr.cell? ⟨gb251, 0, none⟩ = some (.slice A0_0 l0_0.length c0_0) := (blk_cell BK251.out 0).trans rfl
                  have hcz14_1 : wr.cell? ⟨gb251, 1, none⟩ = some (.slice A0_1 l0_1.length c0_1) := (blk_cell BK251.out 1).trans rfl
                  have hfz14_0 := blk_frozen BK251.out 0
                  have hfz14_1 := blk_frozen BK251.out 1
                  have p252 : 0 ≤ (x7_1 : Int) := of_decide_eq_true (by first | (with_reducible assumption) | assumption)
                  have q252 : x7_1 < (l0_0.length : Int) := of_decide_eq_true (by first | (with_reducible assumption) | assumption)
                  obtain ⟨ad252, e252, hx252_0⟩ := Kd.at_int HR0_0.out x7_1 p252 q252
                  cases e252
                  replace hx252_0 := (HB.out.cell (World.block_lt_of_cell? w _ hx252_0)).trans hx252_0
                  replace p252 := eq_true p252
                  replace q252 := eq_true q252
                  go_wp2_with (first | ((with_reducible refine gate_callee (f := 57) rfl ?_); refine goesL_ (some 21) rfl rfl Try.func57 (by kernel_rfl) rfl #[.int .i64 (rd l0_0 x7_1), .int .i64 a1, .int .i64 a2] rfl (by (try simp only [List.map_toArray, List.map_cons, List.map_nil]); first | done | rfl | (simp only [List.length_drop, List.length_take]; rfl)) ?_; (with_reducible refine (impl_in.calls (rd l0_0 x7_1) a1 a2 true _ A8.out).mono ?_); rintro e w' ⟨rfl, ⟨nd, rfl⟩⟩; refine ⟨_, rfl, ?_⟩; have p254 : 0 ≤ (x7_1 : Int) := of_decide_eq_true (by first | (with_reducible assumption) | assumption); have q254 : x7_1 < (l0_1.length : Int) := of_decide_eq_true (by first | (with_reducible assumption) | assumption); obtain ⟨ad254, e254, hx254_0⟩ := Kd.at_int HR0_1.out x7_1 p254 q254; cases e254; replace hx254_0 := (HB.out.cell (World.block_lt_of_cell? w _ hx254_0)).trans hx254_0; replace p254 := eq_true p254; replace q254 := eq_true q254) | (go_at_call 57; (with_reducible refine (impl_in.calls (rd l0_1 x7_1) a1 a2 false _ A11.out).mono ?_); rintro e w' ⟨rfl, ⟨nd, rfl⟩⟩))
                  go_ret
                  exact ⟨by first | rfl | (simp [errW_none, errW_some] <;> rfl) | (simp [*, errW_none, errW_some] <;> rfl), by repeat (first | (with_reducible first | exact HB.out | apply below_alloc | apply pw_below_drewN | apply below_drew1 | refine below_set ?_ GE251.out) | exact HB.out)⟩
              · rw [if_neg c10] at H
                exact absurd H (by simp)
            · replace c9 := Bool.eq_false_iff.mpr c9
              subst c9
              have H1 : (some false) = some r := by rw [if_neg (show ¬ (false = true) by decide)] at H; exact H
              clear H
              have H := H1
              clear H1
              obtain rfl := Option.some.inj H
              have hcz15_0 : wr.cell? ⟨gb251, 0, none⟩ = some (.slice A0_0 l0_0.length c0_0) := (blk_cell BK251.out 0).trans rfl
              have hcz15_1 : wr.cell? ⟨gb251, 1, none⟩ = some (.slice A0_1 l0_1.length c0_1) := (blk_cell BK251.out 1).trans rfl
              have hfz15_0 := blk_frozen BK251.out 0
              have hfz15_1 := blk_frozen BK251.out 1
              have p252 : 0 ≤ (x7_1 : Int) := of_decide_eq_true (by first | (with_reducible assumption) | assumption)
              have q252 : x7_1 < (l0_0.length : Int) := of_decide_eq_true (by first | (with_reducible assumption) | assumption)
              obtain ⟨ad252, e252, hx252_0⟩ := Kd.at_int HR0_0.out x7_1 p252 q252
              cases e252
              replace hx252_0 := (HB.out.cell (World.block_lt_of_cell? w _ hx252_0)).trans hx252_0
              replace p252 := eq_true p252
              replace q252 := eq_true q252
              go_wp2_with (first | ((with_reducible refine gate_callee (f := 57) rfl ?_); refine goesL_ (some 21) rfl rfl Try.func57 (by kernel_rfl) rfl #[.int .i64 (rd l0_0 x7_1), .int .i64 a1, .int .i64 a2] rfl (by (try simp only [List.map_toArray, List.map_cons, List.map_nil]); first | done | rfl | (simp only [List.length_drop, List.length_take]; rfl)) ?_; (with_reducible refine (impl_in.calls (rd l0_0 x7_1) a1 a2 false _ A8.out).mono ?_); rintro e w' ⟨rfl, ⟨nd, rfl⟩⟩; refine ⟨_, rfl, ?_⟩))
              go_ret
              exact ⟨by first | rfl | (simp [errW_none, errW_some] <;> rfl) | (simp [*, errW_none, errW_some] <;> rfl), by repeat (first | (with_reducible first | exact HB.out | apply below_alloc | apply pw_below_drewN | apply below_drew1 | refine below_set ?_ GE251.out) | exact HB.out)⟩
          · rw [if_neg c7] at H
            exact absurd H (by simp)
        · rw [if_neg c6] at H
          exact absurd H (by simp)
      · rw [if_neg c5] at H
        have c5b0 : decide (x7_1 ≤ a2) = false := decide_eq_false c5
        clear c5
        obtain rfl := Option.some.inj H
        go_wp2
        go_ret
        exact ⟨by first | rfl | (simp [errW_none, errW_some] <;> rfl) | (simp [*, errW_none, errW_some] <;> rfl), by repeat (first | (with_reducible first | exact HB.out | apply below_alloc | apply pw_below_drewN | apply below_drew1 | refine below_set ?_ GE251.out) | exact HB.out)⟩

end Go.Proofs.Ytnnkjjacpbbigaa.PB
namespace Go.Proofs.Ytnnkjjacpbbigaa.PB
open Go.RowKit Go.Proofs.YtnnkjjacpbbigaaW.PrintWords Go.Proofs.YtnnkjjacpbbigaaW.PrintLast Go.Proofs.YtnnkjjacpbbigaaW.PrintMore
attribute [local go_sem] max2_int min2_int max_two min_two max_three min_three max_four min_four   -- for this text's walks alone

/-! ### impl_Meander_stretches: function 107 -/
mutual
def impl_Meander_stretches.l0 : Nat → List (List Int) → Int → Int → List Int → List Int → Option ((List (List Int)))
  | 0, _, _, _, _, _ => none
  | k + 1, x3, x9, x10, x257000, x257001 => if x10 < x9 then (impl_Meander_stretches.l1 k x3 x10 (wrap64 (x10 + 1)) x9 x10 x257000 x257001) else (some x3)
def impl_Meander_stretches.l1 : Nat → List (List Int) → Int → Int → Int → Int → List Int → List Int → Option ((List (List Int)))
  | 0, _, _, _, _, _, _, _ => none
  | k + 1, x3, x4, x5, x9, x10, x257000, x257001 => if x5 < (x257000.length : Int) then (if (wrap64 ((wrap64 (x5 - x4)) + 1)) < (x257000.length : Int) then ((impl_Meander_isClosed.f k x257000 x257001 x4 x5).bind fun t260 => (if t260 = true then (if x3.length < 5864062014805 then (impl_Meander_stretches.l1 k (x3 ++ [(([x4, x5] : List Int))]) x4 (wrap64 (x5 + 1)) x9 x10 x257000 x257001) else (none)) else (impl_Meander_stretches.l1 k x3 x4 (wrap64 (x5 + 1)) x9 x10 x257000 x257001))) else (impl_Meander_stretches.l1 k x3 x4 (wrap64 (x5 + 1)) x9 x10 x257000 x257001)) else (impl_Meander_stretches.l0 k x3 x9 (wrap64 (x10 + 1)) x257000 x257001)
end
def impl_Meander_stretches.f (k : Nat) (l0_0 : List Int) (l0_1 : List Int) : Option ((List (List Int))) := impl_Meander_stretches.l0 k (([] : List (List Int))) (l0_0.length : Int) 0 l0_0 l0_1
theorem impl_Meander_stretches.mono_l : ∀ k, (∀ y0 y1 y2 y3 y4, LeO (impl_Meander_stretches.l0 k y0 y1 y2 y3 y4) (impl_Meander_stretches.l0 (k + 1) y0 y1 y2 y3 y4)) ∧ (∀ y0 y1 y2 y3 y4 y5 y6, LeO (impl_Meander_stretches.l1 k y0 y1 y2 y3 y4 y5 y6) (impl_Meander_stretches.l1 (k + 1) y0 y1 y2 y3 y4 y5 y6))
  | 0 => ⟨fun _ _ _ _ _ r h => by simp [impl_Meander_stretches.l0] at h, fun _ _ _ _ _ _ _ r h => by simp [impl_Meander_stretches.l1] at h⟩
  | k + 1 => by
    obtain ⟨ih0, ih1⟩ := impl_Meander_stretches.mono_l k
    refine ⟨?_, ?_⟩
    · intro y0 y1 y2 y3 y4
      unfold impl_Meander_stretches.l0
      repeat' first
      | (with_reducible exact ih0 _ _ _ _ _)
      | (with_reducible exact ih1 _ _ _ _ _ _ _)
      | (with_reducible exact impl_Meander_isClosed.mono _ _ _ _ _)
      | (with_reducible exact LeO.refl _)
      | (with_reducible exact LeO.none _)
      | (with_reducible refine LeO.ite ?_ ?_)
      | (with_reducible refine LeO.bind ?_ (fun _ => ?_))
      | exact ih0 _ _ _ _ _
      | exact ih1 _ _ _ _ _ _ _
      | exact impl_Meander_isClosed.mono _ _ _ _ _
      | exact LeO.none _
      | refine LeO.ite ?_ ?_
      | refine LeO.bind ?_ (fun _ => ?_)
    · intro y0 y1 y2 y3 y4 y5 y6
      unfold impl_Meander_stretches.l1
      repeat' first
      | (with_reducible exact ih0 _ _ _ _ _)
      | (with_reducible exact ih1 _ _ _ _ _ _ _)
      | (with_reducible exact impl_Meander_isClosed.mono _ _ _ _ _)
      | (with_reducible exact LeO.refl _)
      | (with_reducible exact LeO.none _)
      | (with_reducible refine LeO.ite ?_ ?_)
      | (with_reducible refine LeO.bind ?_ (fun _ => ?_))
      | exact ih0 _ _ _ _ _
      | exact ih1 _ _ _ _ _ _ _
      | exact impl_Meander_isClosed.mono _ _ _ _ _
      | exact LeO.none _
      | refine LeO.ite ?_ ?_
      | refine LeO.bind ?_ (fun _ => ?_)
theorem impl_Meander_stretches.mono : ∀ a0 a1 k, LeO (impl_Meander_stretches.f k a0 a1) (impl_Meander_stretches.f (k + 1) a0 a1) := by
  intro a0 a1 k
  obtain ⟨ih0, ih1⟩ := impl_Meander_stretches.mono_l k
  unfold impl_Meander_stretches.f
  repeat' first
      | (with_reducible exact ih0 _ _ _ _ _)
      | (with_reducible exact ih1 _ _ _ _ _ _ _)
      | (with_reducible exact impl_Meander_isClosed.mono _ _ _ _ _)
      | (with_reducible exact LeO.refl _)
      | (with_reducible exact LeO.none _)
      | (with_reducible refine LeO.ite ?_ ?_)
      | (with_reducible refine LeO.bind ?_ (fun _ => ?_))
      | exact ih0 _ _ _ _ _
      | exact ih1 _ _ _ _ _ _ _
      | exact impl_Meander_isClosed.mono _ _ _ _ _
      | exact LeO.none _
      | refine LeO.ite ?_ ?_
      | refine LeO.bind ?_ (fun _ => ?_)
set_option maxHeartbeats 8000000 in
set_option maxRecDepth 100000 in
theorem impl_Meander_stretches.calls (k : Nat) (A0_0 : Option Addr) (c0_0 : Nat) (l0_0 : List Int) (A0_1 : Option Addr) (c0_1 : Nat) (l0_1 : List Int) (r : List (List Int)) (w : World) (hr0_0 : Kd.C (Kd.int .i64) w A0_0 l0_0.length l0_0) (hc0_0 : l0_0.length ≤ c0_0) (hr0_1 : Kd.C (Kd.int .i64) w A0_1 l0_1.length l0_1) (hc0_1 : l0_1.length ≤ c0_1) (h : impl_Meander_stretches.f k l0_0 l0_1 = some r) :
    Calls Try.prog 107 #[.agg #[.slice A0_0 l0_0.length c0_0, .slice A0_1 l0_1.length c0_1]] w fun e w' => ∃ v0_ : Value, e = .returned (v0_) ∧ Kd.S (Kd.slice 3 (Kd.int .i64)) 30 w' w.heap.size (fun _ => True) v0_ r ∧ Below w.heap.size w w' := by
  have hu41 := Try.underlying41
  have HR0_0 := Aside0.mk hr0_0
  have HC0_0 := Aside0.mk hc0_0
  clear hr0_0 hc0_0
  have HR0_1 := Aside0.mk hr0_1
  have HC0_1 := Aside0.mk hc0_1
  clear hr0_1 hc0_1
  have HB := Aside0.mk (Below.refl w.heap.size w)
  have H : (impl_Meander_stretches.l0 k (([] : List (List Int))) (l0_0.length : Int) 0 l0_0 l0_1) = some r := h
  clear h
  obtain ⟨y257, hy257⟩ : ∃ y_ : List (List Int), y_ = (([] : List (List Int))) := ⟨_, rfl⟩
  replace H : (impl_Meander_stretches.l0 k y257 (l0_0.length : Int) 0 l0_0 l0_1) = some r := by first | (rw [hy257]; with_reducible exact H) | (have H2_ := (Option.bind_some _ _).symm.trans H; rw [hy257]; with_reducible exact H2_) | (have H2_ := (Option.bind_some _ _).symm.trans H; with_reducible exact H2_) | with_reducible exact H | (rw [hy257]; exact H) | exact H
  have Ny257 := Aside0.mk hy257
  clear hy257
  have H' := Aside0.mk H
  clear H
  go_enter Try.func107, Try.ntmps107
  go_wp2_with (first | ((with_reducible refine gate_dst (N := 1) rfl ?_); refine box_event ?hg (N := 1) ?hd (cs := #[.slice A0_0 l0_0.length c0_0, .slice A0_1 l0_1.length c0_1]) (t := 41) ?hr ?_; (case hd => rfl); (case hg => rfl); (case hr => first | (go_simp; done) | (go_simp; rfl)); intro gb256 hg w2 hbox hb; have n0_ := Aside0.mk (below_step (by repeat (first | (with_reducible first | exact HB.out | apply below_alloc | apply pw_below_drewN | apply below_drew1) | exact HB.out)) hb); have n1_ := Aside0.mk (hbox); have n2_ := Aside0.mk ((by rw [hg]; exact (below_size (by repeat (first | (with_reducible first | exact HB.out | apply below_alloc | apply pw_below_drewN | apply below_drew1) | exact HB.out))) : w.heap.size ≤ gb256)); have n3_ := Aside0.mk ((by rw [hg]; exact (below_size (by repeat (first | (with_reducible first | exact HB.out | apply below_alloc | apply pw_below_drewN | apply below_drew1) | exact HB.out))) : w.heap.size ≤ gb256)); clear HB; have HB := n0_; have BK256 := n1_; have GW256 := n2_; have GE256 := n3_; clear n0_ n1_ n2_ n3_; clear hb hbox hg) | ((with_reducible refine gate_dst (N := 6) rfl ?_); refine Kd.S_lit (Kd.slice 3 (Kd.int .i64)) _ 30 ?hg (N := 6) ?hd (xs := ([] : List (List Int))) (inner := []) (ok := fun _ => True) (okp := fun _ => True) ?hr ?hp (fun _ hk => hk) trivial (Below.refl _ _) (Nat.le_refl _) (by simp) ?_; (case hd => rfl); (case hg => rfl); (case hr => first | (go_simp; done) | (go_simp; rfl)); (case hp => exact (Reps.none _ _)); intro v258 w3 ho4 hb hg_ hnew_; clear hg_ hnew_; (first | rw [← Ny257.out] at ho4 | (simp only [Int.reduceToNat] at ho4; rw [← Ny257.out] at ho4)); have n0_ := Aside0.mk (Kd.S_lower ho4 (below_size (by repeat (first | (with_reducible first | exact HB.out | apply below_alloc | apply pw_below_drewN | apply below_drew1 | refine below_set ?_ GE256.out) | exact HB.out)))); have n1_ := Aside0.mk (blk_below (g := gb256) (o := .cells #[.slice A0_0 l0_0.length c0_0, .slice A0_1 l0_1.length c0_1] 41 (0, 0)) (by (with_reducible repeat (first | refine blk_drewN ?_ _ | refine blk_drew ?_ | refine blk_alloc ?_ _)); exact BK256.out) hb); have n2_ := Aside0.mk (below_step (by repeat (first | (with_reducible first | exact HB.out | apply below_alloc | apply pw_below_drewN | apply below_drew1 | refine below_set ?_ GE256.out) | exact HB.out)) hb); clear BK256; clear HB; have HO259 := n0_; have BK256 := n1_; have HB := n2_; clear n0_ n1_ n2_; clear hb ho4; have hcz5_0 : w3.cell? ⟨gb256, 0, none⟩ = some (.slice A0_0 l0_0.length c0_0) := (blk_cell BK256.out 0).trans rfl; have hcz5_1 : w3.cell? ⟨gb256, 1, none⟩ = some (.slice A0_1 l0_1.length c0_1) := (blk_cell BK256.out 1).trans rfl; have hfz5_0 := blk_frozen BK256.out 0; have hfz5_1 := blk_frozen BK256.out 1))
  go_loopg [3, 10] k (fun kq v3 v10 w' => ∃ (x3_1 : List (List Int)) (x10_1 : Int), v10 = .int .i64 x10_1 ∧ Aside0 (impl_Meander_stretches.l0 kq x3_1 (l0_0.length : Int) x10_1 l0_0 l0_1 = some r) ∧ Aside0 (kq ≤ k) ∧ Aside0 (Kd.S (Kd.slice 3 (Kd.int .i64)) 30 w' w.heap.size (fun _ => True) v3 x3_1) ∧ Aside0 (w'.heap[gb256]? = some (.cells #[(.slice A0_0 l0_0.length c0_0), (.slice A0_1 l0_1.length c0_1)] 41 (0, 0))) ∧ Aside0 (Below w.heap.size w w'))
  case atStart => exact ⟨(y257), (0), (by first | rfl | (simp; done) | (simp [*]; done)), H', ⟨Nat.le_refl _⟩, ⟨by (with_reducible repeat (first | apply Kd.S_alloc | apply Kd.S_drewN | apply Kd.S_drew)); exact HO259.out⟩, ⟨by (with_reducible repeat (first | refine blk_drewN ?_ _ | refine blk_drew ?_ | refine blk_alloc ?_ _)); exact BK256.out⟩, ⟨by repeat (first | (with_reducible first | exact HB.out | apply below_alloc | apply pw_below_drewN | apply below_drew1 | refine below_set ?_ GE256.out) | exact HB.out)⟩⟩
  case round =>
    clear H'
    try clear c1
    try clear p2
    try clear hcz5_0
    try clear hcz5_1
    try clear hfz5_0
    try clear hfz5_1
    obtain ⟨x3_1, x10_1, rfl, HA, HK1, HO_3, BK256, HB⟩ := hrel
    cases gk with
    | zero => exact absurd HA.out (by simp [impl_Meander_stretches.l0])
    | succ k1 =>
      have H := HA.out
      clear HA
      simp only [impl_Meander_stretches.l0] at H
      by_cases c6 : x10_1 < (l0_0.length : Int)
      · rw [if_pos c6] at H
        have c6b0 : decide (x10_1 < (l0_0.length : Int)) = true := decide_eq_true c6
        clear c6
        have H' := Aside0.mk H
        clear H
        go_wp2
        go_loopg [3, 5] k1 (fun kq v3 v5 w' => ∃ (x3_2 : List (List Int)) (x5_2 : Int), v5 = .int .i64 x5_2 ∧ Aside0 (impl_Meander_stretches.l1 kq x3_2 x10_1 x5_2 (l0_0.length : Int) x10_1 l0_0 l0_1 = some r) ∧ Aside0 (kq ≤ k1) ∧ Aside0 (Kd.S (Kd.slice 3 (Kd.int .i64)) 30 w' w.heap.size (fun _ => True) v3 x3_2) ∧ Aside0 (w'.heap[gb256]? = some (.cells #[(.slice A0_0 l0_0.length c0_0), (.slice A0_1 l0_1.length c0_1)] 41 (0, 0))) ∧ Aside0 (Below w.heap.size w w'))
        case atStart => exact ⟨(x3_1), (wrap64 (x10_1 + 1)), (by first | rfl | (simp; done) | (simp [*]; done)), H', ⟨Nat.le_refl _⟩, ⟨by (with_reducible repeat (first | apply Kd.S_alloc | apply Kd.S_drewN | apply Kd.S_drew)); exact HO_3.out⟩, ⟨by (with_reducible repeat (first | refine blk_drewN ?_ _ | refine blk_drew ?_ | refine blk_alloc ?_ _)); exact BK256.out⟩, ⟨by repeat (first | (with_reducible first | exact HB.out | apply below_alloc | apply pw_below_drewN | apply below_drew1 | refine below_set ?_ GE256.out) | exact HB.out)⟩⟩
        case round =>
          clear H'
          try clear c1
          try clear p2
          try clear c6
          try clear c6b0
          try clear p6
          try clear hcz5_0
          try clear hcz5_1
          try clear hfz5_0
          try clear hfz5_1
          try clear p2
          obtain ⟨x3_2, x5_2, rfl, HA, HK2, HO_3, BK256, HB⟩ := hrel
          cases gk with
          | zero => exact absurd HA.out (by simp [impl_Meander_stretches.l1])
          | succ k2 =>
            have H := HA.out
            clear HA
            simp only [impl_Meander_stretches.l1] at H
            by_cases c7 : x5_2 < (l0_0.length : Int)
            · rw [if_pos c7] at H
              have c7b0 : decide (x5_2 < (l0_0.length : Int)) = true := decide_eq_true c7
              clear c7
              by_cases c8 : (wrap64 ((wrap64 (x5_2 - x10_1)) + 1)) < (l0_0.length : Int)
              · rw [if_pos c8] at H
                have c8b0 : decide ((wrap64 ((wrap64 (x5_2 - x10_1)) + 1)) < (l0_0.length : Int)) = true := decide_eq_true c8
                clear c8
                replace H := Option.bind_eq_some_iff.mp H
                obtain ⟨t260, A90, H⟩ := H
                replace H : (if t260 = true then (if x3_2.length < 5864062014805 then (impl_Meander_stretches.l1 k2 (x3_2 ++ [(([x10_1, x5_2] : List Int))]) x10_1 (wrap64 (x5_2 + 1)) (l0_0.length : Int) x10_1 l0_0 l0_1) else (none)) else (impl_Meander_stretches.l1 k2 x3_2 x10_1 (wrap64 (x5_2 + 1)) (l0_0.length : Int) x10_1 l0_0 l0_1)) = some r := H
                have A9 := Aside0.mk A90
                clear A90
                by_cases c10 : t260 = true
                · subst c10
                  have H1 : (if x3_2.length < 5864062014805 then (impl_Meander_stretches.l1 k2 (x3_2 ++ [(([x10_1, x5_2] : List Int))]) x10_1 (wrap64 (x5_2 + 1)) (l0_0.length : Int) x10_1 l0_0 l0_1) else (none)) = some r := by rw [if_pos rfl] at H; exact H
                  clear H
                  have H := H1
                  clear H1
                  obtain ⟨y261, hy261⟩ : ∃ y_ : List Int, y_ = (([x10_1, x5_2] : List Int)) := ⟨_, rfl⟩
                  replace H : (if x3_2.length < 5864062014805 then (impl_Meander_stretches.l1 k2 (x3_2 ++ [y261]) x10_1 (wrap64 (x5_2 + 1)) (l0_0.length : Int) x10_1 l0_0 l0_1) else (none)) = some r := by first | (rw [hy261]; with_reducible exact H) | (have H2_ := (Option.bind_some _ _).symm.trans H; rw [hy261]; with_reducible exact H2_) | (have H2_ := (Option.bind_some _ _).symm.trans H; with_reducible exact H2_) | with_reducible exact H | (rw [hy261]; exact H) | exact H
                  have Ny261 := Aside0.mk hy261
                  clear hy261
                  by_cases c11 : x3_2.length < 5864062014805
                  · rw [if_pos c11] at H
                    have LMc11 := Aside0.mk c11
                    clear c11
                    obtain ⟨y264, hy264⟩ : ∃ y_ : List (List Int), y_ = (x3_2 ++ [y261]) := ⟨_, rfl⟩
                    replace H : (impl_Meander_stretches.l1 k2 y264 x10_1 (wrap64 (x5_2 + 1)) (l0_0.length : Int) x10_1 l0_0 l0_1) = some r := by first | (rw [hy264]; with_reducible exact H) | (have H2_ := (Option.bind_some _ _).symm.trans H; rw [hy264]; with_reducible exact H2_) | (have H2_ := (Option.bind_some _ _).symm.trans H; with_reducible exact H2_) | with_reducible exact H | (rw [hy264]; exact H) | exact H
                    have Ny264 := Aside0.mk hy264
                    clear hy264
                    have H' := Aside0.mk H
                    clear H
                    have hcz12_0 : wr.cell? ⟨gb256, 0, none⟩ = some (.slice A0_0 l0_0.length c0_0) := (blk_cell BK256.out 0).trans rfl
                    have hcz12_1 : wr.cell? ⟨gb256, 1, none⟩ = some (.slice A0_1 l0_1.length c0_1) := (blk_cell BK256.out 1).trans rfl
                    have hfz12_0 := blk_frozen BK256.out 0
                    have hfz12_1 := blk_frozen BK256.out 1
                    go_wp2_with (first | (go_at_call 133; (with_reducible refine (impl_Meander_isClosed.calls k2 _ _ l0_0 _ _ l0_1 x10_1 x5_2 true _ ?side1 ?side2 ?side3 ?side4 A9.out).mono ?_); (case side1 => repeat (first | exact (Kd.C_below HR0_0.out HB.out) | (with_reducible refine Kd.C_alloc ?_ _) | (with_reducible refine Kd.C_drewN ?_ _) | (with_reducible refine Kd.C_drew ?_))); (case side2 => exact HC0_0.out); (case side3 => repeat (first | exact (Kd.C_below HR0_1.out HB.out) | (with_reducible refine Kd.C_alloc ?_ _) | (with_reducible refine Kd.C_drewN ?_ _) | (with_reducible refine Kd.C_drew ?_))); (case side4 => exact HC0_1.out); rintro e w13 ⟨rfl, hb⟩; have n0_ := Aside0.mk (Kd.S_below (by (with_reducible repeat (first | apply Kd.S_alloc | apply Kd.S_drewN | apply Kd.S_drew)); exact HO_3.out) hb); have n1_ := Aside0.mk (blk_below (g := gb256) (o := .cells #[.slice A0_0 l0_0.length c0_0, .slice A0_1 l0_1.length c0_1] 41 (0, 0)) (by (with_reducible repeat (first | refine blk_drewN ?_ _ | refine blk_drew ?_ | refine blk_alloc ?_ _)); exact BK256.out) hb); have n2_ := Aside0.mk (below_step (by repeat (first | (with_reducible first | exact HB.out | apply below_alloc | apply pw_below_drewN | apply below_drew1 | refine below_set ?_ GE256.out) | exact HB.out)) hb); clear HO_3; clear BK256; clear HB; have HO_3 := n0_; have BK256 := n1_; have HB := n2_; clear n0_ n1_ n2_; (try clear hb); (try clear hb2); (try clear hk); (try clear hi)) | ((with_reducible refine gate_dst (N := 39) rfl ?_); refine Kd.R_lit (Kd.int .i64) _ 3 ?hg (N := 39) ?hd (xs := ([x10_1, x5_2] : List Int)) (inner := [.int .i64 x10_1, .int .i64 x5_2]) (ok := fun _ => True) (okp := fun _ => True) ?hr ?hp (fun _ hk => hk) trivial (Below.refl _ _) (Nat.le_refl _) (by simp) ?_; (case hd => rfl); (case hg => rfl); (case hr => first | (go_simp; done) | (go_simp; rfl)); (case hp => exact (Reps.one (show Kd.M (Kd.int .i64) _ _ _ x10_1 [.int .i64 x10_1] from rfl) (Reps.one (show Kd.M (Kd.int .i64) _ _ _ x5_2 [.int .i64 x5_2] from rfl) (Reps.none _ _)))); intro v262 w14 ho15 hb hg_ hnew_; clear hg_ hnew_; (first | rw [← Ny261.out] at ho15 | (simp only [Int.reduceToNat] at ho15; rw [← Ny261.out] at ho15)); have n0_ := Aside0.mk (Kd.S_elder' (by (with_reducible repeat (first | apply Kd.S_alloc | apply Kd.S_drewN | apply Kd.S_drew)); exact HO_3.out) (Kd.R_base ho15) hb); have n1_ := Aside0.mk (Kd.R_lower ho15 (below_size (by repeat (first | (with_reducible first | exact HB.out | apply below_alloc | apply pw_below_drewN | apply below_drew1 | refine below_set ?_ GE256.out) | exact HB.out)))); have n2_ := Aside0.mk (blk_below (g := gb256) (o := .cells #[.slice A0_0 l0_0.length c0_0, .slice A0_1 l0_1.length c0_1] 41 (0, 0)) (by (with_reducible repeat (first | refine blk_drewN ?_ _ | refine blk_drew ?_ | refine blk_alloc ?_ _)); exact BK256.out) hb); have n3_ := Aside0.mk (below_step (by repeat (first | (with_reducible first | exact HB.out | apply below_alloc | apply pw_below_drewN | apply below_drew1 | refine below_set ?_ GE256.out) | exact HB.out)) hb); clear HO_3; clear BK256; clear HB; have HO_3 := n0_; have HO263 := n1_; have BK256 := n2_; have HB := n3_; clear n0_ n1_ n2_ n3_; clear hb ho15; obtain ⟨Ao17, co17, eo17⟩ := Kd.R_slice HO263.out; subst eo17) | ((with_reducible refine gate_builtin (b := .append) (xs := #[.tmp 36, .tmp 40]) rfl ?_); at_builtin; refine Kd.S_append (Kd.slice 3 (Kd.int .i64)) (w0 := w) w.heap.size rfl (.tmp 36) (.tmp 40) 76 30 (.slice none 0 0) 24 rfl Try.underlying76 info30 rfl (by decide) (by omega) u3 x3_2 y261 [.slice Ao17 y261.length co17] (fun _ => True) (fun k_ => some k_ = (.slice Ao17 y261.length co17 : Value).ownBlock) rfl rfl ?aP (fun k_ hk_ => ((Kd.R_mono (ok' := fun k_ => ((fun _ => True)) k_ ∧ some k_ ≠ (u3 : Value).ownBlock) (Kd.R_apart' (HO263.out) (Kd.S_typed HO_3.out) (by decide)) (fun k_ hk => ⟨trivial, hk.2⟩))).1 k_ hk_.symm) ?aF ?aO ?aB ?aS ?aL ?_; (case aP => exact Kd.M_row (Kd.R_mono (Kd.R_tight rfl (Kd.R_mono (ok' := fun k_ => ((fun _ => True)) k_ ∧ some k_ ≠ (u3 : Value).ownBlock) (Kd.R_apart' (HO263.out) (Kd.S_typed HO_3.out) (by decide)) (fun k_ hk => ⟨trivial, hk.2⟩))) (fun _ h_ => h_))); (case aB => exact (by repeat (first | (with_reducible first | exact HB.out | apply below_alloc | apply pw_below_drewN | apply below_drew1 | refine below_set ?_ GE256.out) | exact HB.out))); (case aF => exact (fun _ _ => trivial)); (case aO => exact (by (with_reducible repeat (first | apply Kd.S_alloc | apply Kd.S_drewN | apply Kd.S_drew)); exact Kd.S_mono HO_3.out (fun k_ hk => ⟨trivial, fun e_ => hk.2 e_⟩))); (case aS => exact (below_size (by repeat (first | (with_reducible first | exact HB.out | apply below_alloc | apply pw_below_drewN | apply below_drew1 | refine below_set ?_ GE256.out) | exact HB.out)))); (case aL => have := LMc11.out; omega); intro v265 w16 ho hb hg hat; rw [← Ny264.out] at ho; have n0_ := Aside0.mk (blk_grown (g := gb256) (o := .cells #[.slice A0_0 l0_0.length c0_0, .slice A0_1 l0_1.length c0_1] 41 (0, 0)) (by (with_reducible repeat (first | refine blk_drewN ?_ _ | refine blk_drew ?_ | refine blk_alloc ?_ _)); exact BK256.out) hg (Kd.S_ne HO_3.out BK256.out (by decide))); have n1_ := Aside0.mk (hb); have n2_ := Aside0.mk (ho); clear BK256; clear HB; clear HO_3; clear HO263; have BK256 := n0_; have HB := n1_; have HO266 := n2_; clear n0_ n1_ n2_; clear ho hb hg hat))
                    go_roundg k2
                    case measure => have := HK1.out; have := HK2.out; omega
                    case rel => exact ⟨(y264), (wrap64 (x5_2 + 1)), (by first | rfl | (simp; done) | (simp [*]; done)), H', ⟨by have := HK1.out; have := HK2.out; omega⟩, ⟨by (with_reducible repeat (first | apply Kd.S_alloc | apply Kd.S_drewN | apply Kd.S_drew)); exact HO266.out⟩, ⟨by (with_reducible repeat (first | refine blk_drewN ?_ _ | refine blk_drew ?_ | refine blk_alloc ?_ _)); exact BK256.out⟩, ⟨by repeat (first | (with_reducible first | exact HB.out | apply below_alloc | apply pw_below_drewN | apply below_drew1 | refine below_set ?_ GE256.out) | exact HB.out)⟩⟩
                  · rw [if_neg c11] at H
                    exact absurd H (by simp)
                · replace c10 := Bool.eq_false_iff.mpr c10
                  subst c10
                  have H1 : (impl_Meander_stretches.l1 k2 x3_2 x10_1 (wrap64 (x5_2 + 1)) (l0_0.length : Int) x10_1 l0_0 l0_1) = some r := by rw [if_neg (show ¬ (false = true) by decide)] at H; exact H
                  clear H
                  have H := H1
                  clear H1
                  have H' := Aside0.mk H
                  clear H
                  have hcz18_0 : wr.cell? ⟨gb256, 0, none⟩ = some (.slice A0_0 l0_0.length c0_0) := (blk_cell BK256.out 0).trans rfl
                  have hcz18_1 : wr.cell? ⟨gb256, 1, none⟩ = some (.slice A0_1 l0_1.length c0_1) := (blk_cell BK256.out 1).trans rfl
                  have hfz18_0 := blk_frozen BK256.out 0
                  have hfz18_1 := blk_frozen BK256.out 1
                  go_wp2_with (first | (go_at_call 133; (with_reducible refine (impl_Meander_isClosed.calls k2 _ _ l0_0 _ _ l0_1 x10_1 x5_2 false _ ?side1 ?side2 ?side3 ?side4 A9.out).mono ?_); (case side1 => repeat (first | exact (Kd.C_below HR0_0.out HB.out) | (with_reducible refine Kd.C_alloc ?_ _) | (with_reducible refine Kd.C_drewN ?_ _) | (with_reducible refine Kd.C_drew ?_))); (case side2 => exact HC0_0.out); (case side3 => repeat (first | exact (Kd.C_below HR0_1.out HB.out) | (with_reducible refine Kd.C_alloc ?_ _) | (with_reducible refine Kd.C_drewN ?_ _) | (with_reducible refine Kd.C_drew ?_))); (case side4 => exact HC0_1.out); rintro e w19 ⟨rfl, hb⟩; have n0_ := Aside0.mk (Kd.S_below (by (with_reducible repeat (first | apply Kd.S_alloc | apply Kd.S_drewN | apply Kd.S_drew)); exact HO_3.out) hb); have n1_ := Aside0.mk (blk_below (g := gb256) (o := .cells #[.slice A0_0 l0_0.length c0_0, .slice A0_1 l0_1.length c0_1] 41 (0, 0)) (by (with_reducible repeat (first | refine blk_drewN ?_ _ | refine blk_drew ?_ | refine blk_alloc ?_ _)); exact BK256.out) hb); have n2_ := Aside0.mk (below_step (by repeat (first | (with_reducible first | exact HB.out | apply below_alloc | apply pw_below_drewN | apply below_drew1 | refine below_set ?_ GE256.out) | exact HB.out)) hb); clear HO_3; clear BK256; clear HB; have HO_3 := n0_; have BK256 := n1_; have HB := n2_; clear n0_ n1_ n2_; (try clear hb); (try clear hb2); (try clear hk); (try clear hi)))
                  go_roundg k2
                  case measure => have := HK1.out; have := HK2.out; omega
                  case rel => exact ⟨(x3_2), (wrap64 (x5_2 + 1)), (by first | rfl | (simp; done) | (simp [*]; done)), H', ⟨by have := HK1.out; have := HK2.out; omega⟩, ⟨by (with_reducible repeat (first | apply Kd.S_alloc | apply Kd.S_drewN | apply Kd.S_drew)); exact HO_3.out⟩, ⟨by (with_reducible repeat (first | refine blk_drewN ?_ _ | refine blk_drew ?_ | refine blk_alloc ?_ _)); exact BK256.out⟩, ⟨by repeat (first | (with_reducible first | exact HB.out | apply below_alloc | apply pw_below_drewN | apply below_drew1 | refine below_set ?_ GE256.out) | exact HB.out)⟩⟩
              · rw [if_neg c8] at H
                have c8b0 : decide ((wrap64 ((wrap64 (x5_2 - x10_1)) + 1)) < (l0_0.length : Int)) = false := decide_eq_false c8
                clear c8
                have H' := Aside0.mk H
                clear H
                have hcz20_0 : wr.cell? ⟨gb256, 0, none⟩ = some (.slice A0_0 l0_0.length c0_0) := (blk_cell BK256.out 0).trans rfl
                have hcz20_1 : wr.cell? ⟨gb256, 1, none⟩ = some (.slice A0_1 l0_1.length c0_1) := (blk_cell BK256.out 1).trans rfl
                have hfz20_0 := blk_frozen BK256.out 0
                have hfz20_1 := blk_frozen BK256.out 1
                go_wp2
                go_roundg k2
                case measure => have := HK1.out; have := HK2.out; omega
                case rel => exact ⟨(x3_2), (wrap64 (x5_2 + 1)), (by first | rfl | (simp; done) | (simp [*]; done)), H', ⟨by have := HK1.out; have := HK2.out; omega⟩, ⟨by (with_reducible repeat (first | apply Kd.S_alloc | apply Kd.S_drewN | apply Kd.S_drew)); exact HO_3.out⟩, ⟨by (with_reducible repeat (first | refine blk_drewN ?_ _ | refine blk_drew ?_ | refine blk_alloc ?_ _)); exact BK256.out⟩, ⟨by repeat (first | (with_reducible first | exact HB.out | apply below_alloc | apply pw_below_drewN | apply below_drew1 | refine below_set ?_ GE256.out) | exact HB.out)⟩⟩
            · rw [if_neg c7] at H
              have c7b0 : decide (x5_2 < (l0_0.length : Int)) = false := decide_eq_false c7
              clear c7
              have H' := Aside0.mk H
              clear H
              have hcz21_0 : wr.cell? ⟨gb256, 0, none⟩ = some (.slice A0_0 l0_0.length c0_0) := (blk_cell BK256.out 0).trans rfl
              have hcz21_1 : wr.cell? ⟨gb256, 1, none⟩ = some (.slice A0_1 l0_1.length c0_1) := (blk_cell BK256.out 1).trans rfl
              have hfz21_0 := blk_frozen BK256.out 0
              have hfz21_1 := blk_frozen BK256.out 1
              go_wp2
              go_roundg k2
              case measure => have := HK1.out; have := HK2.out; omega
              case rel => exact ⟨(x3_2), (wrap64 (x10_1 + 1)), (by first | rfl | (simp; done) | (simp [*]; done)), H', ⟨by have := HK1.out; have := HK2.out; omega⟩, ⟨by (with_reducible repeat (first | apply Kd.S_alloc | apply Kd.S_drewN | apply Kd.S_drew)); exact HO_3.out⟩, ⟨by (with_reducible repeat (first | refine blk_drewN ?_ _ | refine blk_drew ?_ | refine blk_alloc ?_ _)); exact BK256.out⟩, ⟨by repeat (first | (with_reducible first | exact HB.out | apply below_alloc | apply pw_below_drewN | apply below_drew1 | refine below_set ?_ GE256.out) | exact HB.out)⟩⟩
      · rw [if_neg c6] at H
        have c6b0 : decide (x10_1 < (l0_0.length : Int)) = false := decide_eq_false c6
        clear c6
        obtain rfl := Option.some.inj H
        go_wp2
        go_ret
        exact ⟨_, by first | rfl | (simp [errW_none, errW_some] <;> rfl) | (simp [*, errW_none, errW_some] <;> rfl), by (with_reducible repeat (first | apply Kd.S_alloc | apply Kd.S_drewN | apply Kd.S_drew)); exact HO_3.out, by repeat (first | (with_reducible first | exact HB.out | apply below_alloc | apply pw_below_drewN | apply below_drew1 | refine below_set ?_ GE256.out) | exact HB.out)⟩

end Go.Proofs.Ytnnkjjacpbbigaa.PB
namespace Go.Proofs.Ytnnkjjacpbbigaa.PB
open Go.RowKit Go.Proofs.YtnnkjjacpbbigaaW.PrintWords Go.Proofs.YtnnkjjacpbbigaaW.PrintLast Go.Proofs.YtnnkjjacpbbigaaW.PrintMore
attribute [local go_sem] max2_int min2_int max_two min_two max_three min_three max_four min_four   -- for this text's walks alone

/-! ### impl_Meander_shortest: function 91 -/
def impl_Meander_shortest.l0 (last : Bool) : List (List Int) → List Int → Option (List Int)
  | [], best => some best
  | own :: rest, best =>
    if best = [] then (if own = [] then none else impl_Meander_shortest.l0 last rest own)
    else if 2 ≤ own.length then (if 2 ≤ best.length then
      (if wrap64 (rd own 1 - rd own 0) < wrap64 (rd best 1 - rd best 0) then impl_Meander_shortest.l0 last rest own
       else if last = true then (if wrap64 (rd own 1 - rd own 0) = wrap64 (rd best 1 - rd best 0) then impl_Meander_shortest.l0 last rest own else impl_Meander_shortest.l0 last rest best) else impl_Meander_shortest.l0 last rest best) else none) else none
def impl_Meander_shortest.f (k : Nat) (l0_0 l0_1 : List Int) (a1 : Bool) : Option (List Int) := (impl_Meander_stretches.f k l0_0 l0_1).bind fun xs => impl_Meander_shortest.l0 a1 xs []
theorem impl_Meander_shortest.mono : ∀ l0_0 l0_1 a1 k, LeO (impl_Meander_shortest.f k l0_0 l0_1 a1) (impl_Meander_shortest.f (k + 1) l0_0 l0_1 a1) := fun l0_0 l0_1 a1 k => LeO.bind (impl_Meander_stretches.mono _ _ k) (fun _ => LeO.refl _)
set_option maxHeartbeats 8000000 in
set_option maxRecDepth 100000 in
theorem impl_Meander_shortest.callsN (k : Nat) (A0_0 : Option Addr) (c0_0 : Nat) (l0_0 : List Int) (A0_1 : Option Addr) (c0_1 : Nat) (l0_1 : List Int) (a1 : Bool) (r : List Int) (w : World) (hr0_0 : Kd.C (Kd.int .i64) w A0_0 l0_0.length l0_0) (hc0_0 : l0_0.length ≤ c0_0) (hr0_1 : Kd.C (Kd.int .i64) w A0_1 l0_1.length l0_1) (hc0_1 : l0_1.length ≤ c0_1) (h : impl_Meander_shortest.f k l0_0 l0_1 a1 = some r) :
    Calls Try.prog 91 #[.agg #[.slice A0_0 l0_0.length c0_0, .slice A0_1 l0_1.length c0_1], .bool a1] w fun e w' => ∃ v0_ : Value, e = .returned (v0_) ∧ Kd.R (Kd.int .i64) 3 w' w.heap.size (fun _ => True) v0_ r ∧ Below w.heap.size w w' ∧ (r = [] → v0_ = .slice none 0 0) := by
  have hu41 := Try.underlying41
  have hnil := fun w_ a_ n_ c_ => Lib.run_eql_slice_nil (P := Try.prog) w_ 30 3 a_ n_ c_ 0 0 Try.underlying30
  have HB := Aside0.mk (Below.refl w.heap.size w)
  have HR0_0 := Aside0.mk hr0_0
  have HR0_1 := Aside0.mk hr0_1
  clear hr0_0 hr0_1
  obtain ⟨xs, A1, H⟩ := Option.bind_eq_some_iff.mp h
  have H' := Aside0.mk H
  clear H h
  go_enter Try.func91, Try.ntmps91
  go_wp2_with (first | ((with_reducible refine gate_dst (N := 2) rfl ?_); (try (refine gate_guard (by rfl) ?_; dsimp only)); refine box_event ?hg (N := 2) ?hd (cs := #[.slice A0_0 l0_0.length c0_0, .slice A0_1 l0_1.length c0_1]) (t := 41) ?hr ?_; (case hd => rfl); (case hg => rfl); (case hr => first | (go_simp; done) | (go_simp; rfl)); intro gb hg wb hbox hb; have n0_ := Aside0.mk (below_step (by repeat (first | (with_reducible first | exact HB.out | apply below_alloc | apply pw_below_drewN | apply below_drew1) | exact HB.out)) hb); have n1_ := Aside0.mk (hbox); have n2_ := Aside0.mk ((by rw [hg]; exact (below_size (by repeat (first | (with_reducible first | exact HB.out | apply below_alloc | apply pw_below_drewN | apply below_drew1) | exact HB.out))) : w.heap.size ≤ gb)); clear HB; have HB := n0_; have BKb := n1_; have GEb := n2_; clear n0_ n1_ n2_; clear hb hbox hg; have hczb_0 : wb.cell? ⟨gb, 0, none⟩ = some (.slice A0_0 l0_0.length c0_0) := (blk_cell BKb.out 0).trans rfl; have hczb_1 : wb.cell? ⟨gb, 1, none⟩ = some (.slice A0_1 l0_1.length c0_1) := (blk_cell BKb.out 1).trans rfl; have hfzb_0 := blk_frozen BKb.out 0; have hfzb_1 := blk_frozen BKb.out 1) | (go_at_call 107; (with_reducible refine (impl_Meander_stretches.calls k _ _ l0_0 _ _ l0_1 xs _ ?side1 ?side2 ?side3 ?side4 A1).mono ?_); (case side1 => repeat (first | exact (Kd.C_below HR0_0.out HB.out) | (with_reducible refine Kd.C_alloc ?_ _) | (with_reducible refine Kd.C_drewN ?_ _) | (with_reducible refine Kd.C_drew ?_))); (case side2 => exact hc0_0); (case side3 => repeat (first | exact (Kd.C_below HR0_1.out HB.out) | (with_reducible refine Kd.C_alloc ?_ _) | (with_reducible refine Kd.C_drewN ?_ _) | (with_reducible refine Kd.C_drew ?_))); (case side4 => exact hc0_1); rintro e w6 ⟨v162, rfl, ho0, hb⟩; have n0_ := Aside0.mk (Kd.S_lower ho0 (below_size (by repeat (first | (with_reducible first | exact HB.out | apply below_alloc | apply pw_below_drewN | apply below_drew1) | exact HB.out)))); have n2_ := Aside0.mk (below_step (by repeat (first | (with_reducible first | exact HB.out | apply below_alloc | apply pw_below_drewN | apply below_drew1) | exact HB.out)) hb); clear BKb; clear HB; have HO := n0_; have HB := n2_; clear n0_ n2_; (try clear hb); (try clear ho0); obtain ⟨Ao7, co7, eo7⟩ := Kd.S_slice HO.out; subst eo7))
  have hmax := (Kd.S_reads' HO.out).2.2.2.1
  go_loopg [5, 11] xs.length (fun kq v5 v11 w' => ∃ (best : List Int) (j : Nat), v11 = .int .i64 (j : Int) ∧ j ≤ xs.length ∧ kq = xs.length - j ∧ Aside0 (impl_Meander_shortest.l0 a1 (xs.drop j) best = some r) ∧ Aside0 (Kd.S (Kd.slice 3 (Kd.int .i64)) 30 w' w.heap.size (fun _ => True) (.slice Ao7 xs.length co7) xs) ∧ Aside0 (Kd.R (Kd.int .i64) 3 w' w.heap.size (fun _ => True) v5 best) ∧ Aside0 (best = [] → v5 = .slice none 0 0) ∧ Aside0 (Below w.heap.size w w'))
  case atStart => exact ⟨[], 0, rfl, Nat.zero_le _, rfl, H', HO, ⟨Kd.R_nil _ _ _ _ _⟩, ⟨fun _ => rfl⟩, HB⟩
  case round =>
    clear H' HO HB
    obtain ⟨best, j, rfl, hj, hk, HA, HO, HR, HN, HB⟩ := hrel
    by_cases c : j < xs.length
    · have H := HA.out
      clear HA
      have hd : xs.drop j = xs[j] :: xs.drop (j + 1) := List.drop_eq_getElem_cons c
      rw [hd] at H
      have cb0 : decide ((j : Int) < (xs.length : Int)) = true := decide_eq_true (by omega)
      have p136 : (0 ≤ (j : Int)) = True := eq_true (by omega)
      have q136 : ((j : Int) < (xs.length : Int)) = True := eq_true (by omega)
      obtain ⟨ad136, A136_0, c136_0, e136, hx136_0, HOwn⟩ := cm_S_elem HO.out j c
      cases e136
      have HOwn := Aside0.mk HOwn
      simp only [impl_Meander_shortest.l0] at H
      by_cases hb : best = []
      · rw [if_pos hb] at H
        have eb := HN.out hb
        subst eb
        by_cases hne : xs[j] = []
        · rw [if_pos hne] at H
          cases H
        rw [if_neg hne] at H
        go_wp2
        repeat (go_quiet (fail); try go_wp2)
        go_roundg (xs.length - (j + 1))
        case measure => omega
        case rel => exact ⟨xs[j], j + 1, (by first | rfl | (rw [show wrap64 ((j : Int) + 1) = ((j + 1 : Nat) : Int) by simp only [wrap64]; omega])), by omega, by omega, ⟨H⟩, ⟨by (with_reducible repeat (first | apply Kd.S_alloc | apply Kd.S_drewN | apply Kd.S_drew)); exact HO.out⟩, ⟨by (with_reducible repeat (first | apply Kd.R_alloc | apply Kd.R_drewN | apply Kd.R_drew)); exact HOwn.out⟩, ⟨fun he_ => absurd he_ hne⟩, ⟨by repeat (first | (with_reducible first | exact HB.out | apply below_alloc | apply pw_below_drewN | apply below_drew1) | exact HB.out)⟩⟩
      · rw [if_neg hb] at H
        have hbl : best.length ≠ 0 := fun he_ => hb (List.eq_nil_of_length_eq_zero he_)
        obtain ⟨Ab, cb, eb⟩ := Kd.R_slice HR.out
        subst eb
        have cb1 : decide ((best.length : Int) = 0) = false := decide_eq_false (by omega)
        have cb2 : ((best.length : Int) == 0) = false := by simpa using hb
        have cb3 : decide (best = []) = false := decide_eq_false hb
        by_cases h2 : 2 ≤ xs[j].length
        · rw [if_pos h2] at H
          by_cases h3 : 2 ≤ best.length
          · rw [if_pos h3] at H
            have hne : xs[j] ≠ [] := fun he_ => by rw [he_] at h2; simp at h2
            obtain ⟨ado, eo, ho1⟩ := Kd.at_int (Kd.R_reads' HOwn.out).2.2 1 (by omega) (by omega)
            cases eo
            obtain ⟨ado', eo', ho0⟩ := Kd.at_int (Kd.R_reads' HOwn.out).2.2 0 (by omega) (by omega)
            cases eo'
            obtain ⟨adb, eb, hb1⟩ := Kd.at_int (Kd.R_reads' HR.out).2.2 1 (by omega) (by omega)
            cases eb
            obtain ⟨adb', eb', hb0⟩ := Kd.at_int (Kd.R_reads' HR.out).2.2 0 (by omega) (by omega)
            cases eb'
            simp only [show (1 : Int).toNat = 1 from rfl, Nat.reduceMul, Nat.reduceEqDiff, Go.Addr.add, ↓reduceIte] at ho1
            rw [show ((0 : Int)).toNat = 0 from rfl, Addr.add_zero'] at ho0
            simp only [show (1 : Int).toNat = 1 from rfl, Nat.reduceMul, Nat.reduceEqDiff, Go.Addr.add, ↓reduceIte] at hb1
            rw [show ((0 : Int)).toNat = 0 from rfl, Addr.add_zero'] at hb0
            have po1 : ((1 : Int) < (xs[j].length : Int)) = True := eq_true (by omega)
            have po0 : ((0 : Int) < (xs[j].length : Int)) = True := eq_true (by omega)
            have pb1 : ((1 : Int) < (best.length : Int)) = True := eq_true (by omega)
            have pb0 : ((0 : Int) < (best.length : Int)) = True := eq_true (by omega)
            by_cases c1 : wrap64 (rd xs[j] 1 - rd xs[j] 0) < wrap64 (rd best 1 - rd best 0)
            · rw [if_pos c1] at H
              have c1b : decide (wrap64 (rd xs[j] 1 - rd xs[j] 0) < wrap64 (rd best 1 - rd best 0)) = true := decide_eq_true c1
              go_wp2
              repeat (go_quiet (fail); try go_wp2)
              go_roundg (xs.length - (j + 1))
              case measure => omega
              case rel => exact ⟨xs[j], j + 1, (by first | rfl | (rw [show wrap64 ((j : Int) + 1) = ((j + 1 : Nat) : Int) by simp only [wrap64]; omega])), by omega, by omega, ⟨H⟩, ⟨by (with_reducible repeat (first | apply Kd.S_alloc | apply Kd.S_drewN | apply Kd.S_drew)); exact HO.out⟩, ⟨by (with_reducible repeat (first | apply Kd.R_alloc | apply Kd.R_drewN | apply Kd.R_drew)); exact HOwn.out⟩, ⟨fun he_ => absurd he_ hne⟩, ⟨by repeat (first | (with_reducible first | exact HB.out | apply below_alloc | apply pw_below_drewN | apply below_drew1) | exact HB.out)⟩⟩
            · rw [if_neg c1] at H
              have c1b : decide (wrap64 (rd xs[j] 1 - rd xs[j] 0) < wrap64 (rd best 1 - rd best 0)) = false := decide_eq_false c1
              by_cases c2 : a1 = true
              · rw [if_pos c2] at H
                subst c2
                by_cases c3 : wrap64 (rd xs[j] 1 - rd xs[j] 0) = wrap64 (rd best 1 - rd best 0)
                · rw [if_pos c3] at H
                  have c3b : decide (wrap64 (rd xs[j] 1 - rd xs[j] 0) = wrap64 (rd best 1 - rd best 0)) = true := decide_eq_true c3
                  go_wp2
                  repeat (go_quiet (fail); try go_wp2)
                  go_roundg (xs.length - (j + 1))
                  case measure => omega
                  case rel => exact ⟨xs[j], j + 1, (by first | rfl | (rw [show wrap64 ((j : Int) + 1) = ((j + 1 : Nat) : Int) by simp only [wrap64]; omega])), by omega, by omega, ⟨H⟩, ⟨by (with_reducible repeat (first | apply Kd.S_alloc | apply Kd.S_drewN | apply Kd.S_drew)); exact HO.out⟩, ⟨by (with_reducible repeat (first | apply Kd.R_alloc | apply Kd.R_drewN | apply Kd.R_drew)); exact HOwn.out⟩, ⟨fun he_ => absurd he_ hne⟩, ⟨by repeat (first | (with_reducible first | exact HB.out | apply below_alloc | apply pw_below_drewN | apply below_drew1) | exact HB.out)⟩⟩
                · rw [if_neg c3] at H
                  have c3b : decide (wrap64 (rd xs[j] 1 - rd xs[j] 0) = wrap64 (rd best 1 - rd best 0)) = false := decide_eq_false c3
                  go_wp2
                  repeat (go_quiet (fail); try go_wp2)
                  go_roundg (xs.length - (j + 1))
                  case measure => omega
                  case rel => exact ⟨best, j + 1, (by first | rfl | (rw [show wrap64 ((j : Int) + 1) = ((j + 1 : Nat) : Int) by simp only [wrap64]; omega])), by omega, by omega, ⟨H⟩, ⟨by (with_reducible repeat (first | apply Kd.S_alloc | apply Kd.S_drewN | apply Kd.S_drew)); exact HO.out⟩, ⟨by (with_reducible repeat (first | apply Kd.R_alloc | apply Kd.R_drewN | apply Kd.R_drew)); exact HR.out⟩, ⟨fun he_ => absurd he_ hb⟩, ⟨by repeat (first | (with_reducible first | exact HB.out | apply below_alloc | apply pw_below_drewN | apply below_drew1) | exact HB.out)⟩⟩
              · rw [if_neg c2] at H
                have c2b := Bool.eq_false_iff.mpr c2
                subst c2b
                go_wp2
                repeat (go_quiet (fail); try go_wp2)
                go_roundg (xs.length - (j + 1))
                case measure => omega
                case rel => exact ⟨best, j + 1, (by first | rfl | (rw [show wrap64 ((j : Int) + 1) = ((j + 1 : Nat) : Int) by simp only [wrap64]; omega])), by omega, by omega, ⟨H⟩, ⟨by (with_reducible repeat (first | apply Kd.S_alloc | apply Kd.S_drewN | apply Kd.S_drew)); exact HO.out⟩, ⟨by (with_reducible repeat (first | apply Kd.R_alloc | apply Kd.R_drewN | apply Kd.R_drew)); exact HR.out⟩, ⟨fun he_ => absurd he_ hb⟩, ⟨by repeat (first | (with_reducible first | exact HB.out | apply below_alloc | apply pw_below_drewN | apply below_drew1) | exact HB.out)⟩⟩
          · rw [if_neg h3] at H
            cases H
        · rw [if_neg h2] at H
          cases H
    · have cb0 : decide ((j : Int) < (xs.length : Int)) = false := decide_eq_false (by omega)
      have H := HA.out
      rw [List.drop_eq_nil_of_le (by omega)] at H
      simp only [impl_Meander_shortest.l0] at H
      obtain rfl := Option.some.inj H
      go_wp2
      go_ret
      exact ⟨_, rfl, by (with_reducible repeat (first | apply Kd.R_alloc | apply Kd.R_drewN | apply Kd.R_drew)); exact HR.out, by repeat (first | (with_reducible first | exact HB.out | apply below_alloc | apply pw_below_drewN | apply below_drew1) | exact HB.out), HN.out⟩
theorem impl_Meander_shortest.calls (k : Nat) (A0_0 : Option Addr) (c0_0 : Nat) (l0_0 : List Int) (A0_1 : Option Addr) (c0_1 : Nat) (l0_1 : List Int) (a1 : Bool) (r : List Int) (w : World) (hr0_0 : Kd.C (Kd.int .i64) w A0_0 l0_0.length l0_0) (hc0_0 : l0_0.length ≤ c0_0) (hr0_1 : Kd.C (Kd.int .i64) w A0_1 l0_1.length l0_1) (hc0_1 : l0_1.length ≤ c0_1) (h : impl_Meander_shortest.f k l0_0 l0_1 a1 = some r) :
    Calls Try.prog 91 #[.agg #[.slice A0_0 l0_0.length c0_0, .slice A0_1 l0_1.length c0_1], .bool a1] w fun e w' => ∃ v0_ : Value, e = .returned (v0_) ∧ Kd.R (Kd.int .i64) 3 w' w.heap.size (fun _ => True) v0_ r ∧ Below w.heap.size w w' :=
  (impl_Meander_shortest.callsN k A0_0 c0_0 l0_0 A0_1 c0_1 l0_1 a1 r w hr0_0 hc0_0 hr0_1 hc0_1 h).mono fun _ _ ⟨v, h1, h2, h3, _⟩ => ⟨v, h1, h2, h3⟩

end Go.Proofs.Ytnnkjjacpbbigaa.PB
namespace Go.Proofs.Ytnnkjjacpbbigaa.PB
open Go.RowKit Go.Proofs.YtnnkjjacpbbigaaW.PrintWords Go.Proofs.YtnnkjjacpbbigaaW.PrintLast Go.Proofs.YtnnkjjacpbbigaaW.PrintMore
attribute [local go_sem] max2_int min2_int max_two min_two max_three min_three max_four min_four   -- for this text's walks alone

/-! ### impl_Meander_kept: function 92 -/
set_option maxHeartbeats 4000000 in
theorem impl_Meander_kept.gone (H : Int → Bool) (g : FuncId) (cb : Array Value) (gb : Nat) (W : World) (hbox : W.heap[gb]? = some (.cells #[.func (.func g) #[] cb] 27 (0, 0))) (heg : ∀ args W, (callFunc g args).run Try.prog W = .ok (.enter g args) W)
    (hH : ∀ x b, H x = b → Calls Try.prog g (#[.int .i64 x] ++ cb) W fun e w' => e = .returned (.bool b) ∧ Drawn0 W w') (x : Int) :
    Calls Try.prog 113 (#[.int .i64 x] ++ #[.pointer (some ⟨gb, 0, none⟩)]) W fun e w' => e = .returned (.bool (!H x)) ∧ Drawn0 W w' := by
  have hc : W.cell? ⟨gb, 0, none⟩ = some (.func (.func g) #[] cb) := (blk_cell hbox 0).trans rfl
  have HH := Aside0.mk (hH x (H x) rfl)
  clear hH hbox
  show Calls Try.prog 113 #[.int .i64 x, .pointer (some ⟨gb, 0, none⟩)] W _
  go_enter Try.func113, Try.ntmps113
  go_wp2
  refine HH.out.mono ?_
  rintro e w1 ⟨rfl, ⟨nd, rfl⟩⟩
  dsimp only
  go_wp2
  go_ret
  exact ⟨rfl, ⟨⟨_, rfl⟩⟩⟩
set_option maxHeartbeats 8000000 in
set_option maxRecDepth 100000 in
theorem impl_Meander_kept.callsG (H : Int → Bool) (g : FuncId) (cb : Array Value) (A0_0 : Option Addr) (c0_0 : Nat) (l0_0 : List Int) (A0_1 : Option Addr) (c0_1 : Nat) (l0_1 : List Int) (r1 r2 : List Int) (w : World) (hr0_0 : Kd.C (Kd.int .i64) w A0_0 l0_0.length l0_0) (hc0_0 : l0_0.length ≤ c0_0) (hr0_1 : Kd.C (Kd.int .i64) w A0_1 l0_1.length l0_1) (hc0_1 : l0_1.length ≤ c0_1)
    (heg : ∀ args W, (callFunc g args).run Try.prog W = .ok (.enter g args) W)
    (hH : ∀ W, Below w.heap.size w W → ∀ x b, H x = b → Calls Try.prog g (#[.int .i64 x] ++ cb) W fun e w' => e = .returned (.bool b) ∧ Drawn0 W w')
    (h1 : impl_without.f (fun x => !H x) l0_0 = some r1) (h2 : impl_without.f (fun x => !H x) l0_1 = some r2) :
    Calls Try.prog 92 #[.agg #[.slice A0_0 l0_0.length c0_0, .slice A0_1 l0_1.length c0_1], .func (.func g) #[] cb] w fun e w' => ∃ v0_ v1_ : Value, e = .returned (.agg #[v0_, v1_]) ∧ Kd.R (Kd.int .i64) 3 w' w.heap.size (fun k_ => some k_ ≠ (v1_ : Value).ownBlock) v0_ r1 ∧ Kd.R (Kd.int .i64) 3 w' w.heap.size (fun k_ => some k_ ≠ (v0_ : Value).ownBlock) v1_ r2 ∧ Below w.heap.size w w' := by
  have hu41 := Try.underlying41
  have HB := Aside0.mk (Below.refl w.heap.size w)
  have HR0 := Aside0.mk hr0_0
  have HR1 := Aside0.mk hr0_1
  have HHH := Aside0.mk hH
  have H1 := Aside0.mk h1
  have H2 := Aside0.mk h2
  clear hr0_0 hr0_1 hH h1 h2
  go_enter Try.func92, Try.ntmps92
  go_wp2_with (first | ((with_reducible refine gate_dst (N := 2) rfl ?_); refine box_event ?hg (N := 2) ?hd (cs := #[.slice A0_0 l0_0.length c0_0, .slice A0_1 l0_1.length c0_1]) (t := 41) ?hr ?_; (case hd => rfl); (case hg => rfl); (case hr => first | (go_simp; done) | (go_simp; rfl)); intro gm hg wm hbox hb; have HGm := Aside0.mk hg; have BKm := Aside0.mk hbox; have HBm := Aside0.mk hb; clear hg hbox hb) | ((with_reducible refine gate_dst (N := 3) rfl ?_); refine box_event ?hg (N := 3) ?hd (cs := #[.func (.func g) #[] cb]) (t := 27) ?hr ?_; (case hd => rfl); (case hg => rfl); (case hr => first | (go_simp; done) | (go_simp; rfl)); intro gf hg wf hbox hb; have HGf := Aside0.mk hg; have BKf := Aside0.mk hbox; have HBf := Aside0.mk hb; clear hg hbox hb) | ((with_reducible refine gate_dst (N := 4) rfl ?_); refine box_event ?hg (N := 4) ?hd (cs := #[.slice none 0 0, .slice none 0 0]) (t := 41) ?hr ?_; (case hd => rfl); (case hg => rfl); (case hr => first | (go_simp; done) | (go_simp; rfl)); intro gr hg wr hbox hb; have HGr := Aside0.mk hg; have BKr := Aside0.mk hbox; have HBr := Aside0.mk hb; clear hg hbox hb))
  have BM := Aside0.mk (blk_drew (blk_below (blk_below BKm.out HBf.out) HBr.out))
  have BF := Aside0.mk (blk_drew (blk_below BKf.out HBr.out))
  have BR := Aside0.mk (blk_drew BKr.out)
  have HB3 := Aside0.mk (below_drew1 (below_step (below_step (below_step HB.out HBm.out) HBf.out) HBr.out))
  have GEr := Aside0.mk (show w.heap.size ≤ gr by rw [HGr.out]; exact (below_step (below_step HB.out HBm.out) HBf.out).size)
  have NMR := Aside0.mk (show gm ≠ gr by have h5 := blk_lt (blk_below BKm.out HBf.out); rw [HGr.out]; omega)
  have NFR := Aside0.mk (show gf ≠ gr by have h5 := blk_lt BKf.out; rw [HGr.out]; omega)
  clear BKm BKf BKr HBm HBf HBr HGm HGf HGr HB
  refine start_ (n := 10) (S := fun w' => w'.cell? ⟨gm, 0, none⟩ = some (.slice A0_0 l0_0.length c0_0) ∧ w'.cell? ⟨gm, 1, none⟩ = some (.slice A0_1 l0_1.length c0_1)) (ds := []) #[false, false, false, false, false, false, false, false, false, false] (by kernel_rfl) rfl rfl ⟨(blk_cell BM.out 0).trans rfl, (blk_cell BM.out 1).trans rfl⟩ (fun hHeld => ?_)
  generalize wr.drew = w8 at BM BF BR HB3 hHeld ⊢
  refine pure_ (i := 0) (N := some 7) (v := ?_) (a' := ?_) #[true, false, false, false, false, false, false, false, false, false] rfl rfl (by kernel_rfl) (fun _ _ _ h => h) (Or.inl ⟨by rfl, ?_⟩) ?_ ?_; rotate_left; (· intro w'; go_simp; with_reducible rfl); rotate_left; (· simp only [Act.put, List.setIfInBounds_toArray, List.set_cons_zero, List.set_cons_succ, i64_w, i32_w]; rfl)
  refine pure_ (i := 2) (N := some 9) (v := ?_) (a' := ?_) #[true, false, true, false, false, false, false, false, false, false] rfl rfl (by kernel_rfl) (fun _ _ _ h => h) (Or.inl ⟨by rfl, ?_⟩) ?_ ?_; rotate_left; (· intro w'; go_simp; with_reducible rfl); rotate_left; (· simp only [Act.put, List.setIfInBounds_toArray, List.set_cons_zero, List.set_cons_succ, i64_w, i32_w]; rfl)
  refine pure_ (i := 4) (N := some 11) (v := ?_) (a' := ?_) #[true, false, true, false, true, false, false, false, false, false] rfl rfl (by kernel_rfl) (fun _ _ _ h => h) (Or.inl ⟨by rfl, ?_⟩) ?_ ?_; rotate_left; (· intro w'; go_simp; with_reducible rfl); rotate_left; (· simp only [Act.put, List.setIfInBounds_toArray, List.set_cons_zero, List.set_cons_succ, i64_w, i32_w]; rfl)
  refine pure_ (i := 6) (N := some 13) (v := ?_) (a' := ?_) #[true, false, true, false, true, false, true, false, false, false] rfl rfl (by kernel_rfl) (fun _ _ _ h => h) (Or.inl ⟨by rfl, ?_⟩) ?_ ?_; rotate_left; (· intro w'; go_simp; with_reducible rfl); rotate_left; (· simp only [Act.put, List.setIfInBounds_toArray, List.set_cons_zero, List.set_cons_succ, i64_w, i32_w]; rfl)
  refine take_ (i := 1) (N := some 8) (v := ?_) (a' := ?_) #[true, true, true, false, true, false, true, false, false, false] rfl rfl (by kernel_rfl) (fun _ _ _ h => h) (Or.inl ⟨by rfl, ?_⟩) hHeld ?_ ?_; rotate_left; (· rintro w' ⟨s0, s1⟩; go_simp; with_reducible rfl); rotate_left; (· simp only [Act.put, List.setIfInBounds_toArray, List.set_cons_zero, List.set_cons_succ, i64_w, i32_w]; rfl)
  refine take_ (i := 5) (N := some 12) (v := ?_) (a' := ?_) #[true, true, true, false, true, true, true, false, false, false] rfl rfl (by kernel_rfl) (fun _ _ _ h => h) (Or.inl ⟨by rfl, ?_⟩) hHeld ?_ ?_; rotate_left; (· rintro w' ⟨s0, s1⟩; go_simp; with_reducible rfl); rotate_left; (· simp only [Act.put, List.setIfInBounds_toArray, List.set_cons_zero, List.set_cons_succ, i64_w, i32_w]; rfl)
  refine one_ (i := 3) (N := some 10) #[true, true, true, true, true, true, true, false, false, false] rfl rfl (by kernel_rfl) (by decide) (fun K hK => ?_)
  refine goes_ Try.func114 (by kernel_rfl) rfl #[.slice A0_0 l0_0.length c0_0, .func (.func 113) #[] #[.pointer (some ⟨gf, 0, none⟩)]] (by rfl) rfl rfl (by (try simp only [List.map_toArray, List.map_cons, List.map_nil]); first | done | rfl) ?_
  refine (impl_without.callsG (fun x => !H x) 113 #[.pointer (some ⟨gf, 0, none⟩)] A0_0 c0_0 l0_0 r1 w8 (Kd.C_below HR0.out HB3.out) hc0_0 (enters_ Try.func113 (by decide) (by rfl)) (fun W hb_ x b_ hx => by subst hx; exact impl_Meander_kept.gone H g cb gf W (blk_below BF.out hb_) heg (fun x b h => HHH.out W (below_step HB3.out hb_) x b h) x) H1.out).mono ?_
  rintro e w9 ⟨v0, rfl, ho0, hb⟩
  refine ⟨_, rfl, ?_⟩
  have n0_ := Aside0.mk ho0
  have n1_ := Aside0.mk (blk_below BM.out hb)
  have n2_ := Aside0.mk (blk_below BF.out hb)
  have n3_ := Aside0.mk (blk_below BR.out hb)
  have n4_ := Aside0.mk (below_step HB3.out hb)
  have HSZ := Aside0.mk HB3.out.size
  clear BM BF BR HB3 ho0 hb
  have HO := n0_
  have BM := n1_
  have BF := n2_
  have BR := n3_
  have HB3 := n4_
  clear n0_ n1_ n2_ n3_ n4_
  refine hK.out _ _ ⟨(blk_cell BM.out 0).trans rfl, (blk_cell BM.out 1).trans rfl⟩ (fun hHeld => ?_)
  clear hK K
  refine norm_ (a' := ?_) ?_ ?_; rotate_left; (· show Act.put _ (some 10) _ = _; simp only [Act.put, List.setIfInBounds_toArray, List.set_cons_zero, List.set_cons_succ, i64_w, i32_w]; rfl)
  refine one_ (i := 7) (N := some 14) #[true, true, true, true, true, true, true, true, false, false] rfl rfl (by kernel_rfl) (by decide) (fun K hK => ?_)
  refine goes_ Try.func114 (by kernel_rfl) rfl #[.slice A0_1 l0_1.length c0_1, .func (.func 113) #[] #[.pointer (some ⟨gf, 0, none⟩)]] (by rfl) rfl rfl (by (try simp only [List.map_toArray, List.map_cons, List.map_nil]); first | done | rfl) ?_
  refine (impl_without.callsG (fun x => !H x) 113 #[.pointer (some ⟨gf, 0, none⟩)] A0_1 c0_1 l0_1 r2 w9 (Kd.C_below HR1.out HB3.out) hc0_1 (enters_ Try.func113 (by decide) (by rfl)) (fun W hb_ x b_ hx => by subst hx; exact impl_Meander_kept.gone H g cb gf W (blk_below BF.out hb_) heg (fun x b h => HHH.out W (below_step HB3.out hb_) x b h) x) H2.out).mono ?_
  rintro e w10 ⟨v1, rfl, ho1, hb⟩
  refine ⟨_, rfl, ?_⟩
  have n0_ := Aside0.mk (Kd.R_lower (Kd.R_elder' HO.out (Kd.R_base ho1) hb) HSZ.out)
  have n1_ := Aside0.mk (Kd.R_lower (Kd.R_new' ho1 (Kd.R_lt HO.out)) HB3.out.size)
  have n2_ := Aside0.mk (blk_below BM.out hb)
  have n3_ := Aside0.mk (blk_below BR.out hb)
  have n4_ := Aside0.mk (below_step HB3.out hb)
  clear BM BF BR HB3 HO HSZ hb ho1
  have HO0 := n0_
  have HO1 := n1_
  have BM := n2_
  have BR := n3_
  have HB3 := n4_
  clear n0_ n1_ n2_ n3_ n4_
  obtain ⟨Ap, cp, ep⟩ := Kd.R_slice HO0.out
  subst ep
  obtain ⟨Aq, cq, eq⟩ := Kd.R_slice HO1.out
  subst eq
  refine hK.out _ _ ⟨(blk_cell BM.out 0).trans rfl, (blk_cell BM.out 1).trans rfl⟩ (fun hHeld => ?_)
  clear hK K
  refine norm_ (a' := ?_) ?_ ?_; rotate_left; (· show Act.put _ (some 14) _ = _; simp only [Act.put, List.setIfInBounds_toArray, List.set_cons_zero, List.set_cons_succ, i64_w, i32_w]; rfl)
  refine pure_ (i := 8) (N := some 15) (v := ?_) (a' := ?_) #[true, true, true, true, true, true, true, true, true, false] rfl rfl (by kernel_rfl) (fun _ _ _ h => h) (Or.inl ⟨by rfl, ?_⟩) ?_ ?_; rotate_left; (· intro w'; go_simp; with_reducible rfl); rotate_left; (· simp only [Act.put, List.setIfInBounds_toArray, List.set_cons_zero, List.set_cons_succ, i64_w, i32_w]; rfl)
  refine one_ (i := 9) (N := none) #[true, true, true, true, true, true, true, true, true, true] rfl rfl (by kernel_rfl) (by decide) (fun K hK => ?_)
  have hs13 : w10.cell? ⟨gr, 0, none⟩ = some (.slice none 0 0) := (blk_cell BR.out 0).trans rfl
  have hfs13 := blk_frozen BR.out 0
  have hs14 : w10.cell? ⟨gr, 1, none⟩ = some (.slice none 0 0) := (blk_cell BR.out 1).trans rfl
  have hfs14 := blk_frozen BR.out 1
  refine skip_ (w1 := ?_) (by rfl) rfl ?_ ?_
  rotate_left
  · go_simp
    rfl
  refine hK.out _ _ ⟨((cell_far (p := ⟨gr, _, none⟩) NMR.out _).trans (((cell_far (p := ⟨gr, _, none⟩) NMR.out _).trans (hHeld.1)))), ((cell_far (p := ⟨gr, _, none⟩) NMR.out _).trans (((cell_far (p := ⟨gr, _, none⟩) NMR.out _).trans (hHeld.2))))⟩ (fun hHeld => ?_)
  clear hK K
  refine done_ (by kernel_rfl) ?_
  try go_wp2
  refine bodyPost_ret (results_cell_row rfl _ _ gr 41 #[.slice Ap r1.length cp, .slice Aq r2.length cq] (0, 0) _ rfl (by refine blk_put (cs := #[.slice Ap r1.length cp, .slice none 0 0]) ?_ 1 _ rfl; refine blk_put (cs := #[.slice none 0 0, .slice none 0 0]) ?_ 0 _ rfl; exact BR.out) Try.underlying41 rfl (by kernel_rfl)) rfl ?_
  exact ⟨_, _, rfl, Kd.R_mono (Kd.R_far (p := ⟨gr, 1, none⟩) (Kd.R_far (p := ⟨gr, 0, none⟩) (Kd.R_types HO0.out BR.out (by decide)) (fun _ hk => hk.2) (.slice Ap r1.length cp)) (fun _ hk => hk.2) (.slice Aq r2.length cq)) (fun _ hk => hk.1.2), Kd.R_mono (Kd.R_far (p := ⟨gr, 1, none⟩) (Kd.R_far (p := ⟨gr, 0, none⟩) (Kd.R_types HO1.out BR.out (by decide)) (fun _ hk => hk.2) (.slice Ap r1.length cp)) (fun _ hk => hk.2) (.slice Aq r2.length cq)) (fun _ hk => hk.1.2), below_set (below_set HB3.out GEr.out) GEr.out⟩

end Go.Proofs.Ytnnkjjacpbbigaa.PB
namespace Go.Proofs.Ytnnkjjacpbbigaa.PB
open Go.RowKit Go.Proofs.YtnnkjjacpbbigaaW.PrintWords Go.Proofs.YtnnkjjacpbbigaaW.PrintLast Go.Proofs.YtnnkjjacpbbigaaW.PrintMore
attribute [local go_sem] max2_int min2_int max_two min_two max_three min_three max_four min_four   -- for this text's walks alone

/-! ### impl_Meander_inside: function 94 -/
def impl_Meander_inside.h (i j x : Int) : Bool := decide (i ≤ x) && decide (x ≤ j)
theorem impl_Meander_inside.inn (i j x : Int) : impl_in.f x i j = some (decide (i ≤ x) && decide (x ≤ j)) := by
  unfold impl_in.f
  by_cases h : i ≤ x
  · simp [h]
  · simp [h]
set_option maxHeartbeats 4000000 in
theorem impl_Meander_inside.hold (i j : Int) (gi gj : Nat) (W : World) (hi : W.heap[gi]? = some (.cells #[.int .i64 i] 3 (0, 0))) (hj : W.heap[gj]? = some (.cells #[.int .i64 j] 3 (0, 0))) (x : Int) :
    Calls Try.prog 115 (#[.int .i64 x] ++ #[.pointer (some ⟨gi, 0, none⟩), .pointer (some ⟨gj, 0, none⟩)]) W fun e w' => e = .returned (.bool (impl_Meander_inside.h i j x)) ∧ Drawn0 W w' := by
  have hci : W.cell? ⟨gi, 0, none⟩ = some (.int .i64 i) := (blk_cell hi 0).trans rfl
  have hcj : W.cell? ⟨gj, 0, none⟩ = some (.int .i64 j) := (blk_cell hj 0).trans rfl
  clear hi hj
  show Calls Try.prog 115 #[.int .i64 x, .pointer (some ⟨gi, 0, none⟩), .pointer (some ⟨gj, 0, none⟩)] W _
  go_enter Try.func115, Try.ntmps115
  go_wp2_with fail
  refine (impl_in.calls x i j _ _ (impl_Meander_inside.inn i j x)).mono ?_
  rintro e w1 ⟨rfl, ⟨nd, rfl⟩⟩
  dsimp only
  go_wp2
  go_ret
  exact ⟨by first | rfl | (simp [impl_Meander_inside.h]; done), ⟨⟨_, rfl⟩⟩⟩
set_option maxHeartbeats 8000000 in
set_option maxRecDepth 100000 in
theorem impl_Meander_inside.callsG (A0_0 : Option Addr) (c0_0 : Nat) (l0_0 : List Int) (A0_1 : Option Addr) (c0_1 : Nat) (l0_1 : List Int) (a1 a2 : Int) (r1 r2 : List Int) (w : World) (hr0_0 : Kd.C (Kd.int .i64) w A0_0 l0_0.length l0_0) (hc0_0 : l0_0.length ≤ c0_0) (hr0_1 : Kd.C (Kd.int .i64) w A0_1 l0_1.length l0_1) (hc0_1 : l0_1.length ≤ c0_1)
    (h1 : impl_without.f (fun x => !impl_Meander_inside.h a1 a2 x) l0_0 = some r1) (h2 : impl_without.f (fun x => !impl_Meander_inside.h a1 a2 x) l0_1 = some r2) :
    Calls Try.prog 94 #[.agg #[.slice A0_0 l0_0.length c0_0, .slice A0_1 l0_1.length c0_1], .int .i64 a1, .int .i64 a2] w fun e w' => ∃ v0_ v1_ : Value, e = .returned (.agg #[v0_, v1_]) ∧ Kd.R (Kd.int .i64) 3 w' w.heap.size (fun k_ => some k_ ≠ (v1_ : Value).ownBlock) v0_ r1 ∧ Kd.R (Kd.int .i64) 3 w' w.heap.size (fun k_ => some k_ ≠ (v0_ : Value).ownBlock) v1_ r2 ∧ Below w.heap.size w w' := by
  have hu41 := Try.underlying41
  have HB := Aside0.mk (Below.refl w.heap.size w)
  have HR0 := Aside0.mk hr0_0
  have HR1 := Aside0.mk hr0_1
  have H1 := Aside0.mk h1
  have H2 := Aside0.mk h2
  clear hr0_0 hr0_1 h1 h2
  go_enter Try.func94, Try.ntmps94
  go_wp2_with (first | ((with_reducible refine gate_dst (N := 3) rfl ?_); refine box_event ?hg (N := 3) ?hd (cs := #[.slice A0_0 l0_0.length c0_0, .slice A0_1 l0_1.length c0_1]) (t := 41) ?hr ?_; (case hd => rfl); (case hg => rfl); (case hr => first | (go_simp; done) | (go_simp; rfl)); intro gm hg wm hbox hb; have HGm := Aside0.mk hg; have BKm := Aside0.mk hbox; have HBm := Aside0.mk hb; clear hg hbox hb) | ((with_reducible refine gate_dst (N := 4) rfl ?_); refine box_event ?hg (N := 4) ?hd (cs := #[.int .i64 a1]) (t := 3) ?hr ?_; (case hd => rfl); (case hg => rfl); (case hr => first | (go_simp; done) | (go_simp; rfl)); intro gi hg wi hbox hb; have HGi := Aside0.mk hg; have BKi := Aside0.mk hbox; have HBi := Aside0.mk hb; clear hg hbox hb) | ((with_reducible refine gate_dst (N := 5) rfl ?_); refine box_event ?hg (N := 5) ?hd (cs := #[.int .i64 a2]) (t := 3) ?hr ?_; (case hd => rfl); (case hg => rfl); (case hr => first | (go_simp; done) | (go_simp; rfl)); intro gj hg wj hbox hb; have HGj := Aside0.mk hg; have BKj := Aside0.mk hbox; have HBj := Aside0.mk hb; clear hg hbox hb) | (((with_reducible refine gate_dst (N := 6) rfl ?_); refine box_event ?hg (N := 6) ?hd (cs := #[.slice none 0 0, .slice none 0 0]) (t := 41) ?hr ?_; (case hd => rfl); (case hg => rfl); (case hr => first | (go_simp; done) | (go_simp; rfl)); intro gr hg wr hbox hb; have HGr := Aside0.mk hg; have BKr := Aside0.mk hbox; have HBr := Aside0.mk hb; clear hg hbox hb); have BI := Aside0.mk (blk_below (blk_below BKi.out HBj.out) HBr.out); have BJ := Aside0.mk (blk_below BKj.out HBr.out); have BM := blk_below (blk_below (blk_below BKm.out HBi.out) HBj.out) HBr.out; have hcm0 : wr.cell? ⟨gm, 0, none⟩ = some (.slice A0_0 l0_0.length c0_0) := (blk_cell BM 0).trans rfl; have hcm1 : wr.cell? ⟨gm, 1, none⟩ = some (.slice A0_1 l0_1.length c0_1) := (blk_cell BM 1).trans rfl; clear BM))
  have HB3 := Aside0.mk (below_step (below_step (below_step (below_step HB.out HBm.out) HBi.out) HBj.out) HBr.out)
  have GEr := Aside0.mk (show w.heap.size ≤ gr by rw [HGr.out]; exact (below_step (below_step (below_step HB.out HBm.out) HBi.out) HBj.out).size)
  have BR := Aside0.mk BKr.out
  clear BKm BKi BKj BKr HBm HBi HBj HBr HGm HGi HGj HGr HB
  refine (impl_Meander_kept.callsG (impl_Meander_inside.h a1 a2) 115 #[.pointer (some ⟨gi, 0, none⟩), .pointer (some ⟨gj, 0, none⟩)] A0_0 c0_0 l0_0 A0_1 c0_1 l0_1 r1 r2 _ (by first | exact Kd.C_below HR0.out HB3.out | exact Kd.C_below HR0.out (below_drew1 HB3.out)) hc0_0 (by first | exact Kd.C_below HR1.out HB3.out | exact Kd.C_below HR1.out (below_drew1 HB3.out)) hc0_1 (enters_ Try.func115 (by decide) (by rfl)) (fun W hb_ x b_ hx => by subst hx; exact impl_Meander_inside.hold a1 a2 gi gj W (blk_below BI.out hb_) (blk_below BJ.out hb_) x) H1.out H2.out).mono ?_
  rintro e w9 ⟨v0, v1, rfl, ho0, ho1, hb⟩
  have n0_ := Aside0.mk (Kd.R_lower ho0 HB3.out.size)
  have n1_ := Aside0.mk (Kd.R_lower ho1 HB3.out.size)
  have n3_ := Aside0.mk (blk_below BR.out hb)
  have n4_ := Aside0.mk (below_step HB3.out hb)
  clear BI BJ BR HB3 ho0 ho1 hb hcm0 hcm1
  have HO0 := n0_
  have HO1 := n1_
  have BR := n3_
  have HB3 := n4_
  clear n0_ n1_ n3_ n4_
  obtain ⟨Ap, cp, ep⟩ := Kd.R_slice HO0.out
  subst ep
  obtain ⟨Aq, cq, eq⟩ := Kd.R_slice HO1.out
  subst eq
  have hs13 : w9.cell? ⟨gr, 0, none⟩ = some (.slice none 0 0) := (blk_cell BR.out 0).trans rfl
  have hfs13 := blk_frozen BR.out 0
  have hs14 : w9.cell? ⟨gr, 1, none⟩ = some (.slice none 0 0) := (blk_cell BR.out 1).trans rfl
  have hfs14 := blk_frozen BR.out 1
  dsimp only
  go_wp2
  refine bodyPost_ret (results_cell_row rfl _ _ gr 41 #[.slice Ap r1.length cp, .slice Aq r2.length cq] (0, 0) _ rfl (by refine blk_put (cs := #[.slice Ap r1.length cp, .slice none 0 0]) ?_ 1 _ rfl; refine blk_put (cs := #[.slice none 0 0, .slice none 0 0]) ?_ 0 _ rfl; exact BR.out) Try.underlying41 rfl (by kernel_rfl)) rfl ?_
  exact ⟨_, _, rfl, Kd.R_mono (Kd.R_far (p := ⟨gr, 1, none⟩) (Kd.R_far (p := ⟨gr, 0, none⟩) (Kd.R_types HO0.out BR.out (by decide)) (fun _ hk => hk.2) (.slice Ap r1.length cp)) (fun _ hk => hk.2) (.slice Aq r2.length cq)) (fun _ hk => hk.1), Kd.R_mono (Kd.R_far (p := ⟨gr, 1, none⟩) (Kd.R_far (p := ⟨gr, 0, none⟩) (Kd.R_types HO1.out BR.out (by decide)) (fun _ hk => hk.2) (.slice Ap r1.length cp)) (fun _ hk => hk.2) (.slice Aq r2.length cq)) (fun _ hk => hk.1), below_set (below_set HB3.out GEr.out) GEr.out⟩

end Go.Proofs.Ytnnkjjacpbbigaa.PB
namespace Go.Proofs.Ytnnkjjacpbbigaa.PB
open Go.RowKit Go.Proofs.YtnnkjjacpbbigaaW.PrintWords Go.Proofs.YtnnkjjacpbbigaaW.PrintLast Go.Proofs.YtnnkjjacpbbigaaW.PrintMore
attribute [local go_sem] max2_int min2_int max_two min_two max_three min_three max_four min_four   -- for this text's walks alone

/-! ### impl_Meander_outside: function 95 -/
def impl_Meander_outside.h (i j x : Int) : Bool := !(decide (i ≤ x) && decide (x ≤ j))
theorem impl_Meander_outside.inn (i j x : Int) : impl_in.f x i j = some (decide (i ≤ x) && decide (x ≤ j)) := by
  unfold impl_in.f
  by_cases h : i ≤ x
  · simp [h]
  · simp [h]
set_option maxHeartbeats 4000000 in
theorem impl_Meander_outside.hold (i j : Int) (gi gj : Nat) (W : World) (hi : W.heap[gi]? = some (.cells #[.int .i64 i] 3 (0, 0))) (hj : W.heap[gj]? = some (.cells #[.int .i64 j] 3 (0, 0))) (x : Int) :
    Calls Try.prog 116 (#[.int .i64 x] ++ #[.pointer (some ⟨gi, 0, none⟩), .pointer (some ⟨gj, 0, none⟩)]) W fun e w' => e = .returned (.bool (impl_Meander_outside.h i j x)) ∧ Drawn0 W w' := by
  have hci : W.cell? ⟨gi, 0, none⟩ = some (.int .i64 i) := (blk_cell hi 0).trans rfl
  have hcj : W.cell? ⟨gj, 0, none⟩ = some (.int .i64 j) := (blk_cell hj 0).trans rfl
  clear hi hj
  show Calls Try.prog 116 #[.int .i64 x, .pointer (some ⟨gi, 0, none⟩), .pointer (some ⟨gj, 0, none⟩)] W _
  go_enter Try.func116, Try.ntmps116
  go_wp2_with fail
  refine (impl_in.calls x i j _ _ (impl_Meander_outside.inn i j x)).mono ?_
  rintro e w1 ⟨rfl, ⟨nd, rfl⟩⟩
  dsimp only
  go_wp2
  go_ret
  exact ⟨by first | rfl | (simp [impl_Meander_outside.h]; done), ⟨⟨_, rfl⟩⟩⟩
set_option maxHeartbeats 8000000 in
set_option maxRecDepth 100000 in
theorem impl_Meander_outside.callsG (A0_0 : Option Addr) (c0_0 : Nat) (l0_0 : List Int) (A0_1 : Option Addr) (c0_1 : Nat) (l0_1 : List Int) (a1 a2 : Int) (r1 r2 : List Int) (w : World) (hr0_0 : Kd.C (Kd.int .i64) w A0_0 l0_0.length l0_0) (hc0_0 : l0_0.length ≤ c0_0) (hr0_1 : Kd.C (Kd.int .i64) w A0_1 l0_1.length l0_1) (hc0_1 : l0_1.length ≤ c0_1)
    (h1 : impl_without.f (fun x => !impl_Meander_outside.h a1 a2 x) l0_0 = some r1) (h2 : impl_without.f (fun x => !impl_Meander_outside.h a1 a2 x) l0_1 = some r2) :
    Calls Try.prog 95 #[.agg #[.slice A0_0 l0_0.length c0_0, .slice A0_1 l0_1.length c0_1], .int .i64 a1, .int .i64 a2] w fun e w' => ∃ v0_ v1_ : Value, e = .returned (.agg #[v0_, v1_]) ∧ Kd.R (Kd.int .i64) 3 w' w.heap.size (fun k_ => some k_ ≠ (v1_ : Value).ownBlock) v0_ r1 ∧ Kd.R (Kd.int .i64) 3 w' w.heap.size (fun k_ => some k_ ≠ (v0_ : Value).ownBlock) v1_ r2 ∧ Below w.heap.size w w' := by
  have hu41 := Try.underlying41
  have HB := Aside0.mk (Below.refl w.heap.size w)
  have HR0 := Aside0.mk hr0_0
  have HR1 := Aside0.mk hr0_1
  have H1 := Aside0.mk h1
  have H2 := Aside0.mk h2
  clear hr0_0 hr0_1 h1 h2
  go_enter Try.func95, Try.ntmps95
  go_wp2_with (first | ((with_reducible refine gate_dst (N := 3) rfl ?_); refine box_event ?hg (N := 3) ?hd (cs := #[.slice A0_0 l0_0.length c0_0, .slice A0_1 l0_1.length c0_1]) (t := 41) ?hr ?_; (case hd => rfl); (case hg => rfl); (case hr => first | (go_simp; done) | (go_simp; rfl)); intro gm hg wm hbox hb; have HGm := Aside0.mk hg; have BKm := Aside0.mk hbox; have HBm := Aside0.mk hb; clear hg hbox hb) | ((with_reducible refine gate_dst (N := 4) rfl ?_); refine box_event ?hg (N := 4) ?hd (cs := #[.int .i64 a1]) (t := 3) ?hr ?_; (case hd => rfl); (case hg => rfl); (case hr => first | (go_simp; done) | (go_simp; rfl)); intro gi hg wi hbox hb; have HGi := Aside0.mk hg; have BKi := Aside0.mk hbox; have HBi := Aside0.mk hb; clear hg hbox hb) | ((with_reducible refine gate_dst (N := 5) rfl ?_); refine box_event ?hg (N := 5) ?hd (cs := #[.int .i64 a2]) (t := 3) ?hr ?_; (case hd => rfl); (case hg => rfl); (case hr => first | (go_simp; done) | (go_simp; rfl)); intro gj hg wj hbox hb; have HGj := Aside0.mk hg; have BKj := Aside0.mk hbox; have HBj := Aside0.mk hb; clear hg hbox hb) | (((with_reducible refine gate_dst (N := 6) rfl ?_); refine box_event ?hg (N := 6) ?hd (cs := #[.slice none 0 0, .slice none 0 0]) (t := 41) ?hr ?_; (case hd => rfl); (case hg => rfl); (case hr => first | (go_simp; done) | (go_simp; rfl)); intro gr hg wr hbox hb; have HGr := Aside0.mk hg; have BKr := Aside0.mk hbox; have HBr := Aside0.mk hb; clear hg hbox hb); have BI := Aside0.mk (blk_below (blk_below BKi.out HBj.out) HBr.out); have BJ := Aside0.mk (blk_below BKj.out HBr.out); have BM := blk_below (blk_below (blk_below BKm.out HBi.out) HBj.out) HBr.out; have hcm0 : wr.cell? ⟨gm, 0, none⟩ = some (.slice A0_0 l0_0.length c0_0) := (blk_cell BM 0).trans rfl; have hcm1 : wr.cell? ⟨gm, 1, none⟩ = some (.slice A0_1 l0_1.length c0_1) := (blk_cell BM 1).trans rfl; clear BM))
  have HB3 := Aside0.mk (below_step (below_step (below_step (below_step HB.out HBm.out) HBi.out) HBj.out) HBr.out)
  have GEr := Aside0.mk (show w.heap.size ≤ gr by rw [HGr.out]; exact (below_step (below_step (below_step HB.out HBm.out) HBi.out) HBj.out).size)
  have BR := Aside0.mk BKr.out
  clear BKm BKi BKj BKr HBm HBi HBj HBr HGm HGi HGj HGr HB
  refine (impl_Meander_kept.callsG (impl_Meander_outside.h a1 a2) 116 #[.pointer (some ⟨gi, 0, none⟩), .pointer (some ⟨gj, 0, none⟩)] A0_0 c0_0 l0_0 A0_1 c0_1 l0_1 r1 r2 _ (by first | exact Kd.C_below HR0.out HB3.out | exact Kd.C_below HR0.out (below_drew1 HB3.out)) hc0_0 (by first | exact Kd.C_below HR1.out HB3.out | exact Kd.C_below HR1.out (below_drew1 HB3.out)) hc0_1 (enters_ Try.func116 (by decide) (by rfl)) (fun W hb_ x b_ hx => by subst hx; exact impl_Meander_outside.hold a1 a2 gi gj W (blk_below BI.out hb_) (blk_below BJ.out hb_) x) H1.out H2.out).mono ?_
  rintro e w9 ⟨v0, v1, rfl, ho0, ho1, hb⟩
  have n0_ := Aside0.mk (Kd.R_lower ho0 HB3.out.size)
  have n1_ := Aside0.mk (Kd.R_lower ho1 HB3.out.size)
  have n3_ := Aside0.mk (blk_below BR.out hb)
  have n4_ := Aside0.mk (below_step HB3.out hb)
  clear BI BJ BR HB3 ho0 ho1 hb hcm0 hcm1
  have HO0 := n0_
  have HO1 := n1_
  have BR := n3_
  have HB3 := n4_
  clear n0_ n1_ n3_ n4_
  obtain ⟨Ap, cp, ep⟩ := Kd.R_slice HO0.out
  subst ep
  obtain ⟨Aq, cq, eq⟩ := Kd.R_slice HO1.out
  subst eq
  have hs13 : w9.cell? ⟨gr, 0, none⟩ = some (.slice none 0 0) := (blk_cell BR.out 0).trans rfl
  have hfs13 := blk_frozen BR.out 0
  have hs14 : w9.cell? ⟨gr, 1, none⟩ = some (.slice none 0 0) := (blk_cell BR.out 1).trans rfl
  have hfs14 := blk_frozen BR.out 1
  dsimp only
  go_wp2
  refine bodyPost_ret (results_cell_row rfl _ _ gr 41 #[.slice Ap r1.length cp, .slice Aq r2.length cq] (0, 0) _ rfl (by refine blk_put (cs := #[.slice Ap r1.length cp, .slice none 0 0]) ?_ 1 _ rfl; refine blk_put (cs := #[.slice none 0 0, .slice none 0 0]) ?_ 0 _ rfl; exact BR.out) Try.underlying41 rfl (by kernel_rfl)) rfl ?_
  exact ⟨_, _, rfl, Kd.R_mono (Kd.R_far (p := ⟨gr, 1, none⟩) (Kd.R_far (p := ⟨gr, 0, none⟩) (Kd.R_types HO0.out BR.out (by decide)) (fun _ hk => hk.2) (.slice Ap r1.length cp)) (fun _ hk => hk.2) (.slice Aq r2.length cq)) (fun _ hk => hk.1), Kd.R_mono (Kd.R_far (p := ⟨gr, 1, none⟩) (Kd.R_far (p := ⟨gr, 0, none⟩) (Kd.R_types HO1.out BR.out (by decide)) (fun _ hk => hk.2) (.slice Ap r1.length cp)) (fun _ hk => hk.2) (.slice Aq r2.length cq)) (fun _ hk => hk.1), below_set (below_set HB3.out GEr.out) GEr.out⟩

end Go.Proofs.Ytnnkjjacpbbigaa.PB
