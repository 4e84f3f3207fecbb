-- printed by wip/tools/pp.py and joined by wip/tools/merge.py (the session's own call of the kit's printer, with contracts proved by hand)
import Derived.Test.YtmpbbmocdcomcaaMFnExactPathsOf2
set_option linter.unusedVariables false
set_option linter.unusedSimpArgs false
namespace Go.Proofs.Ytmpbbmocdcomcaa.PB
open Go.RowKit Go.Proofs.YtmpbbmocdcomcaaW.PrintWords Go.Proofs.YtmpbbmocdcomcaaW.PrintLast Go.Proofs.YtmpbbmocdcomcaaW.PrintMore
attribute [local go_sem] max2_int min2_int max_two min_two max_three min_three max_four min_four   -- for this text's walks alone

/-! ### impl_PathsOf: function 8 -/
def impl_PathsOf.f (k : Nat) (l0_0 : List Int) (l0_1 : List Int) : Option ((List (List Int)) × Bool) := (impl_IsSeaweed.f k l0_0 l0_1).bind fun t220 => (if t220 = true then ((impl_Seaweed_groups.f k l0_0 l0_1).bind fun bt221 => (some (bt221.1, true))) else (some (([] : List (List Int)), false)))
theorem impl_PathsOf.mono : ∀ a0 a1 k, LeO (impl_PathsOf.f k a0 a1) (impl_PathsOf.f (k + 1) a0 a1) := by
  intro a0 a1 k
  unfold impl_PathsOf.f
  repeat' first
      | (with_reducible exact impl_IsSeaweed.mono _ _ _)
      | (with_reducible exact impl_Seaweed_groups.mono _ _ _)
      | (with_reducible exact LeO.refl _)
      | (with_reducible exact LeO.none _)
      | (with_reducible refine LeO.ite ?_ ?_)
      | (with_reducible refine LeO.bind ?_ (fun _ => ?_))
      | exact impl_IsSeaweed.mono _ _ _
      | exact impl_Seaweed_groups.mono _ _ _
      | exact LeO.none _
      | refine LeO.ite ?_ ?_
      | refine LeO.bind ?_ (fun _ => ?_)
set_option maxHeartbeats 8000000 in
set_option maxRecDepth 100000 in
theorem impl_PathsOf.calls (k : Nat) (A0_0 : Option Addr) (c0_0 : Nat) (l0_0 : List Int) (A0_1 : Option Addr) (c0_1 : Nat) (l0_1 : List Int) (r1 : List (List Int)) (r2 : Bool) (w : World) (hr0_0 : Kd.C (Kd.int .i64) w A0_0 l0_0.length l0_0) (hc0_0 : l0_0.length ≤ c0_0) (hr0_1 : Kd.C (Kd.int .i64) w A0_1 l0_1.length l0_1) (hc0_1 : l0_1.length ≤ c0_1) (h : impl_PathsOf.f k l0_0 l0_1 = some (r1, r2)) :
    Calls Try.prog 8 #[.agg #[.slice A0_0 l0_0.length c0_0, .slice A0_1 l0_1.length c0_1]] w fun e w' => ∃ v0_ : Value, e = .returned (.tuple #[v0_, .bool r2]) ∧ Kd.S (Kd.slice 3 (Kd.int .i64)) 22 w' w.heap.size (fun _ => True) v0_ r1 ∧ Below w.heap.size w w' := by
  have hu29 := Try.underlying29
  have HR0_0 := Aside0.mk hr0_0
  have HC0_0 := Aside0.mk hc0_0
  clear hr0_0 hc0_0
  have HR0_1 := Aside0.mk hr0_1
  have HC0_1 := Aside0.mk hc0_1
  clear hr0_1 hc0_1
  have HB := Aside0.mk (Below.refl w.heap.size w)
  have H : ((impl_IsSeaweed.f k l0_0 l0_1).bind fun t220 => (if t220 = true then ((impl_Seaweed_groups.f k l0_0 l0_1).bind fun bt221 => (some (bt221.1, true))) else (some (([] : List (List Int)), false)))) = some (r1, r2) := h
  clear h
  replace H := Option.bind_eq_some_iff.mp H
  obtain ⟨t220, A20, H⟩ := H
  replace H : (if t220 = true then ((impl_Seaweed_groups.f k l0_0 l0_1).bind fun bt221 => (some (bt221.1, true))) else (some (([] : List (List Int)), false))) = some (r1, r2) := H
  have A2 := Aside0.mk A20
  clear A20
  by_cases c3 : t220 = true
  · subst c3
    have H1 : ((impl_Seaweed_groups.f k l0_0 l0_1).bind fun bt221 => (some (bt221.1, true))) = some (r1, r2) := by rw [if_pos rfl] at H; exact H
    clear H
    have H := H1
    clear H1
    replace H := Option.bind_eq_some_iff.mp H
    obtain ⟨⟨t221, t224⟩, A40, H⟩ := H
    replace H : (some (t221, true)) = some (r1, r2) := H
    have A4 := Aside0.mk A40
    clear A40
    simp only [Option.some.injEq, Prod.mk.injEq] at H
    obtain ⟨rfl, rfl⟩ := H
    go_enter Try.func8, Try.ntmps8
    go_wp2_with (first | ((with_reducible refine gate_dst (N := 1) rfl ?_); refine box_event ?hg (N := 1) ?hd (cs := #[.slice A0_0 l0_0.length c0_0, .slice A0_1 l0_1.length c0_1]) (t := 29) ?hr ?_; (case hd => rfl); (case hg => rfl); (case hr => first | (go_simp; done) | (go_simp; rfl)); intro gb219 hg w5 hbox hb; have n0_ := Aside0.mk (below_step (by repeat (first | (with_reducible first | exact HB.out | apply below_alloc | apply pw_below_drewN | apply below_drew1) | exact HB.out)) hb); have n1_ := Aside0.mk (hbox); have n2_ := Aside0.mk ((by rw [hg]; exact (below_size (by repeat (first | (with_reducible first | exact HB.out | apply below_alloc | apply pw_below_drewN | apply below_drew1) | exact HB.out))) : w.heap.size ≤ gb219)); have n3_ := Aside0.mk ((by rw [hg]; exact (below_size (by repeat (first | (with_reducible first | exact HB.out | apply below_alloc | apply pw_below_drewN | apply below_drew1) | exact HB.out))) : w.heap.size ≤ gb219)); clear HB; have HB := n0_; have BK219 := n1_; have GW219 := n2_; have GE219 := n3_; clear n0_ n1_ n2_ n3_; clear hb hbox hg; have hcz6_0 : w5.cell? ⟨gb219, 0, none⟩ = some (.slice A0_0 l0_0.length c0_0) := (blk_cell BK219.out 0).trans rfl; have hcz6_1 : w5.cell? ⟨gb219, 1, none⟩ = some (.slice A0_1 l0_1.length c0_1) := (blk_cell BK219.out 1).trans rfl; have hfz6_0 := blk_frozen BK219.out 0; have hfz6_1 := blk_frozen BK219.out 1) | ((with_reducible refine gate_callee (f := 38) rfl ?_); refine goesL_ (some 7) rfl rfl Try.func38 (by kernel_rfl) rfl #[.agg #[.slice A0_0 l0_0.length c0_0, .slice A0_1 l0_1.length c0_1]] rfl (by (try simp only [List.map_toArray, List.map_cons, List.map_nil]); first | done | rfl | (simp only [List.length_drop, List.length_take]; rfl)) ?_; (with_reducible refine (impl_IsSeaweed.calls k _ _ l0_0 _ _ l0_1 true _ ?side1 ?side2 ?side3 ?side4 A2.out).mono ?_); (case side1 => repeat (first | exact (Kd.C_below HR0_0.out HB.out) | (with_reducible refine Kd.C_alloc ?_ _) | (with_reducible refine Kd.C_drewN ?_ _) | (with_reducible refine Kd.C_drew ?_))); (case side2 => exact HC0_0.out); (case side3 => repeat (first | exact (Kd.C_below HR0_1.out HB.out) | (with_reducible refine Kd.C_alloc ?_ _) | (with_reducible refine Kd.C_drewN ?_ _) | (with_reducible refine Kd.C_drew ?_))); (case side4 => exact HC0_1.out); rintro e w7 ⟨rfl, hb⟩; refine ⟨_, rfl, ?_⟩; have n0_ := Aside0.mk (blk_below (g := gb219) (o := .cells #[.slice A0_0 l0_0.length c0_0, .slice A0_1 l0_1.length c0_1] 29 (0, 0)) (by (with_reducible repeat (first | refine blk_drewN ?_ _ | refine blk_drew ?_ | refine blk_alloc ?_ _)); exact BK219.out) hb); have n1_ := Aside0.mk (below_step (by repeat (first | (with_reducible first | exact HB.out | apply below_alloc | apply pw_below_drewN | apply below_drew1 | refine below_set ?_ GE219.out) | exact HB.out)) hb); clear BK219; clear HB; have BK219 := n0_; have HB := n1_; clear n0_ n1_; (try clear hb); (try clear hb2); (try clear hk); (try clear hi); have hcz8_0 : w7.cell? ⟨gb219, 0, none⟩ = some (.slice A0_0 l0_0.length c0_0) := (blk_cell BK219.out 0).trans rfl; have hcz8_1 : w7.cell? ⟨gb219, 1, none⟩ = some (.slice A0_1 l0_1.length c0_1) := (blk_cell BK219.out 1).trans rfl; have hfz8_0 := blk_frozen BK219.out 0; have hfz8_1 := blk_frozen BK219.out 1) | ((with_reducible refine gate_callee (f := 39) rfl ?_); refine goesL_ (some 11) rfl rfl Try.func39 (by kernel_rfl) rfl #[.agg #[.slice A0_0 l0_0.length c0_0, .slice A0_1 l0_1.length c0_1]] rfl (by (try simp only [List.map_toArray, List.map_cons, List.map_nil]); first | done | rfl | (simp only [List.length_drop, List.length_take]; rfl)) ?_; (with_reducible refine (impl_Seaweed_groups.calls k _ _ l0_0 _ _ l0_1 t221 t224 _ ?side1 ?side2 ?side3 ?side4 A4.out).mono ?_); (case side1 => repeat (first | exact (Kd.C_below HR0_0.out HB.out) | (with_reducible refine Kd.C_alloc ?_ _) | (with_reducible refine Kd.C_drewN ?_ _) | (with_reducible refine Kd.C_drew ?_))); (case side2 => exact HC0_0.out); (case side3 => repeat (first | exact (Kd.C_below HR0_1.out HB.out) | (with_reducible refine Kd.C_alloc ?_ _) | (with_reducible refine Kd.C_drewN ?_ _) | (with_reducible refine Kd.C_drew ?_))); (case side4 => exact HC0_1.out); rintro e w9 ⟨v222, v225, rfl, ho0, ho1, hb⟩; refine ⟨_, rfl, ?_⟩; have n0_ := Aside0.mk (Kd.S_lower ho0 (below_size (by repeat (first | (with_reducible first | exact HB.out | apply below_alloc | apply pw_below_drewN | apply below_drew1 | refine below_set ?_ GE219.out) | exact HB.out)))); have n1_ := Aside0.mk (Kd.S_lower ho1 (below_size (by repeat (first | (with_reducible first | exact HB.out | apply below_alloc | apply pw_below_drewN | apply below_drew1 | refine below_set ?_ GE219.out) | exact HB.out)))); have n2_ := Aside0.mk (blk_below (g := gb219) (o := .cells #[.slice A0_0 l0_0.length c0_0, .slice A0_1 l0_1.length c0_1] 29 (0, 0)) (by (with_reducible repeat (first | refine blk_drewN ?_ _ | refine blk_drew ?_ | refine blk_alloc ?_ _)); exact BK219.out) hb); have n3_ := Aside0.mk (below_step (by repeat (first | (with_reducible first | exact HB.out | apply below_alloc | apply pw_below_drewN | apply below_drew1 | refine below_set ?_ GE219.out) | exact HB.out)) hb); clear BK219; clear HB; have HO223 := n0_; have HO226 := n1_; have BK219 := n2_; have HB := n3_; clear n0_ n1_ n2_ n3_; (try clear hb); (try clear hb2); (try clear hk); (try clear hi); (try clear ho0); (try clear ho1)))
    go_ret2
    exact ⟨_, by first | rfl | (simp [errW_none, errW_some] <;> rfl) | (simp [*, errW_none, errW_some] <;> rfl), by (with_reducible repeat (first | apply Kd.S_alloc | apply Kd.S_drewN | apply Kd.S_drew)); exact Kd.S_mono HO223.out (fun _ hk => trivial), by repeat (first | (with_reducible first | exact HB.out | apply below_alloc | apply pw_below_drewN | apply below_drew1 | refine below_set ?_ GE219.out) | exact HB.out)⟩
  · replace c3 := Bool.eq_false_iff.mpr c3
    subst c3
    have H1 : (some (([] : List (List Int)), false)) = some (r1, r2) := by rw [if_neg (show ¬ (false = true) by decide)] at H; exact H
    clear H
    have H := H1
    clear H1
    simp only [Option.some.injEq, Prod.mk.injEq] at H
    obtain ⟨rfl, rfl⟩ := H
    go_enter Try.func8, Try.ntmps8
    go_wp2_with (first | ((with_reducible refine gate_dst (N := 1) rfl ?_); refine box_event ?hg (N := 1) ?hd (cs := #[.slice A0_0 l0_0.length c0_0, .slice A0_1 l0_1.length c0_1]) (t := 29) ?hr ?_; (case hd => rfl); (case hg => rfl); (case hr => first | (go_simp; done) | (go_simp; rfl)); intro gb219 hg w10 hbox hb; have n0_ := Aside0.mk (below_step (by repeat (first | (with_reducible first | exact HB.out | apply below_alloc | apply pw_below_drewN | apply below_drew1) | exact HB.out)) hb); have n1_ := Aside0.mk (hbox); have n2_ := Aside0.mk ((by rw [hg]; exact (below_size (by repeat (first | (with_reducible first | exact HB.out | apply below_alloc | apply pw_below_drewN | apply below_drew1) | exact HB.out))) : w.heap.size ≤ gb219)); have n3_ := Aside0.mk ((by rw [hg]; exact (below_size (by repeat (first | (with_reducible first | exact HB.out | apply below_alloc | apply pw_below_drewN | apply below_drew1) | exact HB.out))) : w.heap.size ≤ gb219)); clear HB; have HB := n0_; have BK219 := n1_; have GW219 := n2_; have GE219 := n3_; clear n0_ n1_ n2_ n3_; clear hb hbox hg; have hcz11_0 : w10.cell? ⟨gb219, 0, none⟩ = some (.slice A0_0 l0_0.length c0_0) := (blk_cell BK219.out 0).trans rfl; have hcz11_1 : w10.cell? ⟨gb219, 1, none⟩ = some (.slice A0_1 l0_1.length c0_1) := (blk_cell BK219.out 1).trans rfl; have hfz11_0 := blk_frozen BK219.out 0; have hfz11_1 := blk_frozen BK219.out 1) | ((with_reducible refine gate_callee (f := 38) rfl ?_); refine goesL_ (some 7) rfl rfl Try.func38 (by kernel_rfl) rfl #[.agg #[.slice A0_0 l0_0.length c0_0, .slice A0_1 l0_1.length c0_1]] rfl (by (try simp only [List.map_toArray, List.map_cons, List.map_nil]); first | done | rfl | (simp only [List.length_drop, List.length_take]; rfl)) ?_; (with_reducible refine (impl_IsSeaweed.calls k _ _ l0_0 _ _ l0_1 false _ ?side1 ?side2 ?side3 ?side4 A2.out).mono ?_); (case side1 => repeat (first | exact (Kd.C_below HR0_0.out HB.out) | (with_reducible refine Kd.C_alloc ?_ _) | (with_reducible refine Kd.C_drewN ?_ _) | (with_reducible refine Kd.C_drew ?_))); (case side2 => exact HC0_0.out); (case side3 => repeat (first | exact (Kd.C_below HR0_1.out HB.out) | (with_reducible refine Kd.C_alloc ?_ _) | (with_reducible refine Kd.C_drewN ?_ _) | (with_reducible refine Kd.C_drew ?_))); (case side4 => exact HC0_1.out); rintro e w12 ⟨rfl, hb⟩; refine ⟨_, rfl, ?_⟩; have n0_ := Aside0.mk (blk_below (g := gb219) (o := .cells #[.slice A0_0 l0_0.length c0_0, .slice A0_1 l0_1.length c0_1] 29 (0, 0)) (by (with_reducible repeat (first | refine blk_drewN ?_ _ | refine blk_drew ?_ | refine blk_alloc ?_ _)); exact BK219.out) hb); have n1_ := Aside0.mk (below_step (by repeat (first | (with_reducible first | exact HB.out | apply below_alloc | apply pw_below_drewN | apply below_drew1 | refine below_set ?_ GE219.out) | exact HB.out)) hb); clear BK219; clear HB; have BK219 := n0_; have HB := n1_; clear n0_ n1_; (try clear hb); (try clear hb2); (try clear hk); (try clear hi)))
    go_ret2
    exact ⟨_, by first | rfl | (simp [errW_none, errW_some] <;> rfl) | (simp [*, errW_none, errW_some] <;> rfl), by first | exact Kd.S_nil _ _ _ _ _ | exact Kd.N_nil _ _ _ _ _ | exact Kd.V_nil _ _ _ _ _ | exact Kd.Q_nil _ _ _ _ _ | exact Kd.R_nil _ _ _ _ _, by repeat (first | (with_reducible first | exact HB.out | apply below_alloc | apply pw_below_drewN | apply below_drew1 | refine below_set ?_ GE219.out) | exact HB.out)⟩

end Go.Proofs.Ytmpbbmocdcomcaa.PB
namespace Go.Proofs.Ytmpbbmocdcomcaa.PB
open Go.RowKit Go.Proofs.YtmpbbmocdcomcaaW.PrintWords Go.Proofs.YtmpbbmocdcomcaaW.PrintLast Go.Proofs.YtmpbbmocdcomcaaW.PrintMore
attribute [local go_sem] max2_int min2_int max_two min_two max_three min_three max_four min_four   -- for this text's walks alone

/-! ### laws_FnExactPathsOf: function 3 -/
set_option maxHeartbeats 8000000 in
set_option maxRecDepth 100000 in
theorem laws_FnExactPathsOf.calls (k : Nat) (A0_0 : Option Addr) (c0_0 : Nat) (l0_0 : List Int) (A0_1 : Option Addr) (c0_1 : Nat) (l0_1 : List Int) (w : World) (hr0_0 : Kd.C (Kd.int .i64) w A0_0 l0_0.length l0_0) (hc0_0 : l0_0.length ≤ c0_0) (hr0_1 : Kd.C (Kd.int .i64) w A0_1 l0_1.length l0_1) (hc0_1 : l0_1.length ≤ c0_1)
    (t : Int) (h0 : laws_szSeaweed.f l0_0 l0_1 1048576 = some t) (h0' : 0 ≤ t) (r : List (List Int)) (b : Bool) (hS : spec_PathsOf.f k l0_0 l0_1 = some (r, b)) (hI : impl_PathsOf.f k l0_0 l0_1 = some (r, b)) (h1 : laws_toSeaweed.f k l0_0 l0_1 = some (l0_0, l0_1)) (h2 : laws_eqIntSS.f k r r = some true) (h3 : laws_eqSeaweed.f k l0_0 l0_1 l0_0 l0_1 = some true)
    (m1 : Int) (x1 x2 : List Int) (h4 : laws_markSeaweed.f k l0_0 l0_1 1 = some (m1, x1, x2)) (h4' : 0 ≤ m1) (m2 : Int) (r' : List (List Int)) (h5 : laws_markIntSS.m k r 1 = some (m2, r')) (h6 : laws_heldIntSS.f k r' 1 = some m2) (h6' : 0 ≤ m2) :
    Calls Try.prog 3 #[.agg #[.slice A0_0 l0_0.length c0_0, .slice A0_1 l0_1.length c0_1]] w fun e w' => e = .returned (.bool true) ∧ Below w.heap.size w w' := by
  have hu1 := Try.underlying24
  have hu2 := Try.underlying29
  have HR0 := Aside0.mk hr0_0
  have HR1 := Aside0.mk hr0_1
  have HB := Aside0.mk (Below.refl w.heap.size w)
  have cb0 : decide (t < 0) = false := decide_eq_false (by omega)
  have cb1 : decide (m1 < 0) = false := decide_eq_false (by omega)
  have cb2 : decide (m2 < 0) = false := decide_eq_false (by omega)
  have H0 := Aside0.mk h0
  have HS := Aside0.mk hS
  have HI := Aside0.mk hI
  have H1 := Aside0.mk h1
  have H2 := Aside0.mk h2
  have H3 := Aside0.mk h3
  have H4 := Aside0.mk h4
  have H5 := Aside0.mk h5
  have H6 := Aside0.mk h6
  clear hr0_0 hr0_1 h0 hS hI h1 h2 h3 h4 h5 h6 h0' h4' h6'
  go_enter Try.func3, Try.ntmps3
  go_wp2_with (first | ((with_reducible refine gate_dst (N := 1) rfl ?_); (try (refine gate_guard (by rfl) ?_; dsimp only)); refine box_event ?hg (N := 1) ?hd (cs := #[.slice A0_0 l0_0.length c0_0, .slice A0_1 l0_1.length c0_1]) (t := 24) ?hr ?_; (case hd => rfl); (case hg => rfl); (case hr => first | (go_simp; done) | (go_simp; rfl)); intro gb hg wb hbox hb; have n0_ := Aside0.mk (below_step (by repeat (first | (with_reducible first | exact HB.out | apply below_alloc | apply pw_below_drewN | apply below_drew1) | exact HB.out)) hb); have n1_ := Aside0.mk (hbox); have n2_ := Aside0.mk ((by rw [hg]; exact (below_size (by repeat (first | (with_reducible first | exact HB.out | apply below_alloc | apply pw_below_drewN | apply below_drew1) | exact HB.out))) : w.heap.size ≤ gb)); clear HB; have HB := n0_; have BKb := n1_; have GEb := n2_; clear n0_ n1_ n2_; clear hb hbox hg; have hczb_0 : wb.cell? ⟨gb, 0, none⟩ = some (.slice A0_0 l0_0.length c0_0) := (blk_cell BKb.out 0).trans rfl; have hczb_1 : wb.cell? ⟨gb, 1, none⟩ = some (.slice A0_1 l0_1.length c0_1) := (blk_cell BKb.out 1).trans rfl; have hfzb_0 := blk_frozen BKb.out 0; have hfzb_1 := blk_frozen BKb.out 1))
  refine (laws_szSeaweed.calls _ _ l0_0 _ _ l0_1 1048576 t _ (Kd.C_below HR0.out HB.out) hc0_0 (Kd.C_below HR1.out HB.out) hc0_1 H0.out).mono ?_
  rintro e w1 ⟨rfl, hb⟩
  have BK1 := Aside0.mk (blk_below BKb.out hb)
  have HB1 := Aside0.mk (below_step HB.out hb)
  clear BKb HB hczb_0 hczb_1 hfzb_0 hfzb_1 hb
  have hc1_0 : w1.cell? ⟨gb, 0, none⟩ = some (.slice A0_0 l0_0.length c0_0) := (blk_cell BK1.out 0).trans rfl
  have hc1_1 : w1.cell? ⟨gb, 1, none⟩ = some (.slice A0_1 l0_1.length c0_1) := (blk_cell BK1.out 1).trans rfl
  go_wp2_with fail
  refine (laws_toSeaweed.calls k _ _ l0_0 _ _ l0_1 l0_0 l0_1 _ (Kd.C_below HR0.out HB1.out) hc0_0 (Kd.C_below HR1.out HB1.out) hc0_1 H1.out).mono ?_
  rintro e w2 ⟨v1, v2, rfl, ho1, ho2, hb⟩
  have BK2 := Aside0.mk (blk_below BK1.out hb)
  have HB2 := Aside0.mk (below_step HB1.out hb)
  have HO1 := Aside0.mk ho1
  have HO2 := Aside0.mk ho2
  obtain ⟨A1, c1, rfl⟩ := Kd.R_slice ho1
  obtain ⟨A2, c2, rfl⟩ := Kd.R_slice ho2
  clear BK1 HB1 hc1_0 hc1_1 hb ho1 ho2
  go_wp2_with fail
  refine (spec_PathsOf.calls k _ _ l0_0 _ _ l0_1 r b _ (Kd.R_reads' HO1.out).2.2 (Kd.R_reads' HO1.out).2.1 (Kd.R_reads' HO2.out).2.2 (Kd.R_reads' HO2.out).2.1 HS.out).mono ?_
  rintro e w3 ⟨vw, rfl, ho, hb⟩
  have BK3 := Aside0.mk (blk_below BK2.out hb)
  have HB3 := Aside0.mk (below_step HB2.out hb)
  have HW := Aside0.mk ho
  have HBW := Aside0.mk (Below.refl w3.heap.size w3)
  obtain ⟨Aw, cw, rfl⟩ := Kd.S_slice ho
  have HBw3 := Aside0.mk HB3.out
  have HGL := Aside0.mk (blk_lt BK3.out)
  clear BK2 HB2 HO1 HO2 hb ho
  have hc3_0 : w3.cell? ⟨gb, 0, none⟩ = some (.slice A0_0 l0_0.length c0_0) := (blk_cell BK3.out 0).trans rfl
  have hc3_1 : w3.cell? ⟨gb, 1, none⟩ = some (.slice A0_1 l0_1.length c0_1) := (blk_cell BK3.out 1).trans rfl
  go_wp2_with fail
  refine (laws_toSeaweed.calls k _ _ l0_0 _ _ l0_1 l0_0 l0_1 _ (Kd.C_below HR0.out HB3.out) hc0_0 (Kd.C_below HR1.out HB3.out) hc0_1 H1.out).mono ?_
  rintro e w4 ⟨v1, v2, rfl, ho1, ho2, hb⟩
  have BK4 := Aside0.mk (blk_below BK3.out hb)
  have HB4 := Aside0.mk (below_step HB3.out hb)
  have HBW4 := Aside0.mk hb
  have HX1 := Aside0.mk ho1
  have HX2 := Aside0.mk ho2
  have HXL1 := Aside0.mk (Kd.R_lt ho1)
  have HXL2 := Aside0.mk (Kd.R_lt ho2)
  have HS34 := Aside0.mk hb.size
  obtain ⟨A3, c3, rfl⟩ := Kd.R_slice ho1
  obtain ⟨A4, c4, rfl⟩ := Kd.R_slice ho2
  clear BK3 HB3 hc3_0 hc3_1 hb ho1 ho2 HBW
  go_wp2_with (first | ((with_reducible refine gate_dst (N := 6) rfl ?_); refine box_event ?hg (N := 6) ?hd (cs := #[.slice none 0 0, .slice none 0 0]) (t := 29) ?hr ?_; (case hd => rfl); (case hg => rfl); (case hr => first | (go_simp; done) | (go_simp; rfl)); intro gx hg wx hbox hb; have HGX := Aside0.mk hg; have BX := Aside0.mk hbox; have HBX := Aside0.mk hb; clear hg hbox hb; have hcx_0 : wx.cell? ⟨gx, 0, none⟩ = some (.slice none 0 0) := (blk_cell BX.out 0).trans rfl; have hcx_1 : wx.cell? ⟨gx, 1, none⟩ = some (.slice none 0 0) := (blk_cell BX.out 1).trans rfl; have hfx_0 := blk_frozen BX.out 0; have hfx_1 := blk_frozen BX.out 1))
  have hge : w4.heap.size ≤ gx := by rw [HGX.out]; exact Nat.le_refl _
  have hbs := Aside0.mk (below_set (j := 1) (v := .slice A4 l0_1.length c4) (below_set (j := 0) (v := .slice A3 l0_0.length c3) HBX.out hge) hge)
  have BXS := Aside0.mk (show ((wx.setCell ⟨gx, 0, none⟩ (.slice A3 l0_0.length c3)).setCell ⟨gx, 1, none⟩ (.slice A4 l0_1.length c4)).heap[gx]? = some (.cells #[.slice A3 l0_0.length c3, .slice A4 l0_1.length c4] 29 (0, 0)) from by refine blk_put (cs := #[.slice A3 l0_0.length c3, .slice none 0 0]) ?_ 1 _ rfl; refine blk_put (cs := #[.slice none 0 0, .slice none 0 0]) ?_ 0 _ rfl; exact BX.out)
  clear hcx_0 hcx_1 hfx_0 hfx_1 BX HBX HGX
  generalize ((wx.setCell ⟨gx, 0, none⟩ (.slice A3 l0_0.length c3)).setCell ⟨gx, 1, none⟩ (.slice A4 l0_1.length c4)) = ws at hbs BXS ⊢
  have BK5 := Aside0.mk (blk_below BK4.out hbs.out)
  have HB5 := Aside0.mk (below_step HB4.out hbs.out)
  have HBW5 := Aside0.mk (below_step HBW4.out hbs.out)
  have HX15 := Aside0.mk (Kd.R_below HX1.out hbs.out)
  have HX25 := Aside0.mk (Kd.R_below HX2.out hbs.out)
  clear BK4 HB4 HBW4 HX1 HX2 hge
  refine (impl_PathsOf.calls k _ _ l0_0 _ _ l0_1 r b _ (Kd.R_reads' HX15.out).2.2 (Kd.R_reads' HX15.out).2.1 (Kd.R_reads' HX25.out).2.2 (Kd.R_reads' HX25.out).2.1 HI.out).mono ?_
  rintro e w5 ⟨vg, rfl, ho, hb⟩
  have BK6 := Aside0.mk (blk_below BK5.out hb)
  have BX6 := Aside0.mk (blk_below BXS.out hb)
  have HB6 := Aside0.mk (below_step HB5.out hb)
  have HBW6 := Aside0.mk (below_step HBW5.out hb)
  have HX16 := Aside0.mk (Kd.R_below HX15.out hb)
  have HX26 := Aside0.mk (Kd.R_below HX25.out hb)
  have HG := Aside0.mk ho
  obtain ⟨Ag, cg, rfl⟩ := Kd.S_slice ho
  have HSZ := Aside0.mk hb.size
  have HSX := Aside0.mk hbs.out.size
  clear BK5 BXS HB5 HBW5 HX15 HX25 hbs hb ho
  dsimp only
  go_wp2_with fail
  have HWR := Aside0.mk (Kd.S_below HW.out HBW6.out)
  refine (laws_eqIntSS.calls k _ _ r _ _ r true _ (Kd.S_reads' HG.out).2.2 (Kd.S_reads' HG.out).2.1 (Kd.S_reads' HWR.out).2.2 (Kd.S_reads' HWR.out).2.1 H2.out).mono ?_
  rintro e w6 ⟨rfl, hd⟩
  have hb := hd.below
  have BK7 := Aside0.mk (blk_below BK6.out hb)
  have BX7 := Aside0.mk (blk_below BX6.out hb)
  have HB7 := Aside0.mk (below_step HB6.out hb)
  have HBW7 := Aside0.mk (below_step HBW6.out hb)
  have HX17 := Aside0.mk (Kd.R_below HX16.out hb)
  have HX27 := Aside0.mk (Kd.R_below HX26.out hb)
  have HG7 := Aside0.mk (Kd.S_below HG.out hb)
  have HSZ7 := Aside0.mk (Nat.le_trans HSZ.out hb.size)
  clear BK6 BX6 HB6 HBW6 HX16 HX26 HG HSZ HWR hd hb
  dsimp only
  go_wp2_with fail
  have hs7_0 : w6.cell? ⟨gx, 0, none⟩ = some (.slice A3 l0_0.length c3) := (blk_cell BX7.out 0).trans rfl
  have hs7_1 : w6.cell? ⟨gx, 1, none⟩ = some (.slice A4 l0_1.length c4) := (blk_cell BX7.out 1).trans rfl
  have hc7_0 : w6.cell? ⟨gb, 0, none⟩ = some (.slice A0_0 l0_0.length c0_0) := (blk_cell BK7.out 0).trans rfl
  have hc7_1 : w6.cell? ⟨gb, 1, none⟩ = some (.slice A0_1 l0_1.length c0_1) := (blk_cell BK7.out 1).trans rfl
  go_region_held3 (fun w' => w'.cell? ⟨gx, 0, none⟩ = some (.slice A3 l0_0.length c3) ∧ w'.cell? ⟨gx, 1, none⟩ = some (.slice A4 l0_1.length c4) ∧ w'.cell? ⟨gb, 0, none⟩ = some (.slice A0_0 l0_0.length c0_0) ∧ w'.cell? ⟨gb, 1, none⟩ = some (.slice A0_1 l0_1.length c0_1))
    (first | go_keep | (refine ⟨?_, ?_, ?_, ?_⟩ <;> assumption))
    (first
      | (go_at_call 7; refine (laws_toSeaweed.calls k _ _ l0_0 _ _ l0_1 l0_0 l0_1 _ (Kd.C_below HR0.out (below_drew1 HB7.out)) hc0_0 (Kd.C_below HR1.out (below_drew1 HB7.out)) hc0_1 H1.out).mono ?_; rintro e w7 ⟨v1, v2, rfl, ho1, ho2, hb⟩; have hb7 := hb; obtain ⟨A5, c5, rfl⟩ := Kd.R_slice ho1; obtain ⟨A6, c6, rfl⟩ := Kd.R_slice ho2; have HY1 := Aside0.mk ho1; have HY2 := Aside0.mk ho2; have BK8 := Aside0.mk (blk_below (blk_drew BK7.out) hb); have BX8 := Aside0.mk (blk_below (blk_drew BX7.out) hb); have HB8 := Aside0.mk (below_step (below_drew1 HB7.out) hb); have HBD8 := Aside0.mk hb; clear hb7 hb ho1 ho2; have hs8_0 : w7.cell? ⟨gx, 0, none⟩ = some (.slice A3 l0_0.length c3) := (blk_cell BX8.out 0).trans rfl; have hs8_1 : w7.cell? ⟨gx, 1, none⟩ = some (.slice A4 l0_1.length c4) := (blk_cell BX8.out 1).trans rfl; have hc8_0 : w7.cell? ⟨gb, 0, none⟩ = some (.slice A0_0 l0_0.length c0_0) := (blk_cell BK8.out 0).trans rfl; have hc8_1 : w7.cell? ⟨gb, 1, none⟩ = some (.slice A0_1 l0_1.length c0_1) := (blk_cell BK8.out 1).trans rfl)
      | (go_at_call 10; refine (laws_eqSeaweed.calls k _ _ l0_0 _ _ l0_1 _ _ l0_0 _ _ l0_1 true _ (Kd.R_reads' (Kd.R_below (Kd.R_drew HX17.out) HBD8.out)).2.2 (Kd.R_reads' HX17.out).2.1 (Kd.R_reads' (Kd.R_below (Kd.R_drew HX27.out) HBD8.out)).2.2 (Kd.R_reads' HX27.out).2.1 (Kd.R_reads' HY1.out).2.2 (Kd.R_reads' HY1.out).2.1 (Kd.R_reads' HY2.out).2.2 (Kd.R_reads' HY2.out).2.1 H3.out).mono ?_; rintro e w8 ⟨rfl, hb⟩; have BK9 := Aside0.mk (blk_below BK8.out hb); have BX9 := Aside0.mk (blk_below BX8.out hb); have HB9 := Aside0.mk (below_step HB8.out hb); have HBD9 := Aside0.mk (below_step HBD8.out hb); clear hb; have hs9_0 : w8.cell? ⟨gx, 0, none⟩ = some (.slice A3 l0_0.length c3) := (blk_cell BX9.out 0).trans rfl; have hs9_1 : w8.cell? ⟨gx, 1, none⟩ = some (.slice A4 l0_1.length c4) := (blk_cell BX9.out 1).trans rfl; have hc9_0 : w8.cell? ⟨gb, 0, none⟩ = some (.slice A0_0 l0_0.length c0_0) := (blk_cell BK9.out 0).trans rfl; have hc9_1 : w8.cell? ⟨gb, 1, none⟩ = some (.slice A0_1 l0_1.length c0_1) := (blk_cell BK9.out 1).trans rfl))
  have HBW9 := Aside0.mk (below_then (below_drew1 HBW7.out) HBW7.out.size HBD9.out)
  have HX19 := Aside0.mk (Kd.R_below (Kd.R_drew HX17.out) HBD9.out)
  have HX29 := Aside0.mk (Kd.R_below (Kd.R_drew HX27.out) HBD9.out)
  have HG9 := Aside0.mk (Kd.S_below (Kd.S_drew HG7.out) HBD9.out)
  have HSZ9 := Aside0.mk (Nat.le_trans HSZ7.out HBD9.out.size)
  clear HBW7 HX17 HX27 HG7 HSZ7 HBD9 BK8 BX8 HB8 HBD8 BK7 BX7 HB7 hs7_0 hs7_1 hc7_0 hc7_1 hs8_0 hs8_1 hc8_0 hc8_1 HY1 HY2
  go_wp2_with fail
  refine (laws_markSeaweed.calls k _ _ l0_0 _ _ l0_1 1 m1 x1 x2 w3 _ HBW9.out (Kd.R_tight rfl HX19.out) (fun k_ h_ h2_ => HX19.out.1 k_ h_.symm h2_) (Kd.R_tight rfl HX29.out) (fun k_ h_ h2_ => HX29.out.1 k_ h_.symm h2_) H4.out).mono ?_
  rintro e w9 ⟨rfl, _, _, hb, hk⟩
  have BK10 := Aside0.mk (blk_kept BK9.out hk (fun h_ => h_.elim (fun h2_ => Kd.R_ne HX19.out BK9.out (by decide) h2_) (fun h2_ => Kd.R_ne HX29.out BK9.out (by decide) h2_)))
  have HBW10 := Aside0.mk hb
  have HG10 := Aside0.mk (Kd.S_kept (Kd.S_bound HG9.out) hk (fun k_ h_ hs_ => by
    have h1_ := h_.2.1
    have h2_ := HSX.out
    rcases hs_ with hs_ | hs_
    · have := HXL1.out k_ hs_.symm; omega
    · have := HXL2.out k_ hs_.symm; omega))
  have HSZ10 := Aside0.mk (Nat.le_trans HSZ9.out hk.1)
  clear hb hk BK9 BX9 HB9 HBW9 HX19 HX29 HG9 HSZ9 hs9_0 hs9_1 hc9_0 hc9_1
  dsimp only
  go_wp2_with fail
  have HWR := Aside0.mk (Kd.S_below HW.out HBW10.out)
  refine (laws_eqIntSS.calls k _ _ r _ _ r true _ (Kd.S_reads' HG10.out).2.2 (Kd.S_reads' HG10.out).2.1 (Kd.S_reads' HWR.out).2.2 (Kd.S_reads' HWR.out).2.1 H2.out).mono ?_
  rintro e w10 ⟨rfl, hd⟩
  have hb := hd.below
  have BK11 := Aside0.mk (blk_below BK10.out hb)
  have HBW11 := Aside0.mk (below_step HBW10.out hb)
  have HG11 := Aside0.mk (Kd.S_mono (Kd.S_below HG10.out hb) (ok' := fun _ => True) (fun _ _ => trivial))
  have HSZ11 := Aside0.mk (Nat.le_trans HSZ10.out hb.size)
  clear BK10 HBW10 HG10 HSZ10 HWR hd hb
  dsimp only
  go_wp2_with fail
  refine (laws_markIntSS.calls k (fun _ => True) _ r 1 m2 r' (cm_cut w10 ws.heap.size) _ (cm_cut_below HSZ11.out) (by rw [cm_cut_size HSZ11.out]; exact HG11.out) H5.out).mono ?_
  rintro e w11 ⟨rfl, ho, hb0, hk⟩
  have hb := cm_cut_then HSZ11.out hb0 hk
  rw [cm_cut_size HSZ11.out] at ho
  have hle := Nat.le_trans HS34.out HSX.out
  have BK12 := Aside0.mk ((hb.block gb (Nat.lt_of_lt_of_le HGL.out hle)).trans BK11.out)
  have HBW12 := Aside0.mk (below_weaken HBW11.out hle hb)
  have HG12 := Aside0.mk ho
  have HLE := Aside0.mk (Kd.S_reads' ho).1
  clear BK11 HBW11 HG11 HSZ11 hb0 hb hk ho hle
  dsimp only
  go_wp2_with fail
  have hcall := fun (W : World) (h_ : Below w11.heap.size w11 W) => laws_heldIntSS.calls k Ag cg r' 1 m2 W (Kd.S_reads' (Kd.S_below HG12.out h_)).2.2 (by have := (Kd.S_reads' HG12.out).2.1; have := HLE.out; omega) H6.out
  rw [← HLE.out] at hcall
  have HH := Aside0.mk hcall
  clear hcall
  refine (HH.out _ (Below.refl _ _)).mono ?_
  rintro e w12 ⟨rfl, hd⟩
  have hb := hd.below
  have BK13 := Aside0.mk (blk_below BK12.out hb)
  have HBW13 := Aside0.mk (below_step HBW12.out hb)
  have HBH13 := Aside0.mk hb
  clear hd hb BK12 HBW12
  have hc13_0 : w12.cell? ⟨gb, 0, none⟩ = some (.slice A0_0 l0_0.length c0_0) := (blk_cell BK13.out 0).trans rfl
  have hc13_1 : w12.cell? ⟨gb, 1, none⟩ = some (.slice A0_1 l0_1.length c0_1) := (blk_cell BK13.out 1).trans rfl
  dsimp only
  go_wp2_with fail
  refine (laws_toSeaweed.calls k _ _ l0_0 _ _ l0_1 l0_0 l0_1 _ (Kd.C_below HR0.out (below_step HBw3.out HBW13.out)) hc0_0 (Kd.C_below HR1.out (below_step HBw3.out HBW13.out)) hc0_1 H1.out).mono ?_
  rintro e w13 ⟨v1, v2, rfl, ho1, ho2, hb⟩
  have HBW14 := Aside0.mk (below_step HBW13.out hb)
  have HBH14 := Aside0.mk (below_step HBH13.out hb)
  have HY1 := Aside0.mk ho1
  have HY2 := Aside0.mk ho2
  obtain ⟨A5, c5, rfl⟩ := Kd.R_slice ho1
  obtain ⟨A6, c6, rfl⟩ := Kd.R_slice ho2
  clear hb ho1 ho2 HBW13 HBH13 BK13 hc13_0 hc13_1
  dsimp only
  go_wp2_with fail
  refine (impl_PathsOf.calls k _ _ l0_0 _ _ l0_1 r b _ (Kd.R_reads' HY1.out).2.2 (Kd.R_reads' HY1.out).2.1 (Kd.R_reads' HY2.out).2.2 (Kd.R_reads' HY2.out).2.1 HI.out).mono ?_
  rintro e w14 ⟨vh, rfl, ho, hb⟩
  have HBW15 := Aside0.mk (below_step HBW14.out hb)
  have HBH15 := Aside0.mk (below_step HBH14.out hb)
  have HP := Aside0.mk ho
  obtain ⟨Ah, ch, rfl⟩ := Kd.S_slice ho
  clear hb ho HBW14 HBH14 HY1 HY2
  dsimp only
  go_wp2_with fail
  have HWR := Aside0.mk (Kd.S_below HW.out HBW15.out)
  refine (laws_eqIntSS.calls k _ _ r _ _ r true _ (Kd.S_reads' HP.out).2.2 (Kd.S_reads' HP.out).2.1 (Kd.S_reads' HWR.out).2.2 (Kd.S_reads' HWR.out).2.1 H2.out).mono ?_
  rintro e w15 ⟨rfl, hd⟩
  have hb := hd.below
  have HBW16 := Aside0.mk (below_step HBW15.out hb)
  have HBH16 := Aside0.mk (below_step HBH15.out hb)
  clear HBW15 HBH15 HWR hd hb HP
  dsimp only
  go_wp2_with fail
  refine (HH.out _ HBH16.out).mono ?_
  rintro e w16 ⟨rfl, hd⟩
  have hb := hd.below
  have HBW17 := Aside0.mk (below_step HBW16.out hb)
  clear hd hb HBW16 HBH16
  dsimp only
  go_wp2
  go_ret
  exact ⟨rfl, below_step HBw3.out HBW17.out⟩
set_option maxHeartbeats 8000000 in
set_option maxRecDepth 100000 in
theorem laws_FnExactPathsOf.callsBig (A0_0 : Option Addr) (c0_0 : Nat) (l0_0 : List Int) (A0_1 : Option Addr) (c0_1 : Nat) (l0_1 : List Int) (w : World) (hr0_0 : Kd.C (Kd.int .i64) w A0_0 l0_0.length l0_0) (hc0_0 : l0_0.length ≤ c0_0) (hr0_1 : Kd.C (Kd.int .i64) w A0_1 l0_1.length l0_1) (hc0_1 : l0_1.length ≤ c0_1)
    (t : Int) (h0 : laws_szSeaweed.f l0_0 l0_1 1048576 = some t) (h0' : t < 0) :
    Calls Try.prog 3 #[.agg #[.slice A0_0 l0_0.length c0_0, .slice A0_1 l0_1.length c0_1]] w fun e w' => e = .returned (.bool true) ∧ Below w.heap.size w w' := by
  have hu1 := Try.underlying24
  have HR0 := Aside0.mk hr0_0
  have HR1 := Aside0.mk hr0_1
  have HB := Aside0.mk (Below.refl w.heap.size w)
  have cb0 : decide (t < 0) = true := decide_eq_true (by omega)
  have H0 := Aside0.mk h0
  clear hr0_0 hr0_1 h0 h0'
  go_enter Try.func3, Try.ntmps3
  go_wp2_with (first | ((with_reducible refine gate_dst (N := 1) rfl ?_); (try (refine gate_guard (by rfl) ?_; dsimp only)); refine box_event ?hg (N := 1) ?hd (cs := #[.slice A0_0 l0_0.length c0_0, .slice A0_1 l0_1.length c0_1]) (t := 24) ?hr ?_; (case hd => rfl); (case hg => rfl); (case hr => first | (go_simp; done) | (go_simp; rfl)); intro gb hg wb hbox hb; have n0_ := Aside0.mk (below_step (by repeat (first | (with_reducible first | exact HB.out | apply below_alloc | apply pw_below_drewN | apply below_drew1) | exact HB.out)) hb); have n1_ := Aside0.mk (hbox); have n2_ := Aside0.mk ((by rw [hg]; exact (below_size (by repeat (first | (with_reducible first | exact HB.out | apply below_alloc | apply pw_below_drewN | apply below_drew1) | exact HB.out))) : w.heap.size ≤ gb)); clear HB; have HB := n0_; have BKb := n1_; have GEb := n2_; clear n0_ n1_ n2_; clear hb hbox hg; have hczb_0 : wb.cell? ⟨gb, 0, none⟩ = some (.slice A0_0 l0_0.length c0_0) := (blk_cell BKb.out 0).trans rfl; have hczb_1 : wb.cell? ⟨gb, 1, none⟩ = some (.slice A0_1 l0_1.length c0_1) := (blk_cell BKb.out 1).trans rfl; have hfzb_0 := blk_frozen BKb.out 0; have hfzb_1 := blk_frozen BKb.out 1))
  refine (laws_szSeaweed.calls _ _ l0_0 _ _ l0_1 1048576 t _ (Kd.C_below HR0.out HB.out) hc0_0 (Kd.C_below HR1.out HB.out) hc0_1 H0.out).mono ?_
  rintro e w1 ⟨rfl, hb⟩
  have HB1 := Aside0.mk (below_step HB.out hb)
  clear hb
  dsimp only
  go_wp2
  go_ret
  exact ⟨rfl, HB1.out⟩
/-- THE PURE STATEMENT: the program and the reference answer alike. -/
def laws_FnExactPathsOf.Pure : Prop := ∀ l0 l1 : List Int, l0.length + l1.length ≤ 1048576 → (∀ x ∈ l0, (Lit.int .i64 x).wf = true) → (∀ x ∈ l1, (Lit.int .i64 x).wf = true) →
  ∃ k r b, spec_PathsOf.f k l0 l1 = some (r, b) ∧ impl_PathsOf.f k l0 l1 = some (r, b) ∧ r.length ≤ 1000 ∧ ∀ x ∈ r, x.length ≤ 1000
theorem laws_FnExactPathsOf.walk (P : laws_FnExactPathsOf.Pure) (a0_0 : Option Addr) (len0_0 cap0_0 : Nat) (z0_0 : List Int) (a0_1 : Option Addr) (len0_1 cap0_1 : Nat) (z0_1 : List Int) (w : World)
    (w0_0 : (a0_0 = none ∧ len0_0 = 0 ∧ cap0_0 = 0 ∧ z0_0 = []) ∨ ∃ x, a0_0 = some x ∧ len0_0 ≤ cap0_0 ∧ cap0_0 ≤ maxLen ∧ z0_0.length = cap0_0 ∧ (∀ i, i < z0_0.length → w.cell? (x.add i) = some (.int .i64 (z0_0.getD i 0))) ∧ ∀ n ∈ z0_0, (Lit.int .i64 n).wf = true)
    (w0_1 : (a0_1 = none ∧ len0_1 = 0 ∧ cap0_1 = 0 ∧ z0_1 = []) ∨ ∃ x, a0_1 = some x ∧ len0_1 ≤ cap0_1 ∧ cap0_1 ≤ maxLen ∧ z0_1.length = cap0_1 ∧ (∀ i, i < z0_1.length → w.cell? (x.add i) = some (.int .i64 (z0_1.getD i 0))) ∧ ∀ n ∈ z0_1, (Lit.int .i64 n).wf = true) :
    Calls Try.prog 3 #[.agg #[.slice a0_0 len0_0 cap0_0, .slice a0_1 len0_1 cap0_1]] w fun e w' => e = .returned (.bool true) ∧ Below w.heap.size w w' := by
  obtain ⟨l0, rfl, hr0, hm0, hw0, hc0⟩ := ReadsInt.ofRowC w0_0
  obtain ⟨l1, rfl, hr1, hm1, hw1, hc1⟩ := ReadsInt.ofRowC w0_1
  have R0 := Kd.C_of_reads (d := (0 : Int)) (h1 := fun _ => rfl) hr0
  have R1 := Kd.C_of_reads (d := (0 : Int)) (h1 := fun _ => rfl) hr1
  simp only [maxLen] at hm0 hm1
  by_cases hs : l0.length + l1.length ≤ 1048576
  · obtain ⟨k0, r, b, hS, hI, hrl, hrx⟩ := P l0 l1 hs hw0 hw1
    have h0 : laws_szSeaweed.f l0 l1 1048576 = some (1048576 - (l0.length : Int) - (l1.length : Int)) := by
      have e1 : wrap64 ((1048576 : Int) - (l0.length : Int)) = 1048576 - (l0.length : Int) := by simp only [wrap64]; omega
      have e2 : wrap64 (1048576 - (l0.length : Int) - (l1.length : Int)) = 1048576 - (l0.length : Int) - (l1.length : Int) := by simp only [wrap64]; omega
      simp only [laws_szSeaweed.f, laws_szIntS.f]
      rw [e1, if_neg (by omega)]
      simp only [Option.bind_some]
      rw [if_neg (by omega), e2, if_neg (by omega)]
      simp only [Option.bind_some]
      rw [if_neg (by omega)]
    have K : ∃ k, k0 ≤ k ∧ l0.length < k ∧ l1.length < k ∧ r.length + 1001 < k := ⟨k0 + l0.length + l1.length + r.length + 1002, by omega, by omega, by omega, by omega⟩
    obtain ⟨k, hk0, hk1, hk2, hk3⟩ := K
    have hS' := at_rounds (fun k => spec_PathsOf.mono l0 l1 k) hk0 hS
    have hI' := at_rounds (fun k => impl_PathsOf.mono l0 l1 k) hk0 hI
    have e0 := cl_toIntS l0 (by omega) k hk1
    have e1 := cl_toIntS l1 (by omega) k hk2
    have e2 := cl_markIntS l0 1 (by omega) (by omega) k hk1
    have e3 := cl_markIntS l1 (1 + (l0.length : Int)) (by omega) (by omega) k hk2
    have tot := cl_tot_le r hrx
    exact laws_FnExactPathsOf.calls k _ _ l0 _ _ l1 w R0 hc0 R1 hc1 _ h0 (by omega) r b hS' hI' (by simp [laws_toSeaweed.f, e0, e1]) (cl_eqIntSS r (by omega) hrx k hk3)
      (by simp [laws_eqSeaweed.f, cl_eqIntS l0 (by omega) k hk1, cl_eqIntS l1 (by omega) k hk2]) (1 + (l0.length : Int) + (l1.length : Int)) _ _ (by simp [laws_markSeaweed.f, e2, e3]; exact ⟨rfl, rfl⟩) (by omega)
      (1 + cl_tot r) (cl_mks r 1) (cl_markIntSS k (by omega) r 1 (by omega) hrx (by omega)) (cl_heldIntSS r (by omega) hrx k hk3) (by omega)
  · have h0 : laws_szSeaweed.f l0 l1 1048576 = some (-1) := by
      have e1 : wrap64 ((1048576 : Int) - (l0.length : Int)) = 1048576 - (l0.length : Int) := by simp only [wrap64]; omega
      simp only [laws_szSeaweed.f, laws_szIntS.f]
      rw [e1]
      by_cases h1 : (1048576 : Int) - (l0.length : Int) < 0
      · rw [if_pos h1]
        rfl
      · have e2 : wrap64 (1048576 - (l0.length : Int) - (l1.length : Int)) = 1048576 - (l0.length : Int) - (l1.length : Int) := by simp only [wrap64]; omega
        rw [if_neg h1]
        simp only [Option.bind_some]
        rw [if_neg h1, e2, if_pos (by omega)]
        rfl
    exact laws_FnExactPathsOf.callsBig _ _ l0 _ _ l1 w R0 hc0 R1 hc1 _ h0 (by omega)

end Go.Proofs.Ytmpbbmocdcomcaa.PB
