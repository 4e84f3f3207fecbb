-- printed by wip/tools/pp.py and joined by wip/tools/merge.py (the session's own call of the kit's printer, with contracts proved by hand)
import Derived.Test.YtnnkjjacpbbigaaMFnExactCountSimple1
set_option linter.unusedVariables false
set_option linter.unusedSimpArgs false
namespace Go.Proofs.Ytnnkjjacpbbigaa.PB
open Go.RowKit Go.Proofs.YtnnkjjacpbbigaaW.PrintWords Go.Proofs.YtnnkjjacpbbigaaW.PrintLast Go.Proofs.YtnnkjjacpbbigaaW.PrintMore
attribute [local go_sem] max2_int min2_int max_two min_two max_three min_three max_four min_four   -- for this text's walks alone

/-! ### impl_Meander_kept: function 92 -/
set_option maxHeartbeats 4000000 in
theorem impl_Meander_kept.gone (H : Int → Bool) (g : FuncId) (cb : Array Value) (gb : Nat) (W : World) (hbox : W.heap[gb]? = some (.cells #[.func (.func g) #[] cb] 27 (0, 0))) (heg : ∀ args W, (callFunc g args).run Try.prog W = .ok (.enter g args) W)
    (hH : ∀ x b, H x = b → Calls Try.prog g (#[.int .i64 x] ++ cb) W fun e w' => e = .returned (.bool b) ∧ Drawn0 W w') (x : Int) :
    Calls Try.prog 113 (#[.int .i64 x] ++ #[.pointer (some ⟨gb, 0, none⟩)]) W fun e w' => e = .returned (.bool (!H x)) ∧ Drawn0 W w' := by
  have hc : W.cell? ⟨gb, 0, none⟩ = some (.func (.func g) #[] cb) := (blk_cell hbox 0).trans rfl
  have HH := Aside0.mk (hH x (H x) rfl)
  clear hH hbox
  show Calls Try.prog 113 #[.int .i64 x, .pointer (some ⟨gb, 0, none⟩)] W _
  go_enter Try.func113, Try.ntmps113
  go_wp2
  refine HH.out.mono ?_
  rintro e w1 ⟨rfl, ⟨nd, rfl⟩⟩
  dsimp only
  go_wp2
  go_ret
  exact ⟨rfl, ⟨⟨_, rfl⟩⟩⟩
set_option maxHeartbeats 8000000 in
set_option maxRecDepth 100000 in
theorem impl_Meander_kept.callsG (H : Int → Bool) (g : FuncId) (cb : Array Value) (A0_0 : Option Addr) (c0_0 : Nat) (l0_0 : List Int) (A0_1 : Option Addr) (c0_1 : Nat) (l0_1 : List Int) (r1 r2 : List Int) (w : World) (hr0_0 : Kd.C (Kd.int .i64) w A0_0 l0_0.length l0_0) (hc0_0 : l0_0.length ≤ c0_0) (hr0_1 : Kd.C (Kd.int .i64) w A0_1 l0_1.length l0_1) (hc0_1 : l0_1.length ≤ c0_1)
    (heg : ∀ args W, (callFunc g args).run Try.prog W = .ok (.enter g args) W)
    (hH : ∀ W, Below w.heap.size w W → ∀ x b, H x = b → Calls Try.prog g (#[.int .i64 x] ++ cb) W fun e w' => e = .returned (.bool b) ∧ Drawn0 W w')
    (h1 : impl_without.f (fun x => !H x) l0_0 = some r1) (h2 : impl_without.f (fun x => !H x) l0_1 = some r2) :
    Calls Try.prog 92 #[.agg #[.slice A0_0 l0_0.length c0_0, .slice A0_1 l0_1.length c0_1], .func (.func g) #[] cb] w fun e w' => ∃ v0_ v1_ : Value, e = .returned (.agg #[v0_, v1_]) ∧ Kd.R (Kd.int .i64) 3 w' w.heap.size (fun k_ => some k_ ≠ (v1_ : Value).ownBlock) v0_ r1 ∧ Kd.R (Kd.int .i64) 3 w' w.heap.size (fun k_ => some k_ ≠ (v0_ : Value).ownBlock) v1_ r2 ∧ Below w.heap.size w w' := by
  have hu41 := Try.underlying41
  have HB := Aside0.mk (Below.refl w.heap.size w)
  have HR0 := Aside0.mk hr0_0
  have HR1 := Aside0.mk hr0_1
  have HHH := Aside0.mk hH
  have H1 := Aside0.mk h1
  have H2 := Aside0.mk h2
  clear hr0_0 hr0_1 hH h1 h2
  go_enter Try.func92, Try.ntmps92
  go_wp2_with (first | ((with_reducible refine gate_dst (N := 2) rfl ?_); refine box_event ?hg (N := 2) ?hd (cs := #[.slice A0_0 l0_0.length c0_0, .slice A0_1 l0_1.length c0_1]) (t := 41) ?hr ?_; (case hd => rfl); (case hg => rfl); (case hr => first | (go_simp; done) | (go_simp; rfl)); intro gm hg wm hbox hb; have HGm := Aside0.mk hg; have BKm := Aside0.mk hbox; have HBm := Aside0.mk hb; clear hg hbox hb) | ((with_reducible refine gate_dst (N := 3) rfl ?_); refine box_event ?hg (N := 3) ?hd (cs := #[.func (.func g) #[] cb]) (t := 27) ?hr ?_; (case hd => rfl); (case hg => rfl); (case hr => first | (go_simp; done) | (go_simp; rfl)); intro gf hg wf hbox hb; have HGf := Aside0.mk hg; have BKf := Aside0.mk hbox; have HBf := Aside0.mk hb; clear hg hbox hb) | ((with_reducible refine gate_dst (N := 4) rfl ?_); refine box_event ?hg (N := 4) ?hd (cs := #[.slice none 0 0, .slice none 0 0]) (t := 41) ?hr ?_; (case hd => rfl); (case hg => rfl); (case hr => first | (go_simp; done) | (go_simp; rfl)); intro gr hg wr hbox hb; have HGr := Aside0.mk hg; have BKr := Aside0.mk hbox; have HBr := Aside0.mk hb; clear hg hbox hb))
  have BM := Aside0.mk (blk_drew (blk_below (blk_below BKm.out HBf.out) HBr.out))
  have BF := Aside0.mk (blk_drew (blk_below BKf.out HBr.out))
  have BR := Aside0.mk (blk_drew BKr.out)
  have HB3 := Aside0.mk (below_drew1 (below_step (below_step (below_step HB.out HBm.out) HBf.out) HBr.out))
  have GEr := Aside0.mk (show w.heap.size ≤ gr by rw [HGr.out]; exact (below_step (below_step HB.out HBm.out) HBf.out).size)
  have NMR := Aside0.mk (show gm ≠ gr by have h5 := blk_lt (blk_below BKm.out HBf.out); rw [HGr.out]; omega)
  have NFR := Aside0.mk (show gf ≠ gr by have h5 := blk_lt BKf.out; rw [HGr.out]; omega)
  clear BKm BKf BKr HBm HBf HBr HGm HGf HGr HB
  refine start_ (n := 10) (S := fun w' => w'.cell? ⟨gm, 0, none⟩ = some (.slice A0_0 l0_0.length c0_0) ∧ w'.cell? ⟨gm, 1, none⟩ = some (.slice A0_1 l0_1.length c0_1)) (ds := []) #[false, false, false, false, false, false, false, false, false, false] (by kernel_rfl) rfl rfl ⟨(blk_cell BM.out 0).trans rfl, (blk_cell BM.out 1).trans rfl⟩ (fun hHeld => ?_)
  generalize wr.drew = w8 at BM BF BR HB3 hHeld ⊢
  refine pure_ (i := 0) (N := some 7) (v := ?_) (a' := ?_) #[true, false, false, false, false, false, false, false, false, false] rfl rfl (by kernel_rfl) (fun _ _ _ h => h) (Or.inl ⟨by rfl, ?_⟩) ?_ ?_; rotate_left; (· intro w'; go_simp; with_reducible rfl); rotate_left; (· simp only [Act.put, List.setIfInBounds_toArray, List.set_cons_zero, List.set_cons_succ, i64_w, i32_w]; rfl)
  refine pure_ (i := 2) (N := some 9) (v := ?_) (a' := ?_) #[true, false, true, false, false, false, false, false, false, false] rfl rfl (by kernel_rfl) (fun _ _ _ h => h) (Or.inl ⟨by rfl, ?_⟩) ?_ ?_; rotate_left; (· intro w'; go_simp; with_reducible rfl); rotate_left; (· simp only [Act.put, List.setIfInBounds_toArray, List.set_cons_zero, List.set_cons_succ, i64_w, i32_w]; rfl)
  refine pure_ (i := 4) (N := some 11) (v := ?_) (a' := ?_) #[true, false, true, false, true, false, false, false, false, false] rfl rfl (by kernel_rfl) (fun _ _ _ h => h) (Or.inl ⟨by rfl, ?_⟩) ?_ ?_; rotate_left; (· intro w'; go_simp; with_reducible rfl); rotate_left; (· simp only [Act.put, List.setIfInBounds_toArray, List.set_cons_zero, List.set_cons_succ, i64_w, i32_w]; rfl)
  refine pure_ (i := 6) (N := some 13) (v := ?_) (a' := ?_) #[true, false, true, false, true, false, true, false, false, false] rfl rfl (by kernel_rfl) (fun _ _ _ h => h) (Or.inl ⟨by rfl, ?_⟩) ?_ ?_; rotate_left; (· intro w'; go_simp; with_reducible rfl); rotate_left; (· simp only [Act.put, List.setIfInBounds_toArray, List.set_cons_zero, List.set_cons_succ, i64_w, i32_w]; rfl)
  refine take_ (i := 1) (N := some 8) (v := ?_) (a' := ?_) #[true, true, true, false, true, false, true, false, false, false] rfl rfl (by kernel_rfl) (fun _ _ _ h => h) (Or.inl ⟨by rfl, ?_⟩) hHeld ?_ ?_; rotate_left; (· rintro w' ⟨s0, s1⟩; go_simp; with_reducible rfl); rotate_left; (· simp only [Act.put, List.setIfInBounds_toArray, List.set_cons_zero, List.set_cons_succ, i64_w, i32_w]; rfl)
  refine take_ (i := 5) (N := some 12) (v := ?_) (a' := ?_) #[true, true, true, false, true, true, true, false, false, false] rfl rfl (by kernel_rfl) (fun _ _ _ h => h) (Or.inl ⟨by rfl, ?_⟩) hHeld ?_ ?_; rotate_left; (· rintro w' ⟨s0, s1⟩; go_simp; with_reducible rfl); rotate_left; (· simp only [Act.put, List.setIfInBounds_toArray, List.set_cons_zero, List.set_cons_succ, i64_w, i32_w]; rfl)
  refine one_ (i := 3) (N := some 10) #[true, true, true, true, true, true, true, false, false, false] rfl rfl (by kernel_rfl) (by decide) (fun K hK => ?_)
  refine goes_ Try.func114 (by kernel_rfl) rfl #[.slice A0_0 l0_0.length c0_0, .func (.func 113) #[] #[.pointer (some ⟨gf, 0, none⟩)]] (by rfl) rfl rfl (by (try simp only [List.map_toArray, List.map_cons, List.map_nil]); first | done | rfl) ?_
  refine (impl_without.callsG (fun x => !H x) 113 #[.pointer (some ⟨gf, 0, none⟩)] A0_0 c0_0 l0_0 r1 w8 (Kd.C_below HR0.out HB3.out) hc0_0 (enters_ Try.func113 (by decide) (by rfl)) (fun W hb_ x b_ hx => by subst hx; exact impl_Meander_kept.gone H g cb gf W (blk_below BF.out hb_) heg (fun x b h => HHH.out W (below_step HB3.out hb_) x b h) x) H1.out).mono ?_
  rintro e w9 ⟨v0, rfl, ho0, hb⟩
  refine ⟨_, rfl, ?_⟩
  have n0_ := Aside0.mk ho0
  have n1_ := Aside0.mk (blk_below BM.out hb)
  have n2_ := Aside0.mk (blk_below BF.out hb)
  have n3_ := Aside0.mk (blk_below BR.out hb)
  have n4_ := Aside0.mk (below_step HB3.out hb)
  have HSZ := Aside0.mk HB3.out.size
  clear BM BF BR HB3 ho0 hb
  have HO := n0_
  have BM := n1_
  have BF := n2_
  have BR := n3_
  have HB3 := n4_
  clear n0_ n1_ n2_ n3_ n4_
  refine hK.out _ _ ⟨(blk_cell BM.out 0).trans rfl, (blk_cell BM.out 1).trans rfl⟩ (fun hHeld => ?_)
  clear hK K
  refine norm_ (a' := ?_) ?_ ?_; rotate_left; (· show Act.put _ (some 10) _ = _; simp only [Act.put, List.setIfInBounds_toArray, List.set_cons_zero, List.set_cons_succ, i64_w, i32_w]; rfl)
  refine one_ (i := 7) (N := some 14) #[true, true, true, true, true, true, true, true, false, false] rfl rfl (by kernel_rfl) (by decide) (fun K hK => ?_)
  refine goes_ Try.func114 (by kernel_rfl) rfl #[.slice A0_1 l0_1.length c0_1, .func (.func 113) #[] #[.pointer (some ⟨gf, 0, none⟩)]] (by rfl) rfl rfl (by (try simp only [List.map_toArray, List.map_cons, List.map_nil]); first | done | rfl) ?_
  refine (impl_without.callsG (fun x => !H x) 113 #[.pointer (some ⟨gf, 0, none⟩)] A0_1 c0_1 l0_1 r2 w9 (Kd.C_below HR1.out HB3.out) hc0_1 (enters_ Try.func113 (by decide) (by rfl)) (fun W hb_ x b_ hx => by subst hx; exact impl_Meander_kept.gone H g cb gf W (blk_below BF.out hb_) heg (fun x b h => HHH.out W (below_step HB3.out hb_) x b h) x) H2.out).mono ?_
  rintro e w10 ⟨v1, rfl, ho1, hb⟩
  refine ⟨_, rfl, ?_⟩
  have n0_ := Aside0.mk (Kd.R_lower (Kd.R_elder' HO.out (Kd.R_base ho1) hb) HSZ.out)
  have n1_ := Aside0.mk (Kd.R_lower (Kd.R_new' ho1 (Kd.R_lt HO.out)) HB3.out.size)
  have n2_ := Aside0.mk (blk_below BM.out hb)
  have n3_ := Aside0.mk (blk_below BR.out hb)
  have n4_ := Aside0.mk (below_step HB3.out hb)
  clear BM BF BR HB3 HO HSZ hb ho1
  have HO0 := n0_
  have HO1 := n1_
  have BM := n2_
  have BR := n3_
  have HB3 := n4_
  clear n0_ n1_ n2_ n3_ n4_
  obtain ⟨Ap, cp, ep⟩ := Kd.R_slice HO0.out
  subst ep
  obtain ⟨Aq, cq, eq⟩ := Kd.R_slice HO1.out
  subst eq
  refine hK.out _ _ ⟨(blk_cell BM.out 0).trans rfl, (blk_cell BM.out 1).trans rfl⟩ (fun hHeld => ?_)
  clear hK K
  refine norm_ (a' := ?_) ?_ ?_; rotate_left; (· show Act.put _ (some 14) _ = _; simp only [Act.put, List.setIfInBounds_toArray, List.set_cons_zero, List.set_cons_succ, i64_w, i32_w]; rfl)
  refine pure_ (i := 8) (N := some 15) (v := ?_) (a' := ?_) #[true, true, true, true, true, true, true, true, true, false] rfl rfl (by kernel_rfl) (fun _ _ _ h => h) (Or.inl ⟨by rfl, ?_⟩) ?_ ?_; rotate_left; (· intro w'; go_simp; with_reducible rfl); rotate_left; (· simp only [Act.put, List.setIfInBounds_toArray, List.set_cons_zero, List.set_cons_succ, i64_w, i32_w]; rfl)
  refine one_ (i := 9) (N := none) #[true, true, true, true, true, true, true, true, true, true] rfl rfl (by kernel_rfl) (by decide) (fun K hK => ?_)
  have hs13 : w10.cell? ⟨gr, 0, none⟩ = some (.slice none 0 0) := (blk_cell BR.out 0).trans rfl
  have hfs13 := blk_frozen BR.out 0
  have hs14 : w10.cell? ⟨gr, 1, none⟩ = some (.slice none 0 0) := (blk_cell BR.out 1).trans rfl
  have hfs14 := blk_frozen BR.out 1
  refine skip_ (w1 := ?_) (by rfl) rfl ?_ ?_
  rotate_left
  · go_simp
    rfl
  refine hK.out _ _ ⟨((cell_far (p := ⟨gr, _, none⟩) NMR.out _).trans (((cell_far (p := ⟨gr, _, none⟩) NMR.out _).trans (hHeld.1)))), ((cell_far (p := ⟨gr, _, none⟩) NMR.out _).trans (((cell_far (p := ⟨gr, _, none⟩) NMR.out _).trans (hHeld.2))))⟩ (fun hHeld => ?_)
  clear hK K
  refine done_ (by kernel_rfl) ?_
  try go_wp2
  refine bodyPost_ret (results_cell_row rfl _ _ gr 41 #[.slice Ap r1.length cp, .slice Aq r2.length cq] (0, 0) _ rfl (by refine blk_put (cs := #[.slice Ap r1.length cp, .slice none 0 0]) ?_ 1 _ rfl; refine blk_put (cs := #[.slice none 0 0, .slice none 0 0]) ?_ 0 _ rfl; exact BR.out) Try.underlying41 rfl (by kernel_rfl)) rfl ?_
  exact ⟨_, _, rfl, Kd.R_mono (Kd.R_far (p := ⟨gr, 1, none⟩) (Kd.R_far (p := ⟨gr, 0, none⟩) (Kd.R_types HO0.out BR.out (by decide)) (fun _ hk => hk.2) (.slice Ap r1.length cp)) (fun _ hk => hk.2) (.slice Aq r2.length cq)) (fun _ hk => hk.1.2), Kd.R_mono (Kd.R_far (p := ⟨gr, 1, none⟩) (Kd.R_far (p := ⟨gr, 0, none⟩) (Kd.R_types HO1.out BR.out (by decide)) (fun _ hk => hk.2) (.slice Ap r1.length cp)) (fun _ hk => hk.2) (.slice Aq r2.length cq)) (fun _ hk => hk.1.2), below_set (below_set HB3.out GEr.out) GEr.out⟩

end Go.Proofs.Ytnnkjjacpbbigaa.PB
namespace Go.Proofs.Ytnnkjjacpbbigaa.PB
open Go.RowKit Go.Proofs.YtnnkjjacpbbigaaW.PrintWords Go.Proofs.YtnnkjjacpbbigaaW.PrintLast Go.Proofs.YtnnkjjacpbbigaaW.PrintMore
attribute [local go_sem] max2_int min2_int max_two min_two max_three min_three max_four min_four   -- for this text's walks alone

/-! ### impl_Meander_inside: function 94 -/
def impl_Meander_inside.h (i j x : Int) : Bool := decide (i ≤ x) && decide (x ≤ j)
theorem impl_Meander_inside.inn (i j x : Int) : impl_in.f x i j = some (decide (i ≤ x) && decide (x ≤ j)) := by
  unfold impl_in.f
  by_cases h : i ≤ x
  · simp [h]
  · simp [h]
set_option maxHeartbeats 4000000 in
theorem impl_Meander_inside.hold (i j : Int) (gi gj : Nat) (W : World) (hi : W.heap[gi]? = some (.cells #[.int .i64 i] 3 (0, 0))) (hj : W.heap[gj]? = some (.cells #[.int .i64 j] 3 (0, 0))) (x : Int) :
    Calls Try.prog 115 (#[.int .i64 x] ++ #[.pointer (some ⟨gi, 0, none⟩), .pointer (some ⟨gj, 0, none⟩)]) W fun e w' => e = .returned (.bool (impl_Meander_inside.h i j x)) ∧ Drawn0 W w' := by
  have hci : W.cell? ⟨gi, 0, none⟩ = some (.int .i64 i) := (blk_cell hi 0).trans rfl
  have hcj : W.cell? ⟨gj, 0, none⟩ = some (.int .i64 j) := (blk_cell hj 0).trans rfl
  clear hi hj
  show Calls Try.prog 115 #[.int .i64 x, .pointer (some ⟨gi, 0, none⟩), .pointer (some ⟨gj, 0, none⟩)] W _
  go_enter Try.func115, Try.ntmps115
  go_wp2_with fail
  refine (impl_in.calls x i j _ _ (impl_Meander_inside.inn i j x)).mono ?_
  rintro e w1 ⟨rfl, ⟨nd, rfl⟩⟩
  dsimp only
  go_wp2
  go_ret
  exact ⟨by first | rfl | (simp [impl_Meander_inside.h]; done), ⟨⟨_, rfl⟩⟩⟩
set_option maxHeartbeats 8000000 in
set_option maxRecDepth 100000 in
theorem impl_Meander_inside.callsG (A0_0 : Option Addr) (c0_0 : Nat) (l0_0 : List Int) (A0_1 : Option Addr) (c0_1 : Nat) (l0_1 : List Int) (a1 a2 : Int) (r1 r2 : List Int) (w : World) (hr0_0 : Kd.C (Kd.int .i64) w A0_0 l0_0.length l0_0) (hc0_0 : l0_0.length ≤ c0_0) (hr0_1 : Kd.C (Kd.int .i64) w A0_1 l0_1.length l0_1) (hc0_1 : l0_1.length ≤ c0_1)
    (h1 : impl_without.f (fun x => !impl_Meander_inside.h a1 a2 x) l0_0 = some r1) (h2 : impl_without.f (fun x => !impl_Meander_inside.h a1 a2 x) l0_1 = some r2) :
    Calls Try.prog 94 #[.agg #[.slice A0_0 l0_0.length c0_0, .slice A0_1 l0_1.length c0_1], .int .i64 a1, .int .i64 a2] w fun e w' => ∃ v0_ v1_ : Value, e = .returned (.agg #[v0_, v1_]) ∧ Kd.R (Kd.int .i64) 3 w' w.heap.size (fun k_ => some k_ ≠ (v1_ : Value).ownBlock) v0_ r1 ∧ Kd.R (Kd.int .i64) 3 w' w.heap.size (fun k_ => some k_ ≠ (v0_ : Value).ownBlock) v1_ r2 ∧ Below w.heap.size w w' := by
  have hu41 := Try.underlying41
  have HB := Aside0.mk (Below.refl w.heap.size w)
  have HR0 := Aside0.mk hr0_0
  have HR1 := Aside0.mk hr0_1
  have H1 := Aside0.mk h1
  have H2 := Aside0.mk h2
  clear hr0_0 hr0_1 h1 h2
  go_enter Try.func94, Try.ntmps94
  go_wp2_with (first | ((with_reducible refine gate_dst (N := 3) rfl ?_); refine box_event ?hg (N := 3) ?hd (cs := #[.slice A0_0 l0_0.length c0_0, .slice A0_1 l0_1.length c0_1]) (t := 41) ?hr ?_; (case hd => rfl); (case hg => rfl); (case hr => first | (go_simp; done) | (go_simp; rfl)); intro gm hg wm hbox hb; have HGm := Aside0.mk hg; have BKm := Aside0.mk hbox; have HBm := Aside0.mk hb; clear hg hbox hb) | ((with_reducible refine gate_dst (N := 4) rfl ?_); refine box_event ?hg (N := 4) ?hd (cs := #[.int .i64 a1]) (t := 3) ?hr ?_; (case hd => rfl); (case hg => rfl); (case hr => first | (go_simp; done) | (go_simp; rfl)); intro gi hg wi hbox hb; have HGi := Aside0.mk hg; have BKi := Aside0.mk hbox; have HBi := Aside0.mk hb; clear hg hbox hb) | ((with_reducible refine gate_dst (N := 5) rfl ?_); refine box_event ?hg (N := 5) ?hd (cs := #[.int .i64 a2]) (t := 3) ?hr ?_; (case hd => rfl); (case hg => rfl); (case hr => first | (go_simp; done) | (go_simp; rfl)); intro gj hg wj hbox hb; have HGj := Aside0.mk hg; have BKj := Aside0.mk hbox; have HBj := Aside0.mk hb; clear hg hbox hb) | (((with_reducible refine gate_dst (N := 6) rfl ?_); refine box_event ?hg (N := 6) ?hd (cs := #[.slice none 0 0, .slice none 0 0]) (t := 41) ?hr ?_; (case hd => rfl); (case hg => rfl); (case hr => first | (go_simp; done) | (go_simp; rfl)); intro gr hg wr hbox hb; have HGr := Aside0.mk hg; have BKr := Aside0.mk hbox; have HBr := Aside0.mk hb; clear hg hbox hb); have BI := Aside0.mk (blk_below (blk_below BKi.out HBj.out) HBr.out); have BJ := Aside0.mk (blk_below BKj.out HBr.out); have BM := blk_below (blk_below (blk_below BKm.out HBi.out) HBj.out) HBr.out; have hcm0 : wr.cell? ⟨gm, 0, none⟩ = some (.slice A0_0 l0_0.length c0_0) := (blk_cell BM 0).trans rfl; have hcm1 : wr.cell? ⟨gm, 1, none⟩ = some (.slice A0_1 l0_1.length c0_1) := (blk_cell BM 1).trans rfl; clear BM))
  have HB3 := Aside0.mk (below_step (below_step (below_step (below_step HB.out HBm.out) HBi.out) HBj.out) HBr.out)
  have GEr := Aside0.mk (show w.heap.size ≤ gr by rw [HGr.out]; exact (below_step (below_step (below_step HB.out HBm.out) HBi.out) HBj.out).size)
  have BR := Aside0.mk BKr.out
  clear BKm BKi BKj BKr HBm HBi HBj HBr HGm HGi HGj HGr HB
  refine (impl_Meander_kept.callsG (impl_Meander_inside.h a1 a2) 115 #[.pointer (some ⟨gi, 0, none⟩), .pointer (some ⟨gj, 0, none⟩)] A0_0 c0_0 l0_0 A0_1 c0_1 l0_1 r1 r2 _ (by first | exact Kd.C_below HR0.out HB3.out | exact Kd.C_below HR0.out (below_drew1 HB3.out)) hc0_0 (by first | exact Kd.C_below HR1.out HB3.out | exact Kd.C_below HR1.out (below_drew1 HB3.out)) hc0_1 (enters_ Try.func115 (by decide) (by rfl)) (fun W hb_ x b_ hx => by subst hx; exact impl_Meander_inside.hold a1 a2 gi gj W (blk_below BI.out hb_) (blk_below BJ.out hb_) x) H1.out H2.out).mono ?_
  rintro e w9 ⟨v0, v1, rfl, ho0, ho1, hb⟩
  have n0_ := Aside0.mk (Kd.R_lower ho0 HB3.out.size)
  have n1_ := Aside0.mk (Kd.R_lower ho1 HB3.out.size)
  have n3_ := Aside0.mk (blk_below BR.out hb)
  have n4_ := Aside0.mk (below_step HB3.out hb)
  clear BI BJ BR HB3 ho0 ho1 hb hcm0 hcm1
  have HO0 := n0_
  have HO1 := n1_
  have BR := n3_
  have HB3 := n4_
  clear n0_ n1_ n3_ n4_
  obtain ⟨Ap, cp, ep⟩ := Kd.R_slice HO0.out
  subst ep
  obtain ⟨Aq, cq, eq⟩ := Kd.R_slice HO1.out
  subst eq
  have hs13 : w9.cell? ⟨gr, 0, none⟩ = some (.slice none 0 0) := (blk_cell BR.out 0).trans rfl
  have hfs13 := blk_frozen BR.out 0
  have hs14 : w9.cell? ⟨gr, 1, none⟩ = some (.slice none 0 0) := (blk_cell BR.out 1).trans rfl
  have hfs14 := blk_frozen BR.out 1
  dsimp only
  go_wp2
  refine bodyPost_ret (results_cell_row rfl _ _ gr 41 #[.slice Ap r1.length cp, .slice Aq r2.length cq] (0, 0) _ rfl (by refine blk_put (cs := #[.slice Ap r1.length cp, .slice none 0 0]) ?_ 1 _ rfl; refine blk_put (cs := #[.slice none 0 0, .slice none 0 0]) ?_ 0 _ rfl; exact BR.out) Try.underlying41 rfl (by kernel_rfl)) rfl ?_
  exact ⟨_, _, rfl, Kd.R_mono (Kd.R_far (p := ⟨gr, 1, none⟩) (Kd.R_far (p := ⟨gr, 0, none⟩) (Kd.R_types HO0.out BR.out (by decide)) (fun _ hk => hk.2) (.slice Ap r1.length cp)) (fun _ hk => hk.2) (.slice Aq r2.length cq)) (fun _ hk => hk.1), Kd.R_mono (Kd.R_far (p := ⟨gr, 1, none⟩) (Kd.R_far (p := ⟨gr, 0, none⟩) (Kd.R_types HO1.out BR.out (by decide)) (fun _ hk => hk.2) (.slice Ap r1.length cp)) (fun _ hk => hk.2) (.slice Aq r2.length cq)) (fun _ hk => hk.1), below_set (below_set HB3.out GEr.out) GEr.out⟩

end Go.Proofs.Ytnnkjjacpbbigaa.PB
namespace Go.Proofs.Ytnnkjjacpbbigaa.PB
open Go.RowKit Go.Proofs.YtnnkjjacpbbigaaW.PrintWords Go.Proofs.YtnnkjjacpbbigaaW.PrintLast Go.Proofs.YtnnkjjacpbbigaaW.PrintMore
attribute [local go_sem] max2_int min2_int max_two min_two max_three min_three max_four min_four   -- for this text's walks alone

/-! ### impl_Meander_outside: function 95 -/
def impl_Meander_outside.h (i j x : Int) : Bool := !(decide (i ≤ x) && decide (x ≤ j))
theorem impl_Meander_outside.inn (i j x : Int) : impl_in.f x i j = some (decide (i ≤ x) && decide (x ≤ j)) := by
  unfold impl_in.f
  by_cases h : i ≤ x
  · simp [h]
  · simp [h]
set_option maxHeartbeats 4000000 in
theorem impl_Meander_outside.hold (i j : Int) (gi gj : Nat) (W : World) (hi : W.heap[gi]? = some (.cells #[.int .i64 i] 3 (0, 0))) (hj : W.heap[gj]? = some (.cells #[.int .i64 j] 3 (0, 0))) (x : Int) :
    Calls Try.prog 116 (#[.int .i64 x] ++ #[.pointer (some ⟨gi, 0, none⟩), .pointer (some ⟨gj, 0, none⟩)]) W fun e w' => e = .returned (.bool (impl_Meander_outside.h i j x)) ∧ Drawn0 W w' := by
  have hci : W.cell? ⟨gi, 0, none⟩ = some (.int .i64 i) := (blk_cell hi 0).trans rfl
  have hcj : W.cell? ⟨gj, 0, none⟩ = some (.int .i64 j) := (blk_cell hj 0).trans rfl
  clear hi hj
  show Calls Try.prog 116 #[.int .i64 x, .pointer (some ⟨gi, 0, none⟩), .pointer (some ⟨gj, 0, none⟩)] W _
  go_enter Try.func116, Try.ntmps116
  go_wp2_with fail
  refine (impl_in.calls x i j _ _ (impl_Meander_outside.inn i j x)).mono ?_
  rintro e w1 ⟨rfl, ⟨nd, rfl⟩⟩
  dsimp only
  go_wp2
  go_ret
  exact ⟨by first | rfl | (simp [impl_Meander_outside.h]; done), ⟨⟨_, rfl⟩⟩⟩
set_option maxHeartbeats 8000000 in
set_option maxRecDepth 100000 in
theorem impl_Meander_outside.callsG (A0_0 : Option Addr) (c0_0 : Nat) (l0_0 : List Int) (A0_1 : Option Addr) (c0_1 : Nat) (l0_1 : List Int) (a1 a2 : Int) (r1 r2 : List Int) (w : World) (hr0_0 : Kd.C (Kd.int .i64) w A0_0 l0_0.length l0_0) (hc0_0 : l0_0.length ≤ c0_0) (hr0_1 : Kd.C (Kd.int .i64) w A0_1 l0_1.length l0_1) (hc0_1 : l0_1.length ≤ c0_1)
    (h1 : impl_without.f (fun x => !impl_Meander_outside.h a1 a2 x) l0_0 = some r1) (h2 : impl_without.f (fun x => !impl_Meander_outside.h a1 a2 x) l0_1 = some r2) :
    Calls Try.prog 95 #[.agg #[.slice A0_0 l0_0.length c0_0, .slice A0_1 l0_1.length c0_1], .int .i64 a1, .int .i64 a2] w fun e w' => ∃ v0_ v1_ : Value, e = .returned (.agg #[v0_, v1_]) ∧ Kd.R (Kd.int .i64) 3 w' w.heap.size (fun k_ => some k_ ≠ (v1_ : Value).ownBlock) v0_ r1 ∧ Kd.R (Kd.int .i64) 3 w' w.heap.size (fun k_ => some k_ ≠ (v0_ : Value).ownBlock) v1_ r2 ∧ Below w.heap.size w w' := by
  have hu41 := Try.underlying41
  have HB := Aside0.mk (Below.refl w.heap.size w)
  have HR0 := Aside0.mk hr0_0
  have HR1 := Aside0.mk hr0_1
  have H1 := Aside0.mk h1
  have H2 := Aside0.mk h2
  clear hr0_0 hr0_1 h1 h2
  go_enter Try.func95, Try.ntmps95
  go_wp2_with (first | ((with_reducible refine gate_dst (N := 3) rfl ?_); refine box_event ?hg (N := 3) ?hd (cs := #[.slice A0_0 l0_0.length c0_0, .slice A0_1 l0_1.length c0_1]) (t := 41) ?hr ?_; (case hd => rfl); (case hg => rfl); (case hr => first | (go_simp; done) | (go_simp; rfl)); intro gm hg wm hbox hb; have HGm := Aside0.mk hg; have BKm := Aside0.mk hbox; have HBm := Aside0.mk hb; clear hg hbox hb) | ((with_reducible refine gate_dst (N := 4) rfl ?_); refine box_event ?hg (N := 4) ?hd (cs := #[.int .i64 a1]) (t := 3) ?hr ?_; (case hd => rfl); (case hg => rfl); (case hr => first | (go_simp; done) | (go_simp; rfl)); intro gi hg wi hbox hb; have HGi := Aside0.mk hg; have BKi := Aside0.mk hbox; have HBi := Aside0.mk hb; clear hg hbox hb) | ((with_reducible refine gate_dst (N := 5) rfl ?_); refine box_event ?hg (N := 5) ?hd (cs := #[.int .i64 a2]) (t := 3) ?hr ?_; (case hd => rfl); (case hg => rfl); (case hr => first | (go_simp; done) | (go_simp; rfl)); intro gj hg wj hbox hb; have HGj := Aside0.mk hg; have BKj := Aside0.mk hbox; have HBj := Aside0.mk hb; clear hg hbox hb) | (((with_reducible refine gate_dst (N := 6) rfl ?_); refine box_event ?hg (N := 6) ?hd (cs := #[.slice none 0 0, .slice none 0 0]) (t := 41) ?hr ?_; (case hd => rfl); (case hg => rfl); (case hr => first | (go_simp; done) | (go_simp; rfl)); intro gr hg wr hbox hb; have HGr := Aside0.mk hg; have BKr := Aside0.mk hbox; have HBr := Aside0.mk hb; clear hg hbox hb); have BI := Aside0.mk (blk_below (blk_below BKi.out HBj.out) HBr.out); have BJ := Aside0.mk (blk_below BKj.out HBr.out); have BM := blk_below (blk_below (blk_below BKm.out HBi.out) HBj.out) HBr.out; have hcm0 : wr.cell? ⟨gm, 0, none⟩ = some (.slice A0_0 l0_0.length c0_0) := (blk_cell BM 0).trans rfl; have hcm1 : wr.cell? ⟨gm, 1, none⟩ = some (.slice A0_1 l0_1.length c0_1) := (blk_cell BM 1).trans rfl; clear BM))
  have HB3 := Aside0.mk (below_step (below_step (below_step (below_step HB.out HBm.out) HBi.out) HBj.out) HBr.out)
  have GEr := Aside0.mk (show w.heap.size ≤ gr by rw [HGr.out]; exact (below_step (below_step (below_step HB.out HBm.out) HBi.out) HBj.out).size)
  have BR := Aside0.mk BKr.out
  clear BKm BKi BKj BKr HBm HBi HBj HBr HGm HGi HGj HGr HB
  refine (impl_Meander_kept.callsG (impl_Meander_outside.h a1 a2) 116 #[.pointer (some ⟨gi, 0, none⟩), .pointer (some ⟨gj, 0, none⟩)] A0_0 c0_0 l0_0 A0_1 c0_1 l0_1 r1 r2 _ (by first | exact Kd.C_below HR0.out HB3.out | exact Kd.C_below HR0.out (below_drew1 HB3.out)) hc0_0 (by first | exact Kd.C_below HR1.out HB3.out | exact Kd.C_below HR1.out (below_drew1 HB3.out)) hc0_1 (enters_ Try.func116 (by decide) (by rfl)) (fun W hb_ x b_ hx => by subst hx; exact impl_Meander_outside.hold a1 a2 gi gj W (blk_below BI.out hb_) (blk_below BJ.out hb_) x) H1.out H2.out).mono ?_
  rintro e w9 ⟨v0, v1, rfl, ho0, ho1, hb⟩
  have n0_ := Aside0.mk (Kd.R_lower ho0 HB3.out.size)
  have n1_ := Aside0.mk (Kd.R_lower ho1 HB3.out.size)
  have n3_ := Aside0.mk (blk_below BR.out hb)
  have n4_ := Aside0.mk (below_step HB3.out hb)
  clear BI BJ BR HB3 ho0 ho1 hb hcm0 hcm1
  have HO0 := n0_
  have HO1 := n1_
  have BR := n3_
  have HB3 := n4_
  clear n0_ n1_ n3_ n4_
  obtain ⟨Ap, cp, ep⟩ := Kd.R_slice HO0.out
  subst ep
  obtain ⟨Aq, cq, eq⟩ := Kd.R_slice HO1.out
  subst eq
  have hs13 : w9.cell? ⟨gr, 0, none⟩ = some (.slice none 0 0) := (blk_cell BR.out 0).trans rfl
  have hfs13 := blk_frozen BR.out 0
  have hs14 : w9.cell? ⟨gr, 1, none⟩ = some (.slice none 0 0) := (blk_cell BR.out 1).trans rfl
  have hfs14 := blk_frozen BR.out 1
  dsimp only
  go_wp2
  refine bodyPost_ret (results_cell_row rfl _ _ gr 41 #[.slice Ap r1.length cp, .slice Aq r2.length cq] (0, 0) _ rfl (by refine blk_put (cs := #[.slice Ap r1.length cp, .slice none 0 0]) ?_ 1 _ rfl; refine blk_put (cs := #[.slice none 0 0, .slice none 0 0]) ?_ 0 _ rfl; exact BR.out) Try.underlying41 rfl (by kernel_rfl)) rfl ?_
  exact ⟨_, _, rfl, Kd.R_mono (Kd.R_far (p := ⟨gr, 1, none⟩) (Kd.R_far (p := ⟨gr, 0, none⟩) (Kd.R_types HO0.out BR.out (by decide)) (fun _ hk => hk.2) (.slice Ap r1.length cp)) (fun _ hk => hk.2) (.slice Aq r2.length cq)) (fun _ hk => hk.1), Kd.R_mono (Kd.R_far (p := ⟨gr, 1, none⟩) (Kd.R_far (p := ⟨gr, 0, none⟩) (Kd.R_types HO1.out BR.out (by decide)) (fun _ hk => hk.2) (.slice Ap r1.length cp)) (fun _ hk => hk.2) (.slice Aq r2.length cq)) (fun _ hk => hk.1), below_set (below_set HB3.out GEr.out) GEr.out⟩

end Go.Proofs.Ytnnkjjacpbbigaa.PB
namespace Go.Proofs.Ytnnkjjacpbbigaa.PB
open Go.RowKit Go.Proofs.YtnnkjjacpbbigaaW.PrintWords Go.Proofs.YtnnkjjacpbbigaaW.PrintLast Go.Proofs.YtnnkjjacpbbigaaW.PrintMore
attribute [local go_sem] max2_int min2_int max_two min_two max_three min_three max_four min_four   -- for this text's walks alone

/-! ### impl_Meander_pieces: function 65 -/
def impl_Meander_pieces.pc (k : Nat) : Nat → List S41 → List Int → List Int → Bool → Option (List S41)
  | 0, _, _, _, _ => none
  | g + 1, acc, t, b, last => if acc.length ≤ 1000 then (impl_Meander_shortest.f k t b last).bind fun own =>
      if own = [] then (impl_without.f (fun _ => !true) t).bind fun t1 => (impl_without.f (fun _ => !true) b).bind fun b1 => some (acc ++ [(⟨t1, b1⟩ : S41)])
      else if 2 ≤ own.length then
        (impl_without.f (fun x => !impl_Meander_inside.h (rd own 0) (rd own 1) x) t).bind fun t1 => (impl_without.f (fun x => !impl_Meander_inside.h (rd own 0) (rd own 1) x) b).bind fun b1 =>
        (impl_without.f (fun x => !impl_Meander_outside.h (rd own 0) (rd own 1) x) t).bind fun t2 => (impl_without.f (fun x => !impl_Meander_outside.h (rd own 0) (rd own 1) x) b).bind fun b2 =>
        impl_Meander_pieces.pc k g (acc ++ [(⟨t1, b1⟩ : S41)]) t2 b2 last
      else none
    else none
theorem impl_Meander_pieces.pcmono (k : Nat) : ∀ g acc t b last, LeO (impl_Meander_pieces.pc k g acc t b last) (impl_Meander_pieces.pc (k + 1) (g + 1) acc t b last)
  | 0, _, _, _, _ => LeO.none _
  | g + 1, acc, t, b, last => LeO.ite (LeO.bind (impl_Meander_shortest.mono t b last k) (fun own => LeO.ite (LeO.refl _) (LeO.ite (LeO.bind (LeO.refl _) fun t1 => LeO.bind (LeO.refl _) fun b1 => LeO.bind (LeO.refl _) fun t2 => LeO.bind (LeO.refl _) fun b2 => impl_Meander_pieces.pcmono k g _ t2 b2 last) (LeO.refl _)))) (LeO.refl _)
def impl_Meander_pieces.f (k : Nat) (l0_0 l0_1 : List Int) (a1 : Bool) : Option (List S41) := impl_Meander_pieces.pc k k [] l0_0 l0_1 a1
theorem impl_Meander_pieces.mono : ∀ l0_0 l0_1 a1 k, LeO (impl_Meander_pieces.f k l0_0 l0_1 a1) (impl_Meander_pieces.f (k + 1) l0_0 l0_1 a1) := fun l0_0 l0_1 a1 k => impl_Meander_pieces.pcmono k k [] l0_0 l0_1 a1
theorem impl_Meander_pieces.always (x : Int) (W : World) : Calls Try.prog 93 (#[.int .i64 x] ++ #[]) W fun e w' => e = .returned (.bool true) ∧ Drawn0 W w' := by
  show Calls Try.prog 93 #[.int .i64 x] W _
  go_enter Try.func93, Try.ntmps93
  go_wp2
  go_ret
  exact ⟨by first | rfl | (simp; done), by repeat (first | exact Drawn0.refl _ | apply Drawn0.step)⟩
set_option maxHeartbeats 8000000 in
set_option maxRecDepth 100000 in
theorem impl_Meander_pieces.callsA (k : Nat) (A0_0 : Option Addr) (c0_0 : Nat) (l0_0 : List Int) (A0_1 : Option Addr) (c0_1 : Nat) (l0_1 : List Int) (a1 : Bool) (r : List S41) (w : World) (hr0_0 : Kd.C (Kd.int .i64) w A0_0 l0_0.length l0_0) (hc0_0 : l0_0.length ≤ c0_0) (hr0_1 : Kd.C (Kd.int .i64) w A0_1 l0_1.length l0_1) (hc0_1 : l0_1.length ≤ c0_1) (h : impl_Meander_pieces.f k l0_0 l0_1 a1 = some r) :
    Calls Try.prog 65 #[.agg #[.slice A0_0 l0_0.length c0_0, .slice A0_1 l0_1.length c0_1], .bool a1] w fun e w' => ∃ v0_ : Value, e = .returned (v0_) ∧ Kd.S cm_kA 41 w' w.heap.size (fun _ => True) v0_ r ∧ Below w.heap.size w w' := by
  have hu41 := Try.underlying41
  have hnil := fun w_ a_ n_ c_ => Lib.run_eql_slice_nil (P := Try.prog) w_ 30 3 a_ n_ c_ 0 0 Try.underlying30
  have HB := Aside0.mk (Below.refl w.heap.size w)
  have HR0 := Aside0.mk hr0_0
  have HR1 := Aside0.mk hr0_1
  have HH := Aside0.mk h
  clear hr0_0 hr0_1 h
  go_enter Try.func65, Try.ntmps65
  go_wp2_with (first | (((with_reducible refine gate_dst (N := 2) rfl ?_); refine box_event ?hg (N := 2) ?hd (cs := #[.slice A0_0 l0_0.length c0_0, .slice A0_1 l0_1.length c0_1]) (t := 41) ?hr ?_; (case hd => rfl); (case hg => rfl); (case hr => first | (go_simp; done) | (go_simp; rfl)); intro gm hg wm hbox hb; have HGm := Aside0.mk hg; have BKm := Aside0.mk hbox; have HBm := Aside0.mk hb; clear hg hbox hb)) | ((with_reducible refine gate_dst (N := 7) rfl ?_); refine Kd.S_lit cm_kA w.heap.size 41 ?hg (N := 7) ?hd (xs := ([] : List S41)) (inner := []) (ok := fun k_ => k_ ≠ gm) (okp := fun k_ => k_ ≠ gm) ?hr ?hp (fun _ hk => hk) (Nat.ne_of_gt (blk_lt (by first | exact BKm.out | exact blk_drew BKm.out))) (by first | exact below_step HB.out HBm.out | exact below_drew1 (below_step HB.out HBm.out)) (below_size (by first | exact below_step HB.out HBm.out | exact below_drew1 (below_step HB.out HBm.out))) (by simp) ?_; (case hd => rfl); (case hg => rfl); (case hr => first | (go_simp; done) | (go_simp; rfl)); (case hp => exact (Reps.none _ _)); intro v3 w3 ho4 hb hg_ hnew_; have HO := Aside0.mk ho4; have HB3 := Aside0.mk hb; have BM := Aside0.mk (show w3.heap[gm]? = _ from (hg_.block gm (blk_lt (by first | exact BKm.out | exact blk_drew BKm.out)) (by simp)).trans (by first | exact BKm.out | exact blk_drew BKm.out)); clear hg_ hnew_ hb ho4))
  have GEm := Aside0.mk (show w.heap.size ≤ gm by rw [HGm.out]; exact HB.out.size)
  clear BKm HBm HGm HB
  go_loopg [5] k (fun kq v5 w' => ∃ (g : Nat) (acc : List S41) (t b : List Int) (A0 : Option Addr) (c0 : Nat) (A1 : Option Addr) (c1 : Nat), kq = g ∧ Aside0 (impl_Meander_pieces.pc k g acc t b a1 = some r) ∧ Aside0 (Kd.S cm_kA 41 w' w.heap.size (fun k_ => k_ ≠ gm) v5 acc) ∧ Aside0 (w'.heap[gm]? = some (.cells #[.slice A0 t.length c0, .slice A1 b.length c1] 41 (0, 0))) ∧ Aside0 (Kd.C (Kd.int .i64) w A0 t.length t ∨ Kd.R (Kd.int .i64) 3 w' w.heap.size (fun _ => True) (.slice A0 t.length c0) t) ∧ Aside0 (Kd.C (Kd.int .i64) w A1 b.length b ∨ Kd.R (Kd.int .i64) 3 w' w.heap.size (fun _ => True) (.slice A1 b.length c1) b) ∧ t.length ≤ c0 ∧ b.length ≤ c1 ∧ Aside0 (Below w.heap.size w w'))
  case atStart => exact ⟨k, [], l0_0, l0_1, A0_0, c0_0, A0_1, c0_1, rfl, HH, HO, BM, ⟨.inl HR0.out⟩, ⟨.inl HR1.out⟩, hc0_0, hc0_1, HB3⟩
  case round =>
    clear HO BM HB3 HR0 HR1 HH
    obtain ⟨g, acc, t, b, A0, c0, A1, c1, hk, HP, HO, BM, HT, HU, hc0, hc1, HB⟩ := hrel
    cases g with
    | zero => exact absurd HP.out (by simp [impl_Meander_pieces.pc])
    | succ g =>
    have H := HP.out
    clear HP
    simp only [impl_Meander_pieces.pc] at H
    by_cases hac : acc.length ≤ 1000
    case neg => rw [if_neg hac] at H; cases H
    rw [if_pos hac] at H
    obtain ⟨own, HS1, H⟩ := Option.bind_eq_some_iff.mp H
    have HS1 := Aside0.mk HS1
    have HPC := Aside0.mk H
    clear H
    have hcm0 : wr.cell? ⟨gm, 0, none⟩ = some (.slice A0 t.length c0) := (blk_cell BM.out 0).trans rfl
    have hcm1 : wr.cell? ⟨gm, 1, none⟩ = some (.slice A1 b.length c1) := (blk_cell BM.out 1).trans rfl
    have HTC := Aside0.mk (show Kd.C (Kd.int .i64) wr A0 t.length t from HT.out.elim (fun h_ => Kd.C_below h_ HB.out) (fun h_ => (Kd.R_reads' h_).2.2))
    have HUC := Aside0.mk (show Kd.C (Kd.int .i64) wr A1 b.length b from HU.out.elim (fun h_ => Kd.C_below h_ HB.out) (fun h_ => (Kd.R_reads' h_).2.2))
    go_wp2_with fail
    refine (impl_Meander_shortest.callsN k A0 c0 t A1 c1 b a1 own _ HTC.out hc0 HUC.out hc1 HS1.out).mono ?_
    rintro e w2 ⟨vo, rfl, ho, hb, hn⟩
    have n0_ := Aside0.mk (Kd.R_lower ho HB.out.size)
    have n1_ := Aside0.mk (blk_below BM.out hb)
    have n2_ := Aside0.mk (Kd.S_below HO.out hb)
    have n3_ := Aside0.mk (HT.out.imp id (fun h_ => Kd.R_below h_ hb))
    have n4_ := Aside0.mk (HU.out.imp id (fun h_ => Kd.R_below h_ hb))
    have n5_ := Aside0.mk (below_step HB.out hb)
    clear BM HO HT HU HB HTC HUC hcm0 hcm1 HS1 ho hb
    have HOwn := n0_
    have BM := n1_
    have HO := n2_
    have HT := n3_
    have HU := n4_
    have HB := n5_
    have HN := Aside0.mk hn
    clear n0_ n1_ n2_ n3_ n4_ n5_ hn
    have hcm0 : w2.cell? ⟨gm, 0, none⟩ = some (.slice A0 t.length c0) := (blk_cell BM.out 0).trans rfl
    have hcm1 : w2.cell? ⟨gm, 1, none⟩ = some (.slice A1 b.length c1) := (blk_cell BM.out 1).trans rfl
    have HTC := Aside0.mk (show Kd.C (Kd.int .i64) w2 A0 t.length t from HT.out.elim (fun h_ => Kd.C_below h_ HB.out) (fun h_ => (Kd.R_reads' h_).2.2))
    have HUC := Aside0.mk (show Kd.C (Kd.int .i64) w2 A1 b.length b from HU.out.elim (fun h_ => Kd.C_below h_ HB.out) (fun h_ => (Kd.R_reads' h_).2.2))
    dsimp only
    by_cases he : own = []
    · have H := HPC.out
      rw [if_pos he] at H
      obtain ⟨t1, W1, H⟩ := Option.bind_eq_some_iff.mp H
      obtain ⟨b1, W2, H⟩ := Option.bind_eq_some_iff.mp H
      have HW1 := Aside0.mk W1
      have HW2 := Aside0.mk W2
      have HE := Aside0.mk (Option.some.inj H)
      have eo := HN.out he
      subst eo
      clear HPC H HN W1 W2
      go_wp2_with fail
      refine (impl_Meander_kept.callsG (fun _ => true) 93 #[] A0 c0 t A1 c1 b t1 b1 _ HTC.out hc0 HUC.out hc1 (enters_ Try.func93 (by decide) (by rfl)) (fun W _ x b_ hx => by subst hx; exact impl_Meander_pieces.always x W) HW1.out HW2.out).mono ?_
      rintro e w4 ⟨v0, v1, rfl, ho0, ho1, hb⟩
      obtain ⟨Ap, cp, ep⟩ := Kd.R_slice ho0
      subst ep
      obtain ⟨Aq, cq, eq⟩ := Kd.R_slice ho1
      subst eq
      have HC6 := Aside0.mk (show cm_kA.M w4 w.heap.size (fun k_ => w2.heap.size ≤ k_) (⟨t1, b1⟩ : S41) [.slice Ap t1.length cp, .slice Aq b1.length cq] from ⟨fun k_ => decide (some k_ = (.slice Ap t1.length cp : Value).ownBlock), _, _, rfl, Kd.R_mono (Kd.R_tight rfl (Kd.R_lower ho0 HB.out.size)) (fun k_ h_ => ⟨Kd.R_base ho0 k_ h_.symm, decide_eq_true h_⟩), Kd.R_mono (Kd.R_tight rfl (Kd.R_lower ho1 HB.out.size)) (fun k_ h_ => ⟨Kd.R_base ho1 k_ h_.symm, decide_eq_false (ho1.1 k_ h_.symm)⟩)⟩)
      have HAP := Aside0.mk (show ∀ k_, w2.heap.size ≤ k_ → k_ ≠ gm ∧ some k_ ≠ (u5 : Value).ownBlock from fun k_ h_ => ⟨by have := blk_lt BM.out; omega, fun h3_ => by have := Kd.S_lt HO.out k_ h3_.symm; omega⟩)
      have HO6 := Aside0.mk (Kd.S_mono (Kd.S_below (Kd.S_bound HO.out) hb) (ok' := fun k_ => k_ ≠ gm ∧ ¬ w2.heap.size ≤ k_) (fun k_ h_ => ⟨h_.1, by have := h_.2.2.1; omega⟩))
      have HB6 := Aside0.mk (below_step HB.out hb)
      have HLT := Aside0.mk (show ∀ k_, w4.heap.size ≤ k_ → k_ ≠ gm from fun k_ h_ => by have := blk_lt BM.out; have := hb.size; omega)
      clear BM HO HT HU HB HTC HUC hcm0 hcm1 ho0 ho1 hb HOwn
      dsimp only
      go_wp2_with (first | ((with_reducible refine gate_builtin (b := .append) (xs := #[.tmp 13, .tmp 16]) rfl ?_); at_builtin; refine Kd.S_append cm_kA (w0 := w) w.heap.size rfl (.tmp 13) (.tmp 16) 22 41 (.agg #[(.slice none 0 0), (.slice none 0 0)]) 48 rfl Try.underlying22 info41 rfl (by decide) (by omega) u5 _ (⟨t1, b1⟩ : S41) [.slice Ap t1.length cp, .slice Aq b1.length cq] (fun k_ => k_ ≠ gm) (fun k_ => w2.heap.size ≤ k_) rfl rfl HC6.out HAP.out HLT.out HO6.out HB6.out HB6.out.size ?aL ?_; (case aL => omega); intro v5 w7 ho hbw hg hat; have n0_ := Aside0.mk ho; have n1_ := Aside0.mk hbw; clear HC6 HO6 HAP HB6 HLT ho hbw hg hat))
      go_ret
      exact ⟨_, rfl, by rw [← HE.out]; exact Kd.S_mono n0_.out (fun _ _ => trivial), n1_.out⟩
    · have hol : own.length ≠ 0 := fun he_ => he (List.eq_nil_of_length_eq_zero he_)
      have H := HPC.out
      rw [if_neg he] at H
      by_cases h2 : 2 ≤ own.length
      case neg => rw [if_neg h2] at H; cases H
      rw [if_pos h2] at H
      obtain ⟨t1, W1, H⟩ := Option.bind_eq_some_iff.mp H
      obtain ⟨b1, W2, H⟩ := Option.bind_eq_some_iff.mp H
      obtain ⟨t2, W3, H⟩ := Option.bind_eq_some_iff.mp H
      obtain ⟨b2, W4, H⟩ := Option.bind_eq_some_iff.mp H
      have HW1 := Aside0.mk W1
      have HW2 := Aside0.mk W2
      have HW3 := Aside0.mk W3
      have HW4 := Aside0.mk W4
      have HPN := Aside0.mk H
      clear HPC H HN W1 W2 W3 W4
      obtain ⟨Ao, co, eo⟩ := Kd.R_slice HOwn.out
      subst eo
      obtain ⟨ado, eo, ho1⟩ := Kd.at_int (Kd.R_reads' HOwn.out).2.2 1 (by omega) (by omega)
      subst eo
      obtain ⟨ado', eo', ho0⟩ := Kd.at_int (Kd.R_reads' HOwn.out).2.2 0 (by omega) (by omega)
      cases eo'
      simp only [show (1 : Int).toNat = 1 from rfl, Nat.reduceMul, Nat.reduceEqDiff, Go.Addr.add, ↓reduceIte] at ho1
      rw [show ((0 : Int)).toNat = 0 from rfl, Addr.add_zero'] at ho0
      have po1 : ((1 : Int) < (own.length : Int)) = True := eq_true (by omega)
      have po0 : ((0 : Int) < (own.length : Int)) = True := eq_true (by omega)
      have qo1 : (1 < own.length) = True := eq_true (by omega)
      have qo0 : (0 < own.length) = True := eq_true (by omega)
      have HCELL := Aside0.mk (show ∀ W', Kd.R (Kd.int .i64) 3 W' w.heap.size (fun _ => True) (.slice (some ado) own.length co) own → W'.cell? ado = some (.int .i64 (rd own 0)) ∧ W'.cell? ⟨ado.block, ado.off + 1, none⟩ = some (.int .i64 (rd own 1)) from fun W' h_ => by
        obtain ⟨a1_, e1_, g1_⟩ := Kd.at_int (Kd.R_reads' h_).2.2 1 (by omega) (by omega)
        cases e1_
        obtain ⟨a0_, e0_, g0_⟩ := Kd.at_int (Kd.R_reads' h_).2.2 0 (by omega) (by omega)
        cases e0_
        simp only [show (1 : Int).toNat = 1 from rfl, Nat.reduceMul, Nat.reduceEqDiff, Go.Addr.add, ↓reduceIte] at g1_
        rw [show ((0 : Int)).toNat = 0 from rfl, Addr.add_zero'] at g0_
        exact ⟨g0_, g1_⟩)
      have BM8 := Aside0.mk (blk_drew BM.out)
      have HO8 := Aside0.mk (Kd.S_drew HO.out)
      have HT8 := Aside0.mk (HT.out.imp id (fun h_ => Kd.R_drew h_))
      have HU8 := Aside0.mk (HU.out.imp id (fun h_ => Kd.R_drew h_))
      have HB8 := Aside0.mk (below_drew1 HB.out)
      have HOwn8 := Aside0.mk (Kd.R_drew HOwn.out)
      go_wp2_with fail
      refine start_ (n := 12) (S := fun w' => w'.cell? ⟨gm, 0, none⟩ = some (.slice A0 t.length c0) ∧ w'.cell? ⟨gm, 1, none⟩ = some (.slice A1 b.length c1) ∧ w'.cell? ado = some (.int .i64 (rd own 0)) ∧ w'.cell? ⟨ado.block, ado.off + 1, none⟩ = some (.int .i64 (rd own 1))) (ds := [9, 10]) #[false, false, false, false, false, false, false, false, false, false, false, false] (by kernel_rfl) rfl rfl ⟨hcm0, hcm1, ho0, ho1⟩ (fun hHeld => ?_)
      clear BM HO HT HU HB HTC HUC HOwn hcm0 hcm1 ho0 ho1 he hol
      generalize w2.drew = w8 at BM8 HO8 HT8 HU8 HB8 HOwn8 hHeld ⊢
      refine pure_ (i := 0) (N := some 18) (v := ?_) (a' := ?_) #[true, false, false, false, false, false, false, false, false, false, false, false] rfl rfl (by kernel_rfl) (fun _ _ _ h => h) (Or.inl ⟨by rfl, ?_⟩) ?_ ?_; rotate_left; (· intro w'; go_simp; with_reducible rfl); rotate_left; (· simp only [Act.put, List.setIfInBounds_toArray, List.set_cons_zero, List.set_cons_succ, i64_w, i32_w]; rfl)
      refine take_ (i := 1) (N := some 19) (v := ?_) (a' := ?_) #[true, true, false, false, false, false, false, false, false, false, false, false] rfl rfl (by kernel_rfl) (fun _ _ _ h => h) (Or.inl ⟨by rfl, ?_⟩) hHeld ?_ ?_; rotate_left; (· rintro w' ⟨s0, s1, s2, s3⟩; go_simp; with_reducible rfl); rotate_left; (· simp only [Act.put, List.setIfInBounds_toArray, List.set_cons_zero, List.set_cons_succ, i64_w, i32_w]; rfl)
      refine pure_ (i := 2) (N := some 20) (v := ?_) (a' := ?_) #[true, true, true, false, false, false, false, false, false, false, false, false] rfl rfl (by kernel_rfl) (fun _ _ _ h => h) (Or.inl ⟨by rfl, ?_⟩) ?_ ?_; rotate_left; (· intro w'; go_simp; with_reducible rfl); rotate_left; (· simp only [Act.put, List.setIfInBounds_toArray, List.set_cons_zero, List.set_cons_succ, i64_w, i32_w]; rfl)
      refine pure_ (i := 3) (N := some 21) (v := ?_) (a' := ?_) #[true, true, true, true, false, false, false, false, false, false, false, false] rfl rfl (by kernel_rfl) (fun _ _ _ h => h) (Or.inl ⟨by rfl, ?_⟩) ?_ ?_; rotate_left; (· intro w'; go_simp; with_reducible rfl); rotate_left; (· simp only [Act.put, List.setIfInBounds_toArray, List.set_cons_zero, List.set_cons_succ, i64_w, i32_w]; rfl)
      refine take_ (i := 4) (N := some 22) (v := ?_) (a' := ?_) #[true, true, true, true, true, false, false, false, false, false, false, false] rfl rfl (by kernel_rfl) (fun _ _ _ h => h) (Or.inl ⟨by rfl, ?_⟩) hHeld ?_ ?_; rotate_left; (· rintro w' ⟨s0, s1, s2, s3⟩; go_simp; with_reducible rfl); rotate_left; (· simp only [Act.put, List.setIfInBounds_toArray, List.set_cons_zero, List.set_cons_succ, i64_w, i32_w]; rfl)
      refine pure_ (i := 5) (N := some 23) (v := ?_) (a' := ?_) #[true, true, true, true, true, true, false, false, false, false, false, false] rfl rfl (by kernel_rfl) (fun _ _ _ h => h) (Or.inl ⟨by rfl, ?_⟩) ?_ ?_; rotate_left; (· intro w'; go_simp; with_reducible rfl); rotate_left; (· simp only [Act.put, List.setIfInBounds_toArray, List.set_cons_zero, List.set_cons_succ, i64_w, i32_w]; rfl)
      refine pure_ (i := 6) (N := some 24) (v := ?_) (a' := ?_) #[true, true, true, true, true, true, true, false, false, false, false, false] rfl rfl (by kernel_rfl) (fun _ _ _ h => h) (Or.inl ⟨by rfl, ?_⟩) ?_ ?_; rotate_left; (· intro w'; go_simp; with_reducible rfl); rotate_left; (· simp only [Act.put, List.setIfInBounds_toArray, List.set_cons_zero, List.set_cons_succ, i64_w, i32_w]; rfl)
      refine take_ (i := 7) (N := some 25) (v := ?_) (a' := ?_) #[true, true, true, true, true, true, true, true, false, false, false, false] rfl rfl (by kernel_rfl) (fun _ _ _ h => h) (Or.inl ⟨by rfl, ?_⟩) hHeld ?_ ?_; rotate_left; (· rintro w' ⟨s0, s1, s2, s3⟩; go_simp; with_reducible rfl); rotate_left; (· simp only [Act.put, List.setIfInBounds_toArray, List.set_cons_zero, List.set_cons_succ, i64_w, i32_w]; rfl)
      refine one_ (i := 8) (N := some 26) #[true, true, true, true, true, true, true, true, true, false, false, false] rfl rfl (by kernel_rfl) (by decide) (fun K hK => ?_)
      have HTC8 := Aside0.mk (show Kd.C (Kd.int .i64) w8 A0 t.length t from HT8.out.elim (fun h_ => Kd.C_below h_ HB8.out) (fun h_ => (Kd.R_reads' h_).2.2))
      have HUC8 := Aside0.mk (show Kd.C (Kd.int .i64) w8 A1 b.length b from HU8.out.elim (fun h_ => Kd.C_below h_ HB8.out) (fun h_ => (Kd.R_reads' h_).2.2))
      refine goes_ Try.func94 (by kernel_rfl) rfl #[.agg #[.slice A0 t.length c0, .slice A1 b.length c1], .int .i64 (rd own 0), .int .i64 (rd own 1)] (by rfl) rfl rfl (by (try simp only [List.map_toArray, List.map_cons, List.map_nil]); first | done | rfl) ?_
      refine (impl_Meander_inside.callsG A0 c0 t A1 c1 b (rd own 0) (rd own 1) t1 b1 w8 HTC8.out hc0 HUC8.out hc1 HW1.out HW2.out).mono ?_
      rintro e w9 ⟨v0, v1, rfl, ho0, ho1, hb⟩
      refine ⟨_, rfl, ?_⟩
      obtain ⟨Ap, cp, ep⟩ := Kd.R_slice ho0
      subst ep
      obtain ⟨Aq, cq, eq⟩ := Kd.R_slice ho1
      subst eq
      have HC6 := Aside0.mk (show cm_kA.M w9 w.heap.size (fun k_ => w8.heap.size ≤ k_) (⟨t1, b1⟩ : S41) [.slice Ap t1.length cp, .slice Aq b1.length cq] from ⟨fun k_ => decide (some k_ = (.slice Ap t1.length cp : Value).ownBlock), _, _, rfl, Kd.R_mono (Kd.R_tight rfl (Kd.R_lower ho0 HB8.out.size)) (fun k_ h_ => ⟨Kd.R_base ho0 k_ h_.symm, decide_eq_true h_⟩), Kd.R_mono (Kd.R_tight rfl (Kd.R_lower ho1 HB8.out.size)) (fun k_ h_ => ⟨Kd.R_base ho1 k_ h_.symm, decide_eq_false (ho1.1 k_ h_.symm)⟩)⟩)
      have HAP := Aside0.mk (show ∀ k_, w8.heap.size ≤ k_ → k_ ≠ gm ∧ some k_ ≠ (u5 : Value).ownBlock from fun k_ h_ => ⟨by have := blk_lt BM8.out; omega, fun h3_ => by have := Kd.S_lt HO8.out k_ h3_.symm; omega⟩)
      have HO6 := Aside0.mk (Kd.S_mono (Kd.S_below (Kd.S_bound HO8.out) hb) (ok' := fun k_ => k_ ≠ gm ∧ ¬ w8.heap.size ≤ k_) (fun k_ h_ => ⟨h_.1, by have := h_.2.2.1; omega⟩))
      have HB6 := Aside0.mk (below_step HB8.out hb)
      have HLT := Aside0.mk (show ∀ k_, w9.heap.size ≤ k_ → k_ ≠ gm from fun k_ h_ => by have := blk_lt BM8.out; have := hb.size; omega)
      have BM9 := Aside0.mk (blk_below BM8.out hb)
      have HAW9 := Aside0.mk (Kd.S_away HO8.out (fun _ hk_ => hk_))
      have HT9 := Aside0.mk (HT8.out.imp id (fun h_ => Kd.R_below h_ hb))
      have HU9 := Aside0.mk (HU8.out.imp id (fun h_ => Kd.R_below h_ hb))
      have HOwn9 := Aside0.mk (Kd.R_below HOwn8.out hb)
      clear BM8 HO8 HT8 HU8 HB8 HTC8 HUC8 HOwn8 ho0 ho1 hb hHeld
      refine hK.out _ _ ⟨(blk_cell BM9.out 0).trans rfl, (blk_cell BM9.out 1).trans rfl, (HCELL.out _ HOwn9.out).1, (HCELL.out _ HOwn9.out).2⟩ (fun hHeld => ?_)
      clear hK K
      refine norm_ (a' := ?_) ?_ ?_; rotate_left; (· show Act.put _ (some 26) _ = _; simp only [Act.put, List.setIfInBounds_toArray, List.set_cons_zero, List.set_cons_succ, i64_w, i32_w]; rfl)
      refine last_ (i := 9) (N := some 27) #[true, true, true, true, true, true, true, true, true, true, false, false] rfl rfl (by kernel_rfl) (by decide) (fun K hK => ?_)
      refine value_ (w1 := ?_) (v := ?_) (by rfl) rfl ?_ ?_
      rotate_left 2
      · go_simp
        constructor
        · rfl
        · rfl
      refine hK.out _ _ ?_
      clear hK K
      refine norm_ (a' := ?_) ?_ ?_; rotate_left; (· show Act.put _ (some 27) _ = _; simp only [Act.put, List.setIfInBounds_toArray, List.set_cons_zero, List.set_cons_succ, i64_w, i32_w]; rfl)
      refine last_ (i := 10) (N := some 28) #[true, true, true, true, true, true, true, true, true, true, true, false] rfl rfl (by kernel_rfl) (by decide) (fun K hK => ?_)
      refine Kd.S_append_step cm_kA (w0 := w) w.heap.size (by rfl) (.tmp 18) (.tmp 27) 22 41 (.agg #[(.slice none 0 0), (.slice none 0 0)]) 48 rfl Try.underlying22 info41 rfl (by decide) (by omega) u5 _ (⟨t1, b1⟩ : S41) [.slice Ap t1.length cp, .slice Aq b1.length cq] (fun k_ => k_ ≠ gm) (fun k_ => w8.heap.size ≤ k_) rfl rfl HC6.out HAP.out HLT.out HO6.out HB6.out HB6.out.size ?aL ?_
      (case aL => omega)
      intro v5 w10 ho hbw hg hat
      have HO10 := Aside0.mk ho
      have BM10 := Aside0.mk (blk_grown BM9.out hg HAW9.out)
      have HT10 := Aside0.mk (HT9.out.imp id (fun h_ => Kd.R_over' h_ (Kd.S_typed HO6.out) (by decide) hg))
      have HU10 := Aside0.mk (HU9.out.imp id (fun h_ => Kd.R_over' h_ (Kd.S_typed HO6.out) (by decide) hg))
      have HOwn10 := Aside0.mk (Kd.R_over' HOwn9.out (Kd.S_typed HO6.out) (by decide) hg)
      have HB10 := Aside0.mk hbw
      clear BM9 HT9 HU9 HOwn9 HAW9 HC6 HAP HO6 HB6 HLT ho hbw hg hat hHeld
      refine hK.out _ _ ?_
      clear hK K
      refine norm_ (a' := ?_) ?_ ?_; rotate_left; (· show Act.put _ (some 28) _ = _; simp only [Act.put, List.setIfInBounds_toArray, List.set_cons_zero, List.set_cons_succ, i64_w, i32_w]; rfl)
      refine pure_ (i := 11) (N := some 5) (v := ?_) (a' := ?_) #[true, true, true, true, true, true, true, true, true, true, true, true] rfl rfl (by kernel_rfl) (fun _ _ _ h => h) (Or.inl ⟨by rfl, ?_⟩) ?_ ?_; rotate_left; (· intro w'; go_simp; with_reducible rfl); rotate_left; (· simp only [Act.put, List.setIfInBounds_toArray, List.set_cons_zero, List.set_cons_succ, i64_w, i32_w]; rfl)
      refine done_ (by kernel_rfl) ?_
      try go_wp2_with fail
      have hcm0 : w10.cell? ⟨gm, 0, none⟩ = some (.slice A0 t.length c0) := (blk_cell BM10.out 0).trans rfl
      have hcm1 : w10.cell? ⟨gm, 1, none⟩ = some (.slice A1 b.length c1) := (blk_cell BM10.out 1).trans rfl
      have BM8 := Aside0.mk (blk_drew BM10.out)
      have HO8 := Aside0.mk (Kd.S_drew HO10.out)
      have HT8 := Aside0.mk (HT10.out.imp id (fun h_ => Kd.R_drew h_))
      have HU8 := Aside0.mk (HU10.out.imp id (fun h_ => Kd.R_drew h_))
      have HB8 := Aside0.mk (below_drew1 HB10.out)
      have HOwn8 := Aside0.mk (Kd.R_drew HOwn10.out)
      refine start_ (n := 9) (S := fun w' => w'.cell? ⟨gm, 0, none⟩ = some (.slice A0 t.length c0) ∧ w'.cell? ⟨gm, 1, none⟩ = some (.slice A1 b.length c1) ∧ w'.cell? ado = some (.int .i64 (rd own 0)) ∧ w'.cell? ⟨ado.block, ado.off + 1, none⟩ = some (.int .i64 (rd own 1))) (ds := [8]) #[false, false, false, false, false, false, false, false, false] (by kernel_rfl) rfl rfl ⟨hcm0, hcm1, (HCELL.out _ HOwn10.out).1, (HCELL.out _ HOwn10.out).2⟩ (fun hHeld => ?_)
      clear BM10 HO10 HT10 HU10 HB10 HOwn10 hcm0 hcm1
      generalize w10.drew = w11 at BM8 HO8 HT8 HU8 HB8 HOwn8 hHeld ⊢
      refine take_ (i := 0) (N := some 29) (v := ?_) (a' := ?_) #[true, false, false, false, false, false, false, false, false] rfl rfl (by kernel_rfl) (fun _ _ _ h => h) (Or.inl ⟨by rfl, ?_⟩) hHeld ?_ ?_; rotate_left; (· rintro w' ⟨s0, s1, s2, s3⟩; go_simp; with_reducible rfl); rotate_left; (· simp only [Act.put, List.setIfInBounds_toArray, List.set_cons_zero, List.set_cons_succ, i64_w, i32_w]; rfl)
      refine pure_ (i := 1) (N := some 30) (v := ?_) (a' := ?_) #[true, true, false, false, false, false, false, false, false] rfl rfl (by kernel_rfl) (fun _ _ _ h => h) (Or.inl ⟨by rfl, ?_⟩) ?_ ?_; rotate_left; (· intro w'; go_simp; with_reducible rfl); rotate_left; (· simp only [Act.put, List.setIfInBounds_toArray, List.set_cons_zero, List.set_cons_succ, i64_w, i32_w]; rfl)
      refine pure_ (i := 2) (N := some 31) (v := ?_) (a' := ?_) #[true, true, true, false, false, false, false, false, false] rfl rfl (by kernel_rfl) (fun _ _ _ h => h) (Or.inl ⟨by rfl, ?_⟩) ?_ ?_; rotate_left; (· intro w'; go_simp; with_reducible rfl); rotate_left; (· simp only [Act.put, List.setIfInBounds_toArray, List.set_cons_zero, List.set_cons_succ, i64_w, i32_w]; rfl)
      refine take_ (i := 3) (N := some 32) (v := ?_) (a' := ?_) #[true, true, true, true, false, false, false, false, false] rfl rfl (by kernel_rfl) (fun _ _ _ h => h) (Or.inl ⟨by rfl, ?_⟩) hHeld ?_ ?_; rotate_left; (· rintro w' ⟨s0, s1, s2, s3⟩; go_simp; with_reducible rfl); rotate_left; (· simp only [Act.put, List.setIfInBounds_toArray, List.set_cons_zero, List.set_cons_succ, i64_w, i32_w]; rfl)
      refine pure_ (i := 4) (N := some 33) (v := ?_) (a' := ?_) #[true, true, true, true, true, false, false, false, false] rfl rfl (by kernel_rfl) (fun _ _ _ h => h) (Or.inl ⟨by rfl, ?_⟩) ?_ ?_; rotate_left; (· intro w'; go_simp; with_reducible rfl); rotate_left; (· simp only [Act.put, List.setIfInBounds_toArray, List.set_cons_zero, List.set_cons_succ, i64_w, i32_w]; rfl)
      refine pure_ (i := 5) (N := some 34) (v := ?_) (a' := ?_) #[true, true, true, true, true, true, false, false, false] rfl rfl (by kernel_rfl) (fun _ _ _ h => h) (Or.inl ⟨by rfl, ?_⟩) ?_ ?_; rotate_left; (· intro w'; go_simp; with_reducible rfl); rotate_left; (· simp only [Act.put, List.setIfInBounds_toArray, List.set_cons_zero, List.set_cons_succ, i64_w, i32_w]; rfl)
      refine take_ (i := 6) (N := some 35) (v := ?_) (a' := ?_) #[true, true, true, true, true, true, true, false, false] rfl rfl (by kernel_rfl) (fun _ _ _ h => h) (Or.inl ⟨by rfl, ?_⟩) hHeld ?_ ?_; rotate_left; (· rintro w' ⟨s0, s1, s2, s3⟩; go_simp; with_reducible rfl); rotate_left; (· simp only [Act.put, List.setIfInBounds_toArray, List.set_cons_zero, List.set_cons_succ, i64_w, i32_w]; rfl)
      refine one_ (i := 7) (N := some 36) #[true, true, true, true, true, true, true, true, false] rfl rfl (by kernel_rfl) (by decide) (fun K hK => ?_)
      have HTC8 := Aside0.mk (show Kd.C (Kd.int .i64) w11 A0 t.length t from HT8.out.elim (fun h_ => Kd.C_below h_ HB8.out) (fun h_ => (Kd.R_reads' h_).2.2))
      have HUC8 := Aside0.mk (show Kd.C (Kd.int .i64) w11 A1 b.length b from HU8.out.elim (fun h_ => Kd.C_below h_ HB8.out) (fun h_ => (Kd.R_reads' h_).2.2))
      refine goes_ Try.func95 (by kernel_rfl) rfl #[.agg #[.slice A0 t.length c0, .slice A1 b.length c1], .int .i64 (rd own 0), .int .i64 (rd own 1)] (by rfl) rfl rfl (by (try simp only [List.map_toArray, List.map_cons, List.map_nil]); first | done | rfl) ?_
      refine (impl_Meander_outside.callsG A0 c0 t A1 c1 b (rd own 0) (rd own 1) t2 b2 w11 HTC8.out hc0 HUC8.out hc1 HW3.out HW4.out).mono ?_
      rintro e w12 ⟨v2, v3', rfl, ho0, ho1, hb⟩
      refine ⟨_, rfl, ?_⟩
      obtain ⟨Ap2, cp2, ep⟩ := Kd.R_slice ho0
      subst ep
      obtain ⟨Aq2, cq2, eq⟩ := Kd.R_slice ho1
      subst eq
      have HX0 := Aside0.mk (Kd.R_lower ho0 HB8.out.size)
      have HX1 := Aside0.mk (Kd.R_lower ho1 HB8.out.size)
      have BM12 := Aside0.mk (blk_below BM8.out hb)
      have HO12 := Aside0.mk (Kd.S_below HO8.out hb)
      have HOwn12 := Aside0.mk (Kd.R_below HOwn8.out hb)
      have HB12 := Aside0.mk (below_step HB8.out hb)
      clear BM8 HO8 HT8 HU8 HB8 HTC8 HUC8 HOwn8 ho0 ho1 hb hHeld
      refine hK.out _ _ ⟨(blk_cell BM12.out 0).trans rfl, (blk_cell BM12.out 1).trans rfl, (HCELL.out _ HOwn12.out).1, (HCELL.out _ HOwn12.out).2⟩ (fun hHeld => ?_)
      clear hK K
      refine norm_ (a' := ?_) ?_ ?_; rotate_left; (· show Act.put _ (some 36) _ = _; simp only [Act.put, List.setIfInBounds_toArray, List.set_cons_zero, List.set_cons_succ, i64_w, i32_w]; rfl)
      have hs13 : w12.cell? ⟨gm, 0, none⟩ = some (.slice A0 t.length c0) := (blk_cell BM12.out 0).trans rfl
      have hfs13 := blk_frozen BM12.out 0
      have hs14 : w12.cell? ⟨gm, 1, none⟩ = some (.slice A1 b.length c1) := (blk_cell BM12.out 1).trans rfl
      have hfs14 := blk_frozen BM12.out 1
      refine last_ (i := 8) (N := none) #[true, true, true, true, true, true, true, true, true] rfl rfl (by kernel_rfl) (by decide) (fun K hK => ?_)
      refine skip_ (w1 := ?_) (by rfl) rfl ?_ ?_
      rotate_left
      · go_simp
        rfl
      refine hK.out _ _ ?_
      clear hK K
      refine done_ (by kernel_rfl) ?_
      try go_wp2
      go_roundg g
      case measure => omega
      case rel => exact ⟨g, _, t2, b2, Ap2, cp2, Aq2, cq2, rfl, HPN, ⟨Kd.S_far (p := ⟨gm, 1, none⟩) (Kd.S_far (p := ⟨gm, 0, none⟩) HO12.out (fun _ hk_ => hk_) _) (fun _ hk_ => hk_) _⟩, ⟨by refine blk_put (cs := #[.slice Ap2 t2.length cp2, .slice A1 b.length c1]) ?_ 1 _ rfl; refine blk_put (cs := #[.slice A0 t.length c0, .slice A1 b.length c1]) ?_ 0 _ rfl; exact BM12.out⟩, ⟨.inr (Kd.R_mono (Kd.R_far (p := ⟨gm, 1, none⟩) (Kd.R_far (p := ⟨gm, 0, none⟩) (Kd.R_types HX0.out BM12.out (by decide)) (fun _ hk => hk.2) _) (fun _ hk => hk.2) _) (fun _ _ => trivial))⟩, ⟨.inr (Kd.R_mono (Kd.R_far (p := ⟨gm, 1, none⟩) (Kd.R_far (p := ⟨gm, 0, none⟩) (Kd.R_types HX1.out BM12.out (by decide)) (fun _ hk => hk.2) _) (fun _ hk => hk.2) _) (fun _ _ => trivial))⟩, (Kd.R_reads' HX0.out).2.1, (Kd.R_reads' HX1.out).2.1, ⟨below_set (below_set HB12.out GEm.out) GEm.out⟩⟩
theorem impl_Meander_pieces.calls (k : Nat) (A0_0 : Option Addr) (c0_0 : Nat) (l0_0 : List Int) (A0_1 : Option Addr) (c0_1 : Nat) (l0_1 : List Int) (a1 : Bool) (r : List S41) (w : World) (hr0_0 : Kd.C (Kd.int .i64) w A0_0 l0_0.length l0_0) (hc0_0 : l0_0.length ≤ c0_0) (hr0_1 : Kd.C (Kd.int .i64) w A0_1 l0_1.length l0_1) (hc0_1 : l0_1.length ≤ c0_1) (h : impl_Meander_pieces.f k l0_0 l0_1 a1 = some r) :
    Calls Try.prog 65 #[.agg #[.slice A0_0 l0_0.length c0_0, .slice A0_1 l0_1.length c0_1], .bool a1] w fun e w' => ∃ v0_ : Value, e = .returned (v0_) ∧ Kd.S k41 41 w' w.heap.size (fun _ => True) v0_ r ∧ Below w.heap.size w w' :=
  (impl_Meander_pieces.callsA k A0_0 c0_0 l0_0 A0_1 c0_1 l0_1 a1 r w hr0_0 hc0_0 hr0_1 hc0_1 h).mono fun _ _ ⟨v, h1, h2, h3⟩ => ⟨v, h1, cm_kA_S h2, h3⟩

end Go.Proofs.Ytnnkjjacpbbigaa.PB
namespace Go.Proofs.Ytnnkjjacpbbigaa.PB
open Go.RowKit Go.Proofs.YtnnkjjacpbbigaaW.PrintWords Go.Proofs.YtnnkjjacpbbigaaW.PrintLast Go.Proofs.YtnnkjjacpbbigaaW.PrintMore
attribute [local go_sem] max2_int min2_int max_two min_two max_three min_three max_four min_four   -- for this text's walks alone

/-! ### impl_Meander_isSimple: function 63 -/
def impl_Meander_isSimple.f (k : Nat) (l0_0 : List Int) (l0_1 : List Int) : Option (Bool) := (impl_Meander_pieces.f k l0_0 l0_1 false).bind fun t268 => (some ((t268.length : Int) == (wrap64 ((l0_0.length : Int) / 2))))
theorem impl_Meander_isSimple.mono : ∀ a0 a1 k, LeO (impl_Meander_isSimple.f k a0 a1) (impl_Meander_isSimple.f (k + 1) a0 a1) := by
  intro a0 a1 k
  unfold impl_Meander_isSimple.f
  repeat' first
      | (with_reducible exact impl_Meander_pieces.mono _ _ _ _)
      | (with_reducible exact LeO.refl _)
      | (with_reducible exact LeO.none _)
      | (with_reducible refine LeO.ite ?_ ?_)
      | (with_reducible refine LeO.bind ?_ (fun _ => ?_))
      | exact impl_Meander_pieces.mono _ _ _ _
      | exact LeO.none _
      | refine LeO.ite ?_ ?_
      | refine LeO.bind ?_ (fun _ => ?_)
def impl_Meander_isSimple.T1 : Bool × List (List Nat × List Nat) := (true, [([], []), ([0], [0]), ([1], [1]), ([], []), ([3], [3]), ([4], [4]), ([5], [5]), ([2, 6], [2, 6]), ([7, 1, 0, 1, 2, 3, 4, 5, 6, 7], [7])])
def impl_Meander_isSimple.B1 : List Nat := [0, 1, 3, 0, 8, 24, 56, 127, 255]
theorem impl_Meander_isSimple.tab1 : rtab .any (opsOf Try.f63 1) = impl_Meander_isSimple.T1 := by kernel_rfl
theorem impl_Meander_isSimple.bits1 : waitsOk impl_Meander_isSimple.T1.2 impl_Meander_isSimple.B1 = true := by kernel_rfl
set_option maxHeartbeats 8000000 in
set_option maxRecDepth 100000 in
theorem impl_Meander_isSimple.calls (k : Nat) (A0_0 : Option Addr) (c0_0 : Nat) (l0_0 : List Int) (A0_1 : Option Addr) (c0_1 : Nat) (l0_1 : List Int) (r : Bool) (w : World) (hr0_0 : Kd.C (Kd.int .i64) w A0_0 l0_0.length l0_0) (hc0_0 : l0_0.length ≤ c0_0) (hr0_1 : Kd.C (Kd.int .i64) w A0_1 l0_1.length l0_1) (hc0_1 : l0_1.length ≤ c0_1) (h : impl_Meander_isSimple.f k l0_0 l0_1 = some r) :
    Calls Try.prog 63 #[.agg #[.slice A0_0 l0_0.length c0_0, .slice A0_1 l0_1.length c0_1]] w fun e w' => e = .returned (.bool r) ∧ Below w.heap.size w w' := by
  have hu41 := Try.underlying41
  have HR0_0 := Aside0.mk hr0_0
  have HC0_0 := Aside0.mk hc0_0
  clear hr0_0 hc0_0
  have HR0_1 := Aside0.mk hr0_1
  have HC0_1 := Aside0.mk hc0_1
  clear hr0_1 hc0_1
  have HB := Aside0.mk (Below.refl w.heap.size w)
  have H : ((impl_Meander_pieces.f k l0_0 l0_1 false).bind fun t268 => (some ((t268.length : Int) == (wrap64 ((l0_0.length : Int) / 2))))) = some r := h
  clear h
  replace H := Option.bind_eq_some_iff.mp H
  obtain ⟨t268, A20, H⟩ := H
  replace H : (some ((t268.length : Int) == (wrap64 ((l0_0.length : Int) / 2)))) = some r := H
  have A2 := Aside0.mk A20
  clear A20
  obtain rfl := Option.some.inj H
  go_enter Try.func63, Try.ntmps63
  try go_wp2_with (first | ((with_reducible refine gate_dst (N := 1) rfl ?_); refine box_event ?hg (N := 1) ?hd (cs := #[.slice A0_0 l0_0.length c0_0, .slice A0_1 l0_1.length c0_1]) (t := 41) ?hr ?_; (case hd => rfl); (case hg => rfl); (case hr => first | (go_simp; done) | (go_simp; rfl)); intro gb267 hg w3 hbox hb; have n0_ := Aside0.mk (below_step (by repeat (first | (with_reducible first | exact HB.out | apply below_alloc | apply pw_below_drewN | apply below_drew1) | exact HB.out)) hb); have n1_ := Aside0.mk (hbox); have n2_ := Aside0.mk ((by rw [hg]; exact (below_size (by repeat (first | (with_reducible first | exact HB.out | apply below_alloc | apply pw_below_drewN | apply below_drew1) | exact HB.out))) : w.heap.size ≤ gb267)); have n3_ := Aside0.mk ((by rw [hg]; exact (below_size (by repeat (first | (with_reducible first | exact HB.out | apply below_alloc | apply pw_below_drewN | apply below_drew1) | exact HB.out))) : w.heap.size ≤ gb267)); clear HB; have HB := n0_; have BK267 := n1_; have GW267 := n2_; have GE267 := n3_; clear n0_ n1_ n2_ n3_; clear hb hbox hg))
  have n0_ := Aside0.mk (blk_drew BK267.out)
  have n1_ := Aside0.mk (below_drew1 HB.out)
  clear BK267
  clear HB
  have BK267 := n0_
  have HB := n1_
  clear n0_ n1_
  refine start_ (n := 9) (S := fun w' => w'.cell? ⟨gb267, 0, none⟩ = some (.slice A0_0 l0_0.length c0_0) ∧ w'.cell? ⟨gb267, 1, none⟩ = some (.slice A0_1 l0_1.length c0_1)) (ds := []) #[false, false, false, false, false, false, false, false, false] (by kernel_rfl) rfl rfl ⟨(blk_cell BK267.out 0).trans rfl, (blk_cell BK267.out 1).trans rfl⟩ (fun hHeld => ?_); refine with_tabW impl_Meander_isSimple.tab1 impl_Meander_isSimple.bits1 (fun HT_ HW_ => ?_)
  generalize w3.drew = w4 at BK267 HB hHeld ⊢
  refine pure_ (i := 3) (N := some 6) (v := ?_) (a' := ?_) #[false, false, false, true, false, false, false, false, false] rfl rfl (any_of HT_.out (by kernel_rfl)) (fun _ _ _ h => h) (Or.inl ⟨by rfl, ?_⟩) ?_ ?_
  rotate_left
  · intro w'
    go_simp
    with_reducible rfl
  rotate_left
  · simp only [Act.put, List.setIfInBounds_toArray, List.set_cons_zero, List.set_cons_succ, i64_w, i32_w]
    rfl
  refine take_ (i := 0) (N := some 3) (v := ?_) (a' := ?_) #[true, false, false, true, false, false, false, false, false] rfl rfl (take_ofW HT_.out HW_.out (by kernel_rfl)) (fun _ _ _ h => h) (Or.inl ⟨by rfl, ?_⟩) hHeld ?_ ?_
  rotate_left
  · rintro w' ⟨s0, s1⟩
    go_simp
    with_reducible rfl
  rotate_left
  · simp only [Act.put, List.setIfInBounds_toArray, List.set_cons_zero, List.set_cons_succ, i64_w, i32_w]
    rfl
  refine take_ (i := 4) (N := some 7) (v := ?_) (a' := ?_) #[true, false, false, true, true, false, false, false, false] rfl rfl (take_ofW HT_.out HW_.out (by kernel_rfl)) (fun _ _ _ h => h) (Or.inl ⟨by rfl, ?_⟩) hHeld ?_ ?_
  rotate_left
  · rintro w' ⟨s0, s1⟩
    go_simp
    with_reducible rfl
  rotate_left
  · simp only [Act.put, List.setIfInBounds_toArray, List.set_cons_zero, List.set_cons_succ, i64_w, i32_w]
    rfl
  refine pure_ (i := 5) (N := some 8) (v := ?_) (a' := ?_) #[true, false, false, true, true, true, false, false, false] rfl rfl (any_of HT_.out (by kernel_rfl)) (fun _ _ _ h => h) (Or.inl ⟨by rfl, ?_⟩) ?_ ?_
  rotate_left
  · intro w'
    go_simp
    with_reducible rfl
  rotate_left
  · simp only [Act.put, List.setIfInBounds_toArray, List.set_cons_zero, List.set_cons_succ, i64_w, i32_w]
    rfl
  refine pure_ (i := 6) (N := some 9) (v := ?_) (a' := ?_) #[true, false, false, true, true, true, true, false, false] rfl rfl (any_of HT_.out (by kernel_rfl)) (fun _ _ _ h => h) (Or.inl ⟨by rfl, ?_⟩) ?_ ?_
  rotate_left
  · intro w'
    go_simp
    with_reducible rfl
  rotate_left
  · simp only [Act.put, List.setIfInBounds_toArray, List.set_cons_zero, List.set_cons_succ, i64_w, i32_w]
    rfl
  refine one_ (i := 1) (N := some 4) #[true, true, false, true, true, true, true, false, false] rfl rfl (one_of HT_.out (by kernel_rfl)) (by decide) (fun K hK => ?_)
  refine goes_ Try.func65 (by kernel_rfl) rfl #[.agg #[.slice A0_0 l0_0.length c0_0, .slice A0_1 l0_1.length c0_1], .bool false] (by rfl) rfl rfl (by (try simp only [List.map_toArray, List.map_cons, List.map_nil]); first | done | rfl | (simp only [List.length_drop, List.length_take]; rfl)) ?_
  with_reducible refine (impl_Meander_pieces.calls k _ _ l0_0 _ _ l0_1 false t268 _ ?side1 ?side2 ?side3 ?side4 A2.out).mono ?_
  (case side1 => repeat (first | exact (Kd.C_below HR0_0.out HB.out) | (with_reducible refine Kd.C_alloc ?_ _) | (with_reducible refine Kd.C_drewN ?_ _) | (with_reducible refine Kd.C_drew ?_)))
  (case side2 => exact HC0_0.out)
  (case side3 => repeat (first | exact (Kd.C_below HR0_1.out HB.out) | (with_reducible refine Kd.C_alloc ?_ _) | (with_reducible refine Kd.C_drewN ?_ _) | (with_reducible refine Kd.C_drew ?_)))
  (case side4 => exact HC0_1.out)
  rintro e w5 ⟨v269, rfl, ho0, hb⟩
  refine ⟨_, rfl, ?_⟩
  have n0_ := Aside0.mk (Kd.S_lower (Kd.S_newB ho0 (g := gb267) (o := .cells #[.slice A0_0 l0_0.length c0_0, .slice A0_1 l0_1.length c0_1] 41 (0, 0)) (by (with_reducible repeat (first | refine blk_drewN ?_ _ | refine blk_drew ?_ | refine blk_alloc ?_ _)); exact BK267.out)) (below_size (by repeat (first | (with_reducible first | exact HB.out | apply below_alloc | apply pw_below_drewN | apply below_drew1 | refine below_set ?_ GE267.out) | exact HB.out))))
  have n1_ := Aside0.mk (blk_below (g := gb267) (o := .cells #[.slice A0_0 l0_0.length c0_0, .slice A0_1 l0_1.length c0_1] 41 (0, 0)) (by (with_reducible repeat (first | refine blk_drewN ?_ _ | refine blk_drew ?_ | refine blk_alloc ?_ _)); exact BK267.out) hb)
  have n2_ := Aside0.mk (below_step (by repeat (first | (with_reducible first | exact HB.out | apply below_alloc | apply pw_below_drewN | apply below_drew1 | refine below_set ?_ GE267.out) | exact HB.out)) hb)
  clear BK267
  clear HB
  have HO270 := n0_
  have BK267 := n1_
  have HB := n2_
  clear n0_ n1_ n2_
  (try clear hb)
  (try clear hb2)
  (try clear hk)
  (try clear hi)
  (try clear ho0)
  obtain ⟨Ao6, co6, eo6⟩ := Kd.S_slice HO270.out
  (first | subst eo6 | (injection eo6 with f1_ f2_ f3_; have f4_ := f1_.symm; have f5_ := f3_.symm; clear f1_ f2_ f3_; subst f4_; subst f5_))
  refine hK.out _ _ ⟨(blk_cell BK267.out 0).trans rfl, (blk_cell BK267.out 1).trans rfl⟩ (fun hHeld => ?_)
  clear hK K
  refine norm_ (a' := ?_) ?_ ?_
  rotate_left
  · show Act.put _ (some 4) _ = _
    simp only [Act.put, List.setIfInBounds_toArray, List.set_cons_zero, List.set_cons_succ, i64_w, i32_w]
    rfl
  refine pure_ (i := 2) (N := some 5) (v := ?_) (a' := ?_) #[true, true, true, true, true, true, true, false, false] rfl rfl (any_of HT_.out (by kernel_rfl)) (fun _ _ _ h => h) (Or.inl ⟨by rfl, ?_⟩) ?_ ?_
  rotate_left
  · intro w'
    go_simp
    with_reducible rfl
  rotate_left
  · simp only [Act.put, List.setIfInBounds_toArray, List.set_cons_zero, List.set_cons_succ, i64_w, i32_w]
    rfl
  refine pure_ (i := 7) (N := some 10) (v := ?_) (a' := ?_) #[true, true, true, true, true, true, true, true, false] rfl rfl (any_of HT_.out (by kernel_rfl)) (fun _ _ _ h => h) (Or.inl ⟨by rfl, ?_⟩) ?_ ?_
  rotate_left
  · intro w'
    go_simp
    with_reducible rfl
  rotate_left
  · simp only [Act.put, List.setIfInBounds_toArray, List.set_cons_zero, List.set_cons_succ, i64_w, i32_w]
    rfl
  refine pure_ (i := 8) (N := some 2) (v := ?_) (a' := ?_) #[true, true, true, true, true, true, true, true, true] rfl rfl (any_of HT_.out (by kernel_rfl)) (fun _ _ _ h => h) (Or.inl ⟨by rfl, ?_⟩) ?_ ?_
  rotate_left
  · intro w'
    go_simp
    with_reducible rfl
  rotate_left
  · simp only [Act.put, List.setIfInBounds_toArray, List.set_cons_zero, List.set_cons_succ, i64_w, i32_w]
    rfl
  refine done_ (done_of HT_.out (by kernel_rfl)) ?_
  try go_wp2
  go_ret
  exact ⟨by first | rfl | (simp [errW_none, errW_some] <;> rfl) | (simp [*, errW_none, errW_some] <;> rfl), by repeat (first | (with_reducible first | exact HB.out | apply below_alloc | apply pw_below_drewN | apply below_drew1 | refine below_set ?_ GE267.out) | exact HB.out)⟩

end Go.Proofs.Ytnnkjjacpbbigaa.PB
namespace Go.Proofs.Ytnnkjjacpbbigaa.PB
open Go.RowKit Go.Proofs.YtnnkjjacpbbigaaW.PrintWords Go.Proofs.YtnnkjjacpbbigaaW.PrintLast Go.Proofs.YtnnkjjacpbbigaaW.PrintMore
attribute [local go_sem] max2_int min2_int max_two min_two max_three min_three max_four min_four   -- for this text's walks alone

/-! ### impl_CountSimple_1: function 62 -/
def impl_CountSimple_1.f (k : Nat) (l0_0 : List Int) (l0_1 : List Int) : Option (Bool) := (impl_Meander_isSimple.f k l0_0 l0_1).bind fun t272 => (some (!t272))
theorem impl_CountSimple_1.mono : ∀ a0 a1 k, LeO (impl_CountSimple_1.f k a0 a1) (impl_CountSimple_1.f (k + 1) a0 a1) := by
  intro a0 a1 k
  unfold impl_CountSimple_1.f
  repeat' first
      | (with_reducible exact impl_Meander_isSimple.mono _ _ _)
      | (with_reducible exact LeO.refl _)
      | (with_reducible exact LeO.none _)
      | (with_reducible refine LeO.ite ?_ ?_)
      | (with_reducible refine LeO.bind ?_ (fun _ => ?_))
      | exact impl_Meander_isSimple.mono _ _ _
      | exact LeO.none _
      | refine LeO.ite ?_ ?_
      | refine LeO.bind ?_ (fun _ => ?_)
set_option maxHeartbeats 8000000 in
set_option maxRecDepth 100000 in
theorem impl_CountSimple_1.calls (k : Nat) (A0_0 : Option Addr) (c0_0 : Nat) (l0_0 : List Int) (A0_1 : Option Addr) (c0_1 : Nat) (l0_1 : List Int) (r : Bool) (w : World) (hr0_0 : Kd.C (Kd.int .i64) w A0_0 l0_0.length l0_0) (hc0_0 : l0_0.length ≤ c0_0) (hr0_1 : Kd.C (Kd.int .i64) w A0_1 l0_1.length l0_1) (hc0_1 : l0_1.length ≤ c0_1) (h : impl_CountSimple_1.f k l0_0 l0_1 = some r) :
    Calls Try.prog 62 #[.agg #[.slice A0_0 l0_0.length c0_0, .slice A0_1 l0_1.length c0_1]] w fun e w' => e = .returned (.bool r) ∧ Below w.heap.size w w' := by
  have hu41 := Try.underlying41
  have HR0_0 := Aside0.mk hr0_0
  have HC0_0 := Aside0.mk hc0_0
  clear hr0_0 hc0_0
  have HR0_1 := Aside0.mk hr0_1
  have HC0_1 := Aside0.mk hc0_1
  clear hr0_1 hc0_1
  have HB := Aside0.mk (Below.refl w.heap.size w)
  have H : ((impl_Meander_isSimple.f k l0_0 l0_1).bind fun t272 => (some (!t272))) = some r := h
  clear h
  replace H := Option.bind_eq_some_iff.mp H
  obtain ⟨t272, A20, H⟩ := H
  replace H : (some (!t272)) = some r := H
  have A2 := Aside0.mk A20
  clear A20
  obtain rfl := Option.some.inj H
  go_enter Try.func62, Try.ntmps62
  go_wp2_with (first | ((with_reducible refine gate_dst (N := 1) rfl ?_); refine box_event ?hg (N := 1) ?hd (cs := #[.slice A0_0 l0_0.length c0_0, .slice A0_1 l0_1.length c0_1]) (t := 41) ?hr ?_; (case hd => rfl); (case hg => rfl); (case hr => first | (go_simp; done) | (go_simp; rfl)); intro gb271 hg w3 hbox hb; have n0_ := Aside0.mk (below_step (by repeat (first | (with_reducible first | exact HB.out | apply below_alloc | apply pw_below_drewN | apply below_drew1) | exact HB.out)) hb); have n1_ := Aside0.mk (hbox); have n2_ := Aside0.mk ((by rw [hg]; exact (below_size (by repeat (first | (with_reducible first | exact HB.out | apply below_alloc | apply pw_below_drewN | apply below_drew1) | exact HB.out))) : w.heap.size ≤ gb271)); have n3_ := Aside0.mk ((by rw [hg]; exact (below_size (by repeat (first | (with_reducible first | exact HB.out | apply below_alloc | apply pw_below_drewN | apply below_drew1) | exact HB.out))) : w.heap.size ≤ gb271)); clear HB; have HB := n0_; have BK271 := n1_; have GW271 := n2_; have GE271 := n3_; clear n0_ n1_ n2_ n3_; clear hb hbox hg; have hcz4_0 : w3.cell? ⟨gb271, 0, none⟩ = some (.slice A0_0 l0_0.length c0_0) := (blk_cell BK271.out 0).trans rfl; have hcz4_1 : w3.cell? ⟨gb271, 1, none⟩ = some (.slice A0_1 l0_1.length c0_1) := (blk_cell BK271.out 1).trans rfl; have hfz4_0 := blk_frozen BK271.out 0; have hfz4_1 := blk_frozen BK271.out 1) | ((with_reducible refine gate_callee (f := 63) rfl ?_); refine goesL_ (some 4) rfl rfl Try.func63 (by kernel_rfl) rfl #[.agg #[.slice A0_0 l0_0.length c0_0, .slice A0_1 l0_1.length c0_1]] rfl (by (try simp only [List.map_toArray, List.map_cons, List.map_nil]); first | done | rfl | (simp only [List.length_drop, List.length_take]; rfl)) ?_; (with_reducible refine (impl_Meander_isSimple.calls k _ _ l0_0 _ _ l0_1 t272 _ ?side1 ?side2 ?side3 ?side4 A2.out).mono ?_); (case side1 => repeat (first | exact (Kd.C_below HR0_0.out HB.out) | (with_reducible refine Kd.C_alloc ?_ _) | (with_reducible refine Kd.C_drewN ?_ _) | (with_reducible refine Kd.C_drew ?_))); (case side2 => exact HC0_0.out); (case side3 => repeat (first | exact (Kd.C_below HR0_1.out HB.out) | (with_reducible refine Kd.C_alloc ?_ _) | (with_reducible refine Kd.C_drewN ?_ _) | (with_reducible refine Kd.C_drew ?_))); (case side4 => exact HC0_1.out); rintro e w5 ⟨rfl, hb⟩; refine ⟨_, rfl, ?_⟩; have n0_ := Aside0.mk (blk_below (g := gb271) (o := .cells #[.slice A0_0 l0_0.length c0_0, .slice A0_1 l0_1.length c0_1] 41 (0, 0)) (by (with_reducible repeat (first | refine blk_drewN ?_ _ | refine blk_drew ?_ | refine blk_alloc ?_ _)); exact BK271.out) hb); have n1_ := Aside0.mk (below_step (by repeat (first | (with_reducible first | exact HB.out | apply below_alloc | apply pw_below_drewN | apply below_drew1 | refine below_set ?_ GE271.out) | exact HB.out)) hb); clear BK271; clear HB; have BK271 := n0_; have HB := n1_; clear n0_ n1_; (try clear hb); (try clear hb2); (try clear hk); (try clear hi)))
  go_ret
  exact ⟨by first | rfl | (simp [errW_none, errW_some] <;> rfl) | (simp [*, errW_none, errW_some] <;> rfl), by repeat (first | (with_reducible first | exact HB.out | apply below_alloc | apply pw_below_drewN | apply below_drew1 | refine below_set ?_ GE271.out) | exact HB.out)⟩

end Go.Proofs.Ytnnkjjacpbbigaa.PB
namespace Go.Proofs.Ytnnkjjacpbbigaa.PB
open Go.RowKit Go.Proofs.YtnnkjjacpbbigaaW.PrintWords Go.Proofs.YtnnkjjacpbbigaaW.PrintLast Go.Proofs.YtnnkjjacpbbigaaW.PrintMore
attribute [local go_sem] max2_int min2_int max_two min_two max_three min_three max_four min_four   -- for this text's walks alone

/-! ### impl_CountSimple: function 15 -/
def impl_CountSimple.f (k : Nat) (a0 : Int) : Option (Int × Bool) := (impl_in.f a0 1 4).bind fun b => if b = true then ((impl_pairs.f k a0).bind fun xs => (cm_fil (fun x => impl_CountSimple_1.f k x.f0 x.f1) xs).bind fun r => some ((r.length : Int), true)) else some (0, false)
theorem impl_CountSimple.mono : ∀ a0 k, LeO (impl_CountSimple.f k a0) (impl_CountSimple.f (k + 1) a0) := fun a0 k => LeO.bind (LeO.refl _) (fun _ => LeO.ite (LeO.bind (impl_pairs.mono a0 k) (fun xs => LeO.bind (cm_fil_le (fun x => impl_CountSimple_1.mono x.f0 x.f1 k) xs) (fun _ => LeO.refl _))) (LeO.refl _))
set_option maxHeartbeats 8000000 in
set_option maxRecDepth 100000 in
theorem impl_CountSimple.calls (k : Nat) (a0 : Int) (r1 : Int) (r2 : Bool) (w : World) (h : impl_CountSimple.f k a0 = some (r1, r2)) :
    Calls Try.prog 15 #[.int .i64 a0] w fun e w' => e = .returned (.tuple #[.int .i64 r1, .bool r2]) ∧ Below w.heap.size w w' := by
  obtain ⟨b, B1, H⟩ := Option.bind_eq_some_iff.mp h
  have HB1 := Aside0.mk B1
  clear h B1
  by_cases hb : b = true
  · subst hb
    rw [if_pos rfl] at H
    obtain ⟨xs, A1, H1⟩ := Option.bind_eq_some_iff.mp H
    obtain ⟨q, A2, H2⟩ := Option.bind_eq_some_iff.mp H1
    obtain ⟨hall, hr⟩ := cm_fil_some A2
    simp only [Option.some.injEq, Prod.mk.injEq] at H2
    obtain ⟨e1, e2⟩ := H2
    subst e2
    have HA1 := Aside0.mk A1
    have HALL := Aside0.mk hall
    have HR := Aside0.mk hr
    have HE1 := Aside0.mk e1
    clear H A1 H1 A2 hall hr e1
    go_enter Try.func15, Try.ntmps15
    go_wp2_with fail
    refine (impl_in.calls a0 1 4 true _ HB1.out).mono ?_
    rintro e w0 ⟨rfl, hd⟩
    have HB0 := Aside0.mk hd.below
    clear hd
    dsimp only
    go_wp2_with fail
    refine (impl_pairs.callsA k a0 xs _ HA1.out).mono ?_
    rintro e w1 ⟨v, rfl, ho, hb⟩
    have HO := Aside0.mk ho
    have HB := Aside0.mk hb
    clear ho hb
    dsimp only
    go_wp2_with fail
    refine (impl_Meander_60.callsD (fun x => (impl_CountSimple_1.f k x.f0 x.f1).getD false) 62 #[] w0.heap.size _ v xs w0 w1 HB.out HB.out.size HO.out (enters_ Try.func62 (by decide) (by rfl)) (fun W _ x hx A0 c0 A1 c1 g0 h0 g1 h1 => by
      obtain ⟨b, hb1, hb2⟩ := HALL.out x hx
      rw [hb2]
      exact impl_CountSimple_1.calls k A0 c0 x.f0 A1 c1 x.f1 b W g0 h0 g1 h1 hb1)).mono ?_
    rintro e w2 ⟨v', rfl, ho, hb, _⟩
    have HL := Aside0.mk (Kd.S_reads ho)
    obtain ⟨A', c', rfl⟩ := Kd.S_slice ho
    have HB2 := Aside0.mk (below_step HB0.out hb)
    clear ho hb
    dsimp only
    go_wp2
    refine bodyPost_ret (v := .tuple #[.int .i64 r1, .bool true]) ?_ rfl ⟨rfl, HB2.out⟩
    rw [← HE1.out, HR.out]
    simp [results, Try.results15, go_sem]
  · have hb' := Bool.eq_false_iff.2 hb
    subst hb'
    rw [if_neg (by simp)] at H
    simp only [Option.some.injEq, Prod.mk.injEq] at H
    obtain ⟨e1, e2⟩ := H
    subst e1
    subst e2
    clear hb
    go_enter Try.func15, Try.ntmps15
    go_wp2_with fail
    refine (impl_in.calls a0 1 4 false _ HB1.out).mono ?_
    rintro e w0 ⟨rfl, hd⟩
    have HB0 := Aside0.mk hd.below
    clear hd
    dsimp only
    go_wp2
    refine bodyPost_ret (v := .tuple #[.int .i64 0, .bool false]) ?_ rfl ⟨rfl, HB0.out⟩
    simp [results, Try.results15, go_sem]

end Go.Proofs.Ytnnkjjacpbbigaa.PB
namespace Go.Proofs.Ytnnkjjacpbbigaa.PB
open Go.RowKit Go.Proofs.YtnnkjjacpbbigaaW.PrintWords Go.Proofs.YtnnkjjacpbbigaaW.PrintLast Go.Proofs.YtnnkjjacpbbigaaW.PrintMore
attribute [local go_sem] max2_int min2_int max_two min_two max_three min_three max_four min_four   -- for this text's walks alone

/-! ### laws_FnExactCountSimple: function 4 -/
def laws_FnExactCountSimple.f (k : Nat) (a0 : Int) : Option (Bool) := (spec_CountSimple.f k a0).bind fun bt273 => ((impl_CountSimple.f k a0).bind fun bt275 => (if bt275.1 = bt273.1 then (if (bt275.2 != bt273.2) = true then (some false) else (some true)) else (some false)))
theorem laws_FnExactCountSimple.mono : ∀ a0 k, LeO (laws_FnExactCountSimple.f k a0) (laws_FnExactCountSimple.f (k + 1) a0) := by
  intro a0 k
  unfold laws_FnExactCountSimple.f
  repeat' first
      | (with_reducible exact impl_CountSimple.mono _ _)
      | (with_reducible exact spec_CountSimple.mono _ _)
      | (with_reducible exact LeO.refl _)
      | (with_reducible exact LeO.none _)
      | (with_reducible refine LeO.ite ?_ ?_)
      | (with_reducible refine LeO.bind ?_ (fun _ => ?_))
      | exact impl_CountSimple.mono _ _
      | exact spec_CountSimple.mono _ _
      | exact LeO.none _
      | refine LeO.ite ?_ ?_
      | refine LeO.bind ?_ (fun _ => ?_)
set_option maxHeartbeats 8000000 in
set_option maxRecDepth 100000 in
theorem laws_FnExactCountSimple.calls (k : Nat) (a0 : Int) (r : Bool) (w : World) (h : laws_FnExactCountSimple.f k a0 = some r) :
    Calls Try.prog 4 #[.int .i64 a0] w fun e w' => e = .returned (.bool r) ∧ Below w.heap.size w w' := by
  have HB := Aside0.mk (Below.refl w.heap.size w)
  have H : ((spec_CountSimple.f k a0).bind fun bt273 => ((impl_CountSimple.f k a0).bind fun bt275 => (if bt275.1 = bt273.1 then (if (bt275.2 != bt273.2) = true then (some false) else (some true)) else (some false)))) = some r := h
  clear h
  replace H := Option.bind_eq_some_iff.mp H
  obtain ⟨⟨t273, t274⟩, A20, H⟩ := H
  replace H : ((impl_CountSimple.f k a0).bind fun bt275 => (if bt275.1 = t273 then (if (bt275.2 != t274) = true then (some false) else (some true)) else (some false))) = some r := H
  have A2 := Aside0.mk A20
  clear A20
  replace H := Option.bind_eq_some_iff.mp H
  obtain ⟨⟨t275, t276⟩, A30, H⟩ := H
  replace H : (if t275 = t273 then (if (t276 != t274) = true then (some false) else (some true)) else (some false)) = some r := H
  have A3 := Aside0.mk A30
  clear A30
  by_cases c4 : t275 = t273
  · rw [if_pos c4] at H
    have c4b0 : (t275 == t273) = true := beq_iff_eq.mpr c4
    have c4b1 : (t275 != t273) = false := bne_eq_false_iff_eq.mpr c4
    clear c4
    by_cases c5 : (t276 != t274) = true
    · rw [if_pos c5] at H
      have c5b0 : (t276 != t274) = true := c5
      (try (have c5b1 : decide (t276 = t274) = false := by simpa using c5))
      (try (have c5b2 : (t276 == t274) = false := by simpa using c5))
      (try (have c5b3 : ¬ (t276 = t274) := by simpa using c5))
      clear c5
      obtain rfl := Option.some.inj H
      go_enter Try.func4, Try.ntmps4
      go_wp2_with (first | ((with_reducible refine gate_callee (f := 14) rfl ?_); refine goesL_ (some 9) rfl rfl Try.func14 (by kernel_rfl) rfl #[.int .i64 a0] rfl (by (try simp only [List.map_toArray, List.map_cons, List.map_nil]); first | done | rfl | (simp only [List.length_drop, List.length_take]; rfl)) ?_; (with_reducible refine (spec_CountSimple.calls k a0 t273 t274 _ A2.out).mono ?_); rintro e w6 ⟨rfl, hb⟩; refine ⟨_, rfl, ?_⟩; have n0_ := Aside0.mk (below_step (by repeat (first | (with_reducible first | exact HB.out | apply below_alloc | apply pw_below_drewN | apply below_drew1) | exact HB.out)) hb); clear HB; have HB := n0_; clear n0_; (try clear hb); (try clear hb2); (try clear hk); (try clear hi)) | ((with_reducible refine gate_callee (f := 15) rfl ?_); refine goesL_ (some 14) rfl rfl Try.func15 (by kernel_rfl) rfl #[.int .i64 a0] rfl (by (try simp only [List.map_toArray, List.map_cons, List.map_nil]); first | done | rfl | (simp only [List.length_drop, List.length_take]; rfl)) ?_; (with_reducible refine (impl_CountSimple.calls k a0 t275 t276 _ A3.out).mono ?_); rintro e w7 ⟨rfl, hb⟩; refine ⟨_, rfl, ?_⟩; have n0_ := Aside0.mk (below_step (by repeat (first | (with_reducible first | exact HB.out | apply below_alloc | apply pw_below_drewN | apply below_drew1) | exact HB.out)) hb); clear HB; have HB := n0_; clear n0_; (try clear hb); (try clear hb2); (try clear hk); (try clear hi)))
      go_ret
      exact ⟨by first | rfl | (simp [errW_none, errW_some] <;> rfl) | (simp [*, errW_none, errW_some] <;> rfl), by repeat (first | (with_reducible first | exact HB.out | apply below_alloc | apply pw_below_drewN | apply below_drew1) | exact HB.out)⟩
    · rw [if_neg c5] at H
      have c5b0 : (t276 != t274) = false := by simpa using c5
      (try (have c5b1 : decide (t276 = t274) = true := by simpa using c5))
      (try (have c5b2 : (t276 == t274) = true := by simpa using c5))
      clear c5
      obtain rfl := Option.some.inj H
      go_enter Try.func4, Try.ntmps4
      go_wp2_with (first | ((with_reducible refine gate_callee (f := 14) rfl ?_); refine goesL_ (some 9) rfl rfl Try.func14 (by kernel_rfl) rfl #[.int .i64 a0] rfl (by (try simp only [List.map_toArray, List.map_cons, List.map_nil]); first | done | rfl | (simp only [List.length_drop, List.length_take]; rfl)) ?_; (with_reducible refine (spec_CountSimple.calls k a0 t273 t274 _ A2.out).mono ?_); rintro e w8 ⟨rfl, hb⟩; refine ⟨_, rfl, ?_⟩; have n0_ := Aside0.mk (below_step (by repeat (first | (with_reducible first | exact HB.out | apply below_alloc | apply pw_below_drewN | apply below_drew1) | exact HB.out)) hb); clear HB; have HB := n0_; clear n0_; (try clear hb); (try clear hb2); (try clear hk); (try clear hi)) | ((with_reducible refine gate_callee (f := 15) rfl ?_); refine goesL_ (some 14) rfl rfl Try.func15 (by kernel_rfl) rfl #[.int .i64 a0] rfl (by (try simp only [List.map_toArray, List.map_cons, List.map_nil]); first | done | rfl | (simp only [List.length_drop, List.length_take]; rfl)) ?_; (with_reducible refine (impl_CountSimple.calls k a0 t275 t276 _ A3.out).mono ?_); rintro e w9 ⟨rfl, hb⟩; refine ⟨_, rfl, ?_⟩; have n0_ := Aside0.mk (below_step (by repeat (first | (with_reducible first | exact HB.out | apply below_alloc | apply pw_below_drewN | apply below_drew1) | exact HB.out)) hb); clear HB; have HB := n0_; clear n0_; (try clear hb); (try clear hb2); (try clear hk); (try clear hi)))
      go_ret
      exact ⟨by first | rfl | (simp [errW_none, errW_some] <;> rfl) | (simp [*, errW_none, errW_some] <;> rfl), by repeat (first | (with_reducible first | exact HB.out | apply below_alloc | apply pw_below_drewN | apply below_drew1) | exact HB.out)⟩
  · rw [if_neg c4] at H
    have c4b0 : (t275 == t273) = false := beq_eq_false_iff_ne.mpr c4
    have c4b1 : (t275 != t273) = true := bne_iff_ne.mpr c4
    obtain rfl := Option.some.inj H
    go_enter Try.func4, Try.ntmps4
    go_wp2_with (first | ((with_reducible refine gate_callee (f := 14) rfl ?_); refine goesL_ (some 9) rfl rfl Try.func14 (by kernel_rfl) rfl #[.int .i64 a0] rfl (by (try simp only [List.map_toArray, List.map_cons, List.map_nil]); first | done | rfl | (simp only [List.length_drop, List.length_take]; rfl)) ?_; (with_reducible refine (spec_CountSimple.calls k a0 t273 t274 _ A2.out).mono ?_); rintro e w10 ⟨rfl, hb⟩; refine ⟨_, rfl, ?_⟩; have n0_ := Aside0.mk (below_step (by repeat (first | (with_reducible first | exact HB.out | apply below_alloc | apply pw_below_drewN | apply below_drew1) | exact HB.out)) hb); clear HB; have HB := n0_; clear n0_; (try clear hb); (try clear hb2); (try clear hk); (try clear hi)) | ((with_reducible refine gate_callee (f := 15) rfl ?_); refine goesL_ (some 14) rfl rfl Try.func15 (by kernel_rfl) rfl #[.int .i64 a0] rfl (by (try simp only [List.map_toArray, List.map_cons, List.map_nil]); first | done | rfl | (simp only [List.length_drop, List.length_take]; rfl)) ?_; (with_reducible refine (impl_CountSimple.calls k a0 t275 t276 _ A3.out).mono ?_); rintro e w11 ⟨rfl, hb⟩; refine ⟨_, rfl, ?_⟩; have n0_ := Aside0.mk (below_step (by repeat (first | (with_reducible first | exact HB.out | apply below_alloc | apply pw_below_drewN | apply below_drew1) | exact HB.out)) hb); clear HB; have HB := n0_; clear n0_; (try clear hb); (try clear hb2); (try clear hk); (try clear hi)))
    go_ret
    exact ⟨by first | rfl | (simp [errW_none, errW_some] <;> rfl) | (simp [*, errW_none, errW_some] <;> rfl), by repeat (first | (with_reducible first | exact HB.out | apply below_alloc | apply pw_below_drewN | apply below_drew1) | exact HB.out)⟩

/-- THE ONE PURE STATEMENT of laws_FnExactCountSimple: yours. -/
def laws_FnExactCountSimple.Pure : Prop := ∀ (a0 : Int), (Lit.int .i64 a0).wf = true → ∃ k, laws_FnExactCountSimple.f k a0 = some true
theorem laws_FnExactCountSimple.walk (P : laws_FnExactCountSimple.Pure) (a0 : Int) (w : World) (w0 : (Lit.int .i64 a0).wf = true) :
    Calls Try.prog 4 #[.int .i64 a0] w fun e w' => e = .returned (.bool true) ∧ Below w.heap.size w w' := by
  obtain ⟨k, h⟩ := P a0 w0
  refine (laws_FnExactCountSimple.calls k a0 true w h).mono ?_
  rintro e w' ⟨rfl, hd⟩
  exact ⟨rfl, hd⟩

end Go.Proofs.Ytnnkjjacpbbigaa.PB
