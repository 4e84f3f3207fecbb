-- printed by wip/tools/pp.py and joined by wip/tools/merge.py (the session's own call of the kit's printer, with contracts proved by hand)
import Derived.Test.YtnnkjjacpbbigaaProg
import Derived.Below
import Derived.Deep.Draws
import Derived.Deep.AppendLies
import Derived.Maps.AppendAt
import Derived.OwnWalk
import Derived.Laws.BytesArg
import Derived.Laws.MakeOwn
import Derived.Laws.OwnMore
import Derived.Deep.OwnRows
import Derived.Tactics
import Derived.Lib.ConvBytes
import Derived.Laws.Slices
import Derived.WalkKit
import Derived.KernelRfl
import Derived.RowKit3
import Derived.Deep.LoopGhost
import Derived.Deep.QuietTactic
import Derived.BigQuiet
import Derived.WideLaws
import Derived.Deep.DeepCutAuto
import Derived.Deep.CutBlock
import Derived.Deep.RegionHeld3
import Derived.Laws.Rows
import Derived.Lib.AppendStr
import Derived.ArgAppend
import Derived.Laws.IdiomCopy
import Derived.OrdersHeld
import Derived.Laws.BitsLemmas
import Derived.RowKit
import Derived.Test.YtnnkjjacpbbigaaWWords
import Derived.Test.YtnnkjjacpbbigaaWLast
import Derived.Test.YtnnkjjacpbbigaaWTab
import Derived.Test.YtnnkjjacpbbigaaWFour
import Derived.Test.YtnnkjjacpbbigaaWQPut
import Derived.Test.YtnnkjjacpbbigaaWApart
import Derived.Test.YtnnkjjacpbbigaaWArr
import Derived.Test.YtnnkjjacpbbigaaWZeros
import Derived.Test.YtnnkjjacpbbigaaWFoot
import Derived.Test.YtnnkjjacpbbigaaWKept
import Derived.Test.YtnnkjjacpbbigaaWShare
import Derived.Test.YtnnkjjacpbbigaaWN
import Derived.Test.YtnnkjjacpbbigaaWFootNe
import Derived.Test.YtnnkjjacpbbigaaWAt
import Derived.Test.YtnnkjjacpbbigaaWEqStruct
import Derived.Test.YtnnkjjacpbbigaaWRepsOne
import Derived.Test.YtnnkjjacpbbigaaWInv
import Derived.Test.YtnnkjjacpbbigaaWInvWords
import Derived.Test.YtnnkjjacpbbigaaWGuard
import Derived.Test.YtnnkjjacpbbigaaWNEv
import Derived.Test.YtnnkjjacpbbigaaWMore
import Derived.WalkSpells
import Derived.OneCell
import Derived.Lib.SliceRun
import Derived.Shelf.SlSortCmp.Whole1
import Derived.Sort.OwnSortedInts
import Derived.Shelf.SlSortCmp.NoneTotal
set_option linter.unusedVariables false
set_option linter.unusedSimpArgs false
namespace Go.Proofs.Ytnnkjjacpbbigaa.PB
open Go.RowKit Go.Proofs.YtnnkjjacpbbigaaW.PrintWords Go.Proofs.YtnnkjjacpbbigaaW.PrintLast Go.Proofs.YtnnkjjacpbbigaaW.PrintMore
attribute [local go_sem] max2_int min2_int max_two min_two max_three min_three max_four min_four   -- for this text's walks alone



def errW : Option Int → Value
  | none => .nilIface
  | some c => .iface 0 (.int .i64 c)
theorem errW_none : errW none = .nilIface := rfl
theorem errW_some (c : Int) : errW (some c) = .iface 0 (.int .i64 c) := rfl

theorem info3 : (Try.prog.info? 3).map (fun i => (i.zero, i.size, i.bytes)) = some (some (.int .i64 0), 1, 8) := by kernel_rfl
theorem info30 : (Try.prog.info? 30).map (fun i => (i.zero, i.size, i.bytes)) = some (some (.slice none 0 0), 1, 24) := by kernel_rfl
theorem info41 : (Try.prog.info? 41).map (fun i => (i.zero, i.size, i.bytes)) = some (some (.agg #[(.slice none 0 0), (.slice none 0 0)]), 2, 48) := by kernel_rfl
theorem info76 : (Try.prog.info? 76).map (fun i => (i.zero, i.size, i.bytes)) = some (some (.slice none 0 0), 1, 24) := by kernel_rfl
-- the values' own types
def rd_L1 (xs : List (List Int)) (i : Int) : (List Int) := xs.getD i.toNat ([] : List Int)
theorem at_L1 {w : World} {A : Option Addr} {n : Nat} {xs : List (List Int)} (h : Kd.C (Kd.slice 3 (Kd.int .i64)) w A n xs) (i : Int) (h0 : 0 ≤ i) (h1 : i < n) : ∃ ad A0 c0, A = some ad ∧ w.cell? (ad.add i.toNat) = some (.slice A0 (rd_L1 xs i).length c0) ∧ (rd_L1 xs i).length ≤ c0 ∧ (Kd.int .i64).C w A0 (rd_L1 xs i).length (rd_L1 xs i) := by
  obtain ⟨ad, c, e, _, hK, hc0⟩ := Kd.C_get h ([] : List Int) i h0 h1
  have hc : ∀ j u, c[j]? = some u → w.cell? (ad.add (i.toNat * 1 + j)) = some u := hc0
  obtain ⟨A0, c0, rfl, l0, g0⟩ := hK
  exact ⟨ad, A0, c0, e, by have hq := hc 0 _ rfl; rwa [Nat.mul_one, Nat.add_zero] at hq, l0, g0⟩

/-! #### struct type 41 -/
structure S41 where
  f0 : (List Int)
  f1 : (List Int)
def z41 : S41 := ⟨([] : List Int), ([] : List Int)⟩
def k41 : Kd S41 := Kd.iso (Kd.pair (Kd.slice 3 (Kd.int .i64)) (Kd.slice 3 (Kd.int .i64))) (fun x : S41 => (x.f0, x.f1))
theorem k41_heap : Kd.Heap k41 := Kd.heap_iso _ (Kd.heap_pair (Kd.heap_slice 3 (Kd.heap_int .i64)) (Kd.heap_slice 3 (Kd.heap_int .i64)))
theorem k41_open {w : World} {x : S41} {cs : List Value} (h : k41.K w x cs) : ∃ A0 c0 A1 c1, cs = [.slice A0 x.f0.length c0, .slice A1 x.f1.length c1] ∧ x.f0.length ≤ c0 ∧ (Kd.int .i64).C w A0 x.f0.length x.f0 ∧ x.f1.length ≤ c1 ∧ (Kd.int .i64).C w A1 x.f1.length x.f1 := by
  obtain ⟨_, _, rfl, ⟨A0, c0, rfl, l0, g0⟩, ⟨A1, c1, rfl, l1, g1⟩⟩ := h
  exact ⟨A0, c0, A1, c1, rfl, l0, g0, l1, g1⟩
theorem k41_openM {w : World} {base : Nat} {ok : Nat → Prop} {x : S41} {cs : List Value} (h : k41.M w base ok x cs) : ∃ v0 v1, cs = [v0, v1] ∧ (Kd.int .i64).R 3 w base ok v0 x.f0 ∧ (Kd.int .i64).R 3 w base ok v1 x.f1 := by
  obtain ⟨_, _, rfl, ⟨v0, rfl, g0⟩, ⟨v1, rfl, g1⟩⟩ := h
  exact ⟨v0, v1, rfl, g0, g1⟩
theorem k41_mk (w : World) (x : S41) {A0 : Option Addr} {c0 : Nat} (l0 : x.f0.length ≤ c0) (g0 : (Kd.int .i64).C w A0 x.f0.length x.f0) {A1 : Option Addr} {c1 : Nat} (l1 : x.f1.length ≤ c1) (g1 : (Kd.int .i64).C w A1 x.f1.length x.f1) : k41.K w x [.slice A0 x.f0.length c0, .slice A1 x.f1.length c1] := ⟨[.slice A0 x.f0.length c0], [.slice A1 x.f1.length c1], rfl, ⟨A0, c0, rfl, l0, g0⟩, ⟨A1, c1, rfl, l1, g1⟩⟩
theorem k41_mkM (w : World) (base : Nat) (ok : Nat → Prop) (x : S41) {v0 : Value} (g0 : (Kd.int .i64).R 3 w base ok v0 x.f0) {v1 : Value} (g1 : (Kd.int .i64).R 3 w base ok v1 x.f1) : k41.M w base ok x [v0, v1] := ⟨[v0], [v1], rfl, ⟨v0, rfl, g0⟩, ⟨v1, rfl, g1⟩⟩
theorem k41_openF {W : World} {ok : Nat → Prop} {x : S41} {cs : List Value} (h : Kd.FK k41 W ok x cs) : ∃ A0 c0 A1 c1, cs = [.slice A0 x.f0.length c0, .slice A1 x.f1.length c1] ∧ x.f0.length ≤ c0 ∧ Kd.F (Kd.int .i64) W ok A0 x.f0.length x.f0 ∧ x.f1.length ≤ c1 ∧ Kd.F (Kd.int .i64) W ok A1 x.f1.length x.f1 := by
  obtain ⟨A0, c0, A1, c1, rfl, l0, _, l1, _⟩ := k41_open (Kd.FK_now h)
  exact ⟨A0, c0, A1, c1, rfl, l0, (fun W' hW => by obtain ⟨A0_, c0_, A1_, c1_, he, l0_, g0_, l1_, g1_⟩ := k41_open (h W' hW); injection (Option.some.inj (show some (Value.slice A0 x.f0.length c0) = some (Value.slice A0_ x.f0.length c0_) from congrArg (fun l => l[0]?) he)) with ha_ _ _; rw [ha_]; exact g0_), l1, (fun W' hW => by obtain ⟨A0_, c0_, A1_, c1_, he, l0_, g0_, l1_, g1_⟩ := k41_open (h W' hW); injection (Option.some.inj (show some (Value.slice A1 x.f1.length c1) = some (Value.slice A1_ x.f1.length c1_) from congrArg (fun l => l[1]?) he)) with ha_ _ _; rw [ha_]; exact g1_)⟩
theorem k41_mkF (W : World) (ok : Nat → Prop) (x : S41) {A0 : Option Addr} {c0 : Nat} (l0 : x.f0.length ≤ c0) (g0 : Kd.F (Kd.int .i64) W ok A0 x.f0.length x.f0) {A1 : Option Addr} {c1 : Nat} (l1 : x.f1.length ≤ c1) (g1 : Kd.F (Kd.int .i64) W ok A1 x.f1.length x.f1) : Kd.FK k41 W ok x [.slice A0 x.f0.length c0, .slice A1 x.f1.length c1] := fun W2 hW => k41_mk W2 x l0 (g0 W2 hW) l1 (g1 W2 hW)
def rd_T41 (xs : List S41) (i : Int) : S41 := xs.getD i.toNat z41
theorem at_T41 {w : World} {A : Option Addr} {n : Nat} {xs : List S41} (h : Kd.C k41 w A n xs) (i : Int) (h0 : 0 ≤ i) (h1 : i < n) : ∃ ad A0 c0 A1 c1, A = some ad ∧ w.cell? (ad.add (i.toNat * 2)) = some (.slice A0 (rd_T41 xs i).f0.length c0) ∧ w.cell? ⟨(ad.add (i.toNat * 2)).block, (ad.add (i.toNat * 2)).off + 1, none⟩ = some (.slice A1 (rd_T41 xs i).f1.length c1) ∧ (rd_T41 xs i).f0.length ≤ c0 ∧ (Kd.int .i64).C w A0 (rd_T41 xs i).f0.length (rd_T41 xs i).f0 ∧ (rd_T41 xs i).f1.length ≤ c1 ∧ (Kd.int .i64).C w A1 (rd_T41 xs i).f1.length (rd_T41 xs i).f1 := by
  obtain ⟨ad, c, e, _, hK, hc0⟩ := Kd.C_get h z41 i h0 h1
  have hc : ∀ j u, c[j]? = some u → w.cell? (ad.add (i.toNat * 2 + j)) = some u := hc0
  obtain ⟨A0, c0, A1, c1, rfl, l0, g0, l1, g1⟩ := k41_open hK
  exact ⟨ad, A0, c0, A1, c1, e, hc 0 _ rfl, by rw [← add_field _ _ 1 (by omega)]; exact hc 1 _ rfl, l0, g0, l1, g1⟩

def rd_L4 (xs : List (List S41)) (i : Int) : (List S41) := xs.getD i.toNat ([] : List S41)
theorem at_L4 {w : World} {A : Option Addr} {n : Nat} {xs : List (List S41)} (h : Kd.C (Kd.slice 41 k41) w A n xs) (i : Int) (h0 : 0 ≤ i) (h1 : i < n) : ∃ ad A0 c0, A = some ad ∧ w.cell? (ad.add i.toNat) = some (.slice A0 (rd_L4 xs i).length c0) ∧ (rd_L4 xs i).length ≤ c0 ∧ k41.C w A0 (rd_L4 xs i).length (rd_L4 xs i) := by
  obtain ⟨ad, c, e, _, hK, hc0⟩ := Kd.C_get h ([] : List S41) i h0 h1
  have hc : ∀ j u, c[j]? = some u → w.cell? (ad.add (i.toNat * 1 + j)) = some u := hc0
  obtain ⟨A0, c0, rfl, l0, g0⟩ := hK
  exact ⟨ad, A0, c0, e, by have hq := hc 0 _ rfl; rwa [Nat.mul_one, Nat.add_zero] at hq, l0, g0⟩

def rd_L5 (xs : List (List (List Int))) (i : Int) : (List (List Int)) := xs.getD i.toNat ([] : List (List Int))
theorem at_L5 {w : World} {A : Option Addr} {n : Nat} {xs : List (List (List Int))} (h : Kd.C (Kd.slice 30 (Kd.slice 3 (Kd.int .i64))) w A n xs) (i : Int) (h0 : 0 ≤ i) (h1 : i < n) : ∃ ad A0 c0, A = some ad ∧ w.cell? (ad.add i.toNat) = some (.slice A0 (rd_L5 xs i).length c0) ∧ (rd_L5 xs i).length ≤ c0 ∧ (Kd.slice 3 (Kd.int .i64)).C w A0 (rd_L5 xs i).length (rd_L5 xs i) := by
  obtain ⟨ad, c, e, _, hK, hc0⟩ := Kd.C_get h ([] : List (List Int)) i h0 h1
  have hc : ∀ j u, c[j]? = some u → w.cell? (ad.add (i.toNat * 1 + j)) = some u := hc0
  obtain ⟨A0, c0, rfl, l0, g0⟩ := hK
  exact ⟨ad, A0, c0, e, by have hq := hc 0 _ rfl; rwa [Nat.mul_one, Nat.add_zero] at hq, l0, g0⟩

end Go.Proofs.Ytnnkjjacpbbigaa.PB
namespace Go.Proofs.Ytnnkjjacpbbigaa.PB
open Go.RowKit Go.Proofs.YtnnkjjacpbbigaaW.PrintWords Go.Proofs.YtnnkjjacpbbigaaW.PrintLast Go.Proofs.YtnnkjjacpbbigaaW.PrintMore
attribute [local go_sem] max2_int min2_int max_two min_two max_three min_three max_four min_four   -- for this text's walks alone

/-! ### an element of a row of rows, taken out, written, put back -/
section
variable {α : Type} {d : Kd α} {t e : Nat} {W W' : World} {base : Nat} {ok : Nat → Prop} {A : Option Addr} {c : Nat} {xs : List (List α)}
theorem cm_S_take (h : Kd.S (Kd.slice t d) e W base ok (.slice A xs.length c) xs) (j : Nat) (hj : j < xs.length) :
    ∃ ad A0 c0 oki, A = some ad ∧ W.cell? (ad.add j) = some (.slice A0 xs[j].length c0) ∧ d.R t W base oki (.slice A0 xs[j].length c0) xs[j] ∧ Kd.H (Kd.slice t d) e W base ok (.slice A xs.length c) xs (j : Int) oki [.slice A0 xs[j].length c0] := by
  obtain ⟨ad, _, e1, _⟩ := Kd.C_get (Kd.S_reads' h).2.2 ([] : List α) (j : Int) (by omega) (by omega)
  subst e1
  obtain ⟨g, rfl⟩ := Kd.R_head (Kd.S_R h)
  obtain ⟨oki, cs, hcl, hM, hcc, hoki, hH⟩ := Kd.S_lend h [] (j : Int) (by omega) (by omega)
  obtain ⟨ve, rfl, hR⟩ := hM
  have hv := hcc 0 _ rfl
  have hx : xs.getD (j : Int).toNat [] = xs[j] := by simp [List.getD_eq_getElem?_getD, hj]
  rw [hx] at hR
  obtain ⟨A0, c0, rfl⟩ := Kd.R_slice hR
  refine ⟨_, A0, c0, oki, rfl, ?_, hR, hH⟩
  have hsz : (j : Int).toNat * (Kd.slice t d).sz + 0 = j := by show (j : Int).toNat * 1 + 0 = _; omega
  rw [hsz] at hv
  rw [add_plain]
  exact hv
theorem cm_S_put {oki okx : Nat → Prop} {u : Value} {x' : List α} {j : Nat} {v : Value} (hE : d.E = []) (h : Kd.H (Kd.slice t d) e W base ok v xs (j : Int) oki [u]) (hok : ∀ k, u.ownBlock = some k → oki k)
    (hk : Kept W W' (fun k => some k = u.ownBlock)) (hR : d.R t W' base okx u x') : Kd.S (Kd.slice t d) e W' base ok v (xs.set j x') := by
  have h1 := Kd.H_kept h hk (fun k _ hn hs => hn (hok k hs.symm))
  have h2 := Kd.R_tight hE hR
  have h3 := Kd.H_back h1 (x' := x') (okp := fun k => some k = u.ownBlock) (Kd.M_row h2) (fun k hk => hok k hk.symm)
  simpa using h3
end
/-! ### a world cut at a height: what was below it then -/
def cm_cut (W : World) (B : Nat) : World := { W with heap := W.heap.extract 0 B }
theorem cm_cut_size {W : World} {B : Nat} (h : B ≤ W.heap.size) : (cm_cut W B).heap.size = B := by simp [cm_cut]; omega
theorem cm_cut_below {W : World} {B : Nat} (h : B ≤ W.heap.size) : Below (cm_cut W B).heap.size (cm_cut W B) W := by
  rw [cm_cut_size h]
  refine ⟨rfl, rfl, rfl, by rw [cm_cut_size h]; exact h, fun i hi => ?_⟩
  simp only [cm_cut]
  rw [Array.getElem?_extract]
  simp
  omega
theorem cm_cut_then {W W1 : World} {B : Nat} {ok : Nat → Prop} (h : B ≤ W.heap.size) (hb : Below (cm_cut W B).heap.size (cm_cut W B) W1) (hk : Kept W W1 ok) : Below B W W1 := by
  have h1 := cm_cut_below h
  rw [cm_cut_size h] at hb h1
  exact ⟨hb.os.trans h1.os.symm, hb.tape.trans h1.tape.symm, hb.output.trans h1.output.symm, hk.1, fun i hi => (hb.block i hi).trans (h1.block i hi).symm⟩
/-! ### an element of a row whose elements' blocks are told one by one -/
theorem cm_tag_elem {α : Type} {d : Kd α} {t e : Nat} {f : Nat → Nat} {W : World} {base : Nat} {ok : Nat → Prop} {A : Option Addr} {n c : Nat} {xs : List (List α)} (h : (Kd.tag f (Kd.slice t d)).R e W base ok (.slice A n c) xs.zipIdx) (j : Nat) (hj : j < xs.length) :
    ∃ ad A0 c0, A = some ad ∧ W.cell? (ad.add j) = some (.slice A0 xs[j].length c0) ∧ d.R t W base (fun k => (ok k ∧ some k ≠ (Value.slice A n c).ownBlock) ∧ f k = j) (.slice A0 xs[j].length c0) xs[j] := by
  obtain ⟨hok, inner, ho, hr⟩ := h
  rcases ho.2 with ⟨hv, hn⟩ | ⟨g, cap, cur, hv, hrest⟩
  · rw [List.length_zipIdx] at hn
    omega
  · injection hv with hA hn hc
    subst hA
    have hM := hr.2 j _ (Kd.zip_at (List.getElem?_eq_getElem hj))
    obtain ⟨ve, hce, hR⟩ := hM
    change (inner.drop (j * 1)).take 1 = [ve] at hce
    have hR2 : d.R t W base (fun k => (ok k ∧ some k ≠ (Value.slice (some ⟨g, 0, none⟩) n c).ownBlock) ∧ f k = j) ve xs[j] := hR
    obtain ⟨A0, c0, rfl⟩ := Kd.R_slice hR2
    refine ⟨_, A0, c0, rfl, ?_, hR2⟩
    refine ho.cells (g := g) (by simp [Value.ownBlock]) j _ ?_
    have h0 := congrArg (fun l => l[0]?) hce
    simp only [Nat.mul_one, List.getElem?_take, List.getElem?_drop] at h0
    simpa using h0
/-! ### clear(s[i:]), the elements records of two rows -/
theorem cm_own_setCells {e : TypeId} {base n c size g : Nat} : ∀ (l : List Value) (q : Nat) (W : World) (cs : List Value), W.ownsRow base e size (.slice (some ⟨g, 0, none⟩) n c) n cs →
    ∃ cs', (W.setCells g q l).ownsRow base e size (.slice (some ⟨g, 0, none⟩) n c) n cs' ∧ cs'.take q = cs.take q ∧ W.grownBy (W.setCells g q l) (some g)
  | [], q, W, cs, h => ⟨cs, h, rfl, World.grownBy.refl W _⟩
  | u :: l, q, W, cs, h => by
    have h1 := h.stored q u
    obtain ⟨cs', h2, h3, h4⟩ := cm_own_setCells l (q + 1) (W.setCell ⟨g, q, none⟩ u) (cs.set q u) h1.1
    refine ⟨cs', h2, ?_, World.grownBy.trans h1.2 h4⟩
    have h5 := congrArg (List.take q) h3
    rw [List.take_take, List.take_take, Nat.min_eq_left (by omega)] at h5
    rw [h5]
    simp [List.take_set_of_le]
theorem cm_run_clear {P : Program} (w : World) (t e ty : TypeId) (z u : Value) (sz : Nat) (ht : P.underlying t = some (.slice e)) (hv : ∀ w, (zeroValue e).run P w = .ok z w) (hz : ∀ n, (Builtin.zeroCells z.cells n).toList = List.replicate (n * sz) u) (h1 : u.oneCell' = true) (b o n c : Nat) (hn : 0 < n)
    (hc : ∀ j, j < n * sz → (w.cell? ⟨b, o + j, none⟩).isSome = true) (hf : ∀ j, j < n * sz → w.frozen? ⟨b, o + j, none⟩ = false) :
    (Builtin.clear_ #[t] ty #[.slice (some ⟨b, o, none⟩) n c]).run P w = .ok (.tuple #[]) (w.setCells b o (List.replicate (n * sz) u)) := by
  have hst := run_storeCells_cells (P := P) b o (List.replicate (n * sz) u) 0 w (by simpa using hc) (by simpa using hf) (by intro v hv'; rw [List.eq_of_mem_replicate hv']; exact h1)
  simp only [Nat.add_zero] at hst
  obtain ⟨m, rfl⟩ : ∃ m, n = m + 1 := ⟨n - 1, by omega⟩
  simp [Builtin.clear_, run_underlying ht, hv, hz, hst]
theorem cm_own_cell {W : World} {base n c size g q : Nat} {e : TypeId} {cs : List Value} (h : W.ownsRow base e size (.slice (some ⟨g, 0, none⟩) n c) n cs) (hq : q < cs.length) : ∃ u, W.cell? ⟨g, q, none⟩ = some u ∧ W.frozen? ⟨g, q, none⟩ = false := by
  have h1 := h.cells (g := g) (by simp [Value.ownBlock]) q cs[q] (by simp [hq])
  rw [add_plain] at h1
  refine ⟨_, h1, ?_⟩
  rcases h.2 with ⟨h', _⟩ | ⟨g', cap', cur, h', _, hh, _⟩
  · cases h'
  · have : g = g' := by injection h' with h'; injection h' with h'; injection h' with h'
    subst this
    simp [World.frozen?, hh]

end Go.Proofs.Ytnnkjjacpbbigaa.PB
namespace Go.Proofs.Ytnnkjjacpbbigaa.PB
open Go.RowKit Go.Proofs.YtnnkjjacpbbigaaW.PrintWords Go.Proofs.YtnnkjjacpbbigaaW.PrintLast Go.Proofs.YtnnkjjacpbbigaaW.PrintMore
attribute [local go_sem] max2_int min2_int max_two min_two max_three min_three max_four min_four   -- for this text's walks alone

/-! ### pairs whose two rows lie apart -/
def cm_kA : Kd S41 where
  sz := k41.sz
  E := k41.E
  K := k41.K
  M := fun w base ok x cs => ∃ h : Nat → Bool, ∃ v0 v1, cs = [v0, v1] ∧ (Kd.int .i64).R 3 w base (fun k => ok k ∧ h k = true) v0 x.f0 ∧ (Kd.int .i64).R 3 w base (fun k => ok k ∧ h k = false) v1 x.f1
  K_len := k41.K_len
  K_one := k41.K_one
  K_below := k41.K_below
  K_of_M := by
    rintro w base ok x cs ⟨h, v0, v1, rfl, h0, h1⟩
    exact k41.K_of_M (k41_mkM w base ok x (Kd.R_mono h0 (fun _ hk => hk.1)) (Kd.R_mono h1 (fun _ hk => hk.1)))
  M_mono := by
    rintro w base ok ok' x cs hok ⟨h, v0, v1, rfl, h0, h1⟩
    exact ⟨h, v0, v1, rfl, Kd.R_mono h0 (fun k hk => ⟨hok k hk.1, hk.2⟩), Kd.R_mono h1 (fun k hk => ⟨hok k hk.1, hk.2⟩)⟩
  M_bound := by
    rintro w base ok x cs ⟨h, v0, v1, rfl, h0, h1⟩
    refine ⟨h, v0, v1, rfl, Kd.R_mono (Kd.R_bound h0) (fun k hk => ⟨⟨hk.1.1, hk.2.1, hk.2.2.1, ?_⟩, hk.1.2⟩), Kd.R_mono (Kd.R_bound h1) (fun k hk => ⟨⟨hk.1.1, hk.2.1, hk.2.2.1, ?_⟩, hk.1.2⟩)⟩
    · obtain ⟨q, hq, hc⟩ := hk.2.2.2
      exact ⟨q, List.mem_append_left _ hq, hc⟩
    · obtain ⟨q, hq, hc⟩ := hk.2.2.2
      exact ⟨q, List.mem_append_right _ hq, hc⟩
  M_move := by
    rintro w w1 base ok x cs hm ⟨h, v0, v1, rfl, h0, h1⟩
    exact ⟨h, v0, v1, rfl, Kd.R_move h0 (fun k hk => hm k hk.1), Kd.R_move h1 (fun k hk => hm k hk.1)⟩
  M_lower := by
    rintro w base base' ok x cs hb ⟨h, v0, v1, rfl, h0, h1⟩
    exact ⟨h, v0, v1, rfl, Kd.R_lower h0 hb, Kd.R_lower h1 hb⟩
theorem cm_kA_M {w : World} {base : Nat} {ok : Nat → Prop} {x : S41} {cs : List Value} (h : cm_kA.M w base ok x cs) : k41.M w base ok x cs := by
  obtain ⟨h, v0, v1, rfl, h0, h1⟩ := h
  exact k41_mkM w base ok x (Kd.R_mono h0 (fun _ hk => hk.1)) (Kd.R_mono h1 (fun _ hk => hk.1))
theorem cm_kA_S {e : Nat} {w : World} {base : Nat} {ok : Nat → Prop} {v : Value} {xs : List S41} (h : Kd.S cm_kA e w base ok v xs) : Kd.S k41 e w base ok v xs := by
  obtain ⟨f, hok, inner, hown, hr⟩ := h
  exact ⟨f, hok, inner, hown, hr.1, fun j p hp => cm_kA_M (hr.2 j p hp)⟩
/-- Those of which G does not say yes. -/
def cm_fil (G : S41 → Option Bool) : List S41 → Option (List S41)
  | [] => some []
  | x :: r => (G x).bind fun b => (cm_fil G r).bind fun r' => some (if b = true then r' else x :: r')
theorem cm_fil_some {G : S41 → Option Bool} : ∀ {xs r : List S41}, cm_fil G xs = some r → (∀ x ∈ xs, ∃ b, G x = some b ∧ (G x).getD false = b) ∧ r = xs.filter fun x => !((G x).getD false)
  | [], r, h => by
    simp only [cm_fil, Option.some.injEq] at h
    subst h
    exact ⟨fun x hx => absurd hx List.not_mem_nil, rfl⟩
  | x :: xs, r, h => by
    obtain ⟨b, hb, h1⟩ := Option.bind_eq_some_iff.1 h
    obtain ⟨r', hr', h2⟩ := Option.bind_eq_some_iff.1 h1
    obtain ⟨g1, g2⟩ := cm_fil_some hr'
    simp only [Option.some.injEq] at h2
    refine ⟨fun y hy => ?_, ?_⟩
    · rcases List.mem_cons.1 hy with rfl | hy
      · exact ⟨b, hb, by rw [hb]; rfl⟩
      · exact g1 y hy
    · rw [← h2, List.filter_cons, hb, g2]
      cases b <;> rfl
theorem cm_fil_le {G G' : S41 → Option Bool} (h : ∀ x, LeO (G x) (G' x)) : ∀ xs, LeO (cm_fil G xs) (cm_fil G' xs)
  | [] => LeO.refl _
  | x :: xs => LeO.bind (h x) (fun _ => LeO.bind (cm_fil_le h xs) (fun _ => LeO.refl _))
/-- Element j of a row of pairs, lent: its two rows, apart. -/
theorem cm_A_take {e : Nat} {W : World} {base : Nat} {ok : Nat → Prop} {A : Option Addr} {c : Nat} {xs : List S41} (h : Kd.S cm_kA e W base ok (.slice A xs.length c) xs) (j : Nat) (hj : j < xs.length) :
    ∃ ad A0 c0 A1 c1 oki, ∃ hh : Nat → Bool, A = some ad ∧ W.cell? (ad.add (j * 2)) = some (.slice A0 xs[j].f0.length c0) ∧ W.cell? ⟨(ad.add (j * 2)).block, (ad.add (j * 2)).off + 1, none⟩ = some (.slice A1 xs[j].f1.length c1) ∧ (Kd.int .i64).R 3 W base (fun k => oki k ∧ hh k = true) (.slice A0 xs[j].f0.length c0) xs[j].f0 ∧ (Kd.int .i64).R 3 W base (fun k => oki k ∧ hh k = false) (.slice A1 xs[j].f1.length c1) xs[j].f1 ∧ (∀ k, oki k → ok k) ∧ Kd.H cm_kA e W base ok (.slice A xs.length c) xs (j : Int) oki [.slice A0 xs[j].f0.length c0, .slice A1 xs[j].f1.length c1] := by
  obtain ⟨ad, _, e1, _⟩ := Kd.C_get (Kd.S_reads' h).2.2 z41 (j : Int) (by omega) (by omega)
  subst e1
  obtain ⟨g, rfl⟩ := Kd.R_head (Kd.S_R h)
  obtain ⟨oki, cs, hcl, hM, hcc, hoki, hH⟩ := Kd.S_lend h z41 (j : Int) (by omega) (by omega)
  have hx : xs.getD (j : Int).toNat z41 = xs[j] := by simp [List.getD_eq_getElem?_getD, hj]
  rw [hx] at hM
  obtain ⟨hh, v0, v1, rfl, hR0, hR1⟩ := hM
  obtain ⟨A0, c0, rfl⟩ := Kd.R_slice hR0
  obtain ⟨A1, c1, rfl⟩ := Kd.R_slice hR1
  have h0 := hcc 0 _ rfl
  have h1 := hcc 1 _ rfl
  have hsz : (j : Int).toNat * cm_kA.sz = j * 2 := rfl
  rw [hsz] at h0 h1
  refine ⟨_, A0, c0, A1, c1, oki, hh, rfl, ?_, ?_, hR0, hR1, fun k hk => (hoki k hk).1, hH⟩
  · rw [add_plain]; exact h0
  · rw [add_plain]; exact h1
/-- Put back, both rows written. -/
theorem cm_A_put {e : Nat} {W W' : World} {base : Nat} {ok oki ok0 ok1 : Nat → Prop} {v u0 u1 : Value} {xs : List S41} {j : Nat} {hh : Nat → Bool} {y0 y1 : List Int} (h : Kd.H cm_kA e W base ok v xs (j : Int) oki [u0, u1]) (h0 : ∀ k, u0.ownBlock = some k → oki k ∧ hh k = true) (h1 : ∀ k, u1.ownBlock = some k → oki k ∧ hh k = false)
    (hk : Kept W W' (fun k => some k = u0.ownBlock ∨ some k = u1.ownBlock)) (hR0 : (Kd.int .i64).R 3 W' base ok0 u0 y0) (hR1 : (Kd.int .i64).R 3 W' base ok1 u1 y1) : Kd.S cm_kA e W' base ok v (xs.set j ⟨y0, y1⟩) := by
  have h2 := Kd.H_kept h hk (fun k _ hn hs => hn (hs.elim (fun h5 => (h0 k h5.symm).1) (fun h5 => (h1 k h5.symm).1)))
  have h3 := Kd.H_back h2 (x' := (⟨y0, y1⟩ : S41)) (okp := fun k => some k = u0.ownBlock ∨ some k = u1.ownBlock) ⟨hh, u0, u1, rfl, Kd.R_mono (Kd.R_tight rfl hR0) (fun k h5 => ⟨.inl h5, (h0 k h5.symm).2⟩), Kd.R_mono (Kd.R_tight rfl hR1) (fun k h5 => ⟨.inr h5, (h1 k h5.symm).2⟩)⟩ (fun k hk => hk.elim (fun h5 => (h0 k h5.symm).1) (fun h5 => (h1 k h5.symm).1))
  simpa using h3

end Go.Proofs.Ytnnkjjacpbbigaa.PB
namespace Go.Proofs.Ytnnkjjacpbbigaa.PB
open Go.RowKit Go.Proofs.YtnnkjjacpbbigaaW.PrintWords Go.Proofs.YtnnkjjacpbbigaaW.PrintLast Go.Proofs.YtnnkjjacpbbigaaW.PrintMore
attribute [local go_sem] max2_int min2_int max_two min_two max_three min_three max_four min_four   -- for this text's walks alone

/-! ### laws_eqIntS: function 18 -/
def laws_eqIntS.l0 : Nat → List Int → List Int → Int → Option (Bool)
  | 0, _, _, _ => none
  | k + 1, x0, x1, x5 => if x5 < (x0.length : Int) then (if 0 ≤ x5 then (if x5 < (x1.length : Int) then (if (rd x0 x5) = (rd x1 x5) then (laws_eqIntS.l0 k x0 x1 (wrap64 (x5 + 1))) else (some false)) else (none)) else (none)) else (some true)
def laws_eqIntS.f (k : Nat) (l0 : List Int) (l1 : List Int) : Option (Bool) := if (l0.length : Int) = (l1.length : Int) then (laws_eqIntS.l0 k l0 l1 0) else (some false)
theorem laws_eqIntS.mono_l : ∀ k, (∀ y0 y1 y2, LeO (laws_eqIntS.l0 k y0 y1 y2) (laws_eqIntS.l0 (k + 1) y0 y1 y2))
  | 0 => fun _ _ _ r h => by simp [laws_eqIntS.l0] at h
  | k + 1 => by
    have ih0 := laws_eqIntS.mono_l k
    · intro y0 y1 y2
      unfold laws_eqIntS.l0
      repeat' first
      | (with_reducible exact ih0 _ _ _)
      | (with_reducible exact LeO.refl _)
      | (with_reducible exact LeO.none _)
      | (with_reducible refine LeO.ite ?_ ?_)
      | (with_reducible refine LeO.bind ?_ (fun _ => ?_))
      | exact ih0 _ _ _
      | exact LeO.none _
      | refine LeO.ite ?_ ?_
      | refine LeO.bind ?_ (fun _ => ?_)
theorem laws_eqIntS.mono : ∀ a0 a1 k, LeO (laws_eqIntS.f k a0 a1) (laws_eqIntS.f (k + 1) a0 a1) := by
  intro a0 a1 k
  have ih0 := laws_eqIntS.mono_l k
  unfold laws_eqIntS.f
  repeat' first
      | (with_reducible exact ih0 _ _ _)
      | (with_reducible exact LeO.refl _)
      | (with_reducible exact LeO.none _)
      | (with_reducible refine LeO.ite ?_ ?_)
      | (with_reducible refine LeO.bind ?_ (fun _ => ?_))
      | exact ih0 _ _ _
      | exact LeO.none _
      | refine LeO.ite ?_ ?_
      | refine LeO.bind ?_ (fun _ => ?_)
set_option maxHeartbeats 8000000 in
set_option maxRecDepth 100000 in
theorem laws_eqIntS.calls (k : Nat) (A0 : Option Addr) (c0 : Nat) (l0 : List Int) (A1 : Option Addr) (c1 : Nat) (l1 : List Int) (r : Bool) (w : World) (hr0 : Kd.C (Kd.int .i64) w A0 l0.length l0) (hc0 : l0.length ≤ c0) (hr1 : Kd.C (Kd.int .i64) w A1 l1.length l1) (hc1 : l1.length ≤ c1) (h : laws_eqIntS.f k l0 l1 = some r) :
    Calls Try.prog 18 #[.slice A0 l0.length c0, .slice A1 l1.length c1] w fun e w' => e = .returned (.bool r) ∧ Drawn0 w w' := by
  have HR0 := Aside0.mk hr0
  have HC0 := Aside0.mk hc0
  clear hr0 hc0
  have HR1 := Aside0.mk hr1
  have HC1 := Aside0.mk hc1
  clear hr1 hc1
  have H : (if (l0.length : Int) = (l1.length : Int) then (laws_eqIntS.l0 k l0 l1 0) else (some false)) = some r := h
  clear h
  by_cases c3 : (l0.length : Int) = (l1.length : Int)
  · rw [if_pos c3] at H
    have c3b0 : ((l0.length : Int) == (l1.length : Int)) = true := beq_iff_eq.mpr c3
    have c3b1 : ((l0.length : Int) != (l1.length : Int)) = false := bne_eq_false_iff_eq.mpr c3
    have c3b2 : (l0.length == l1.length) = true := by first | simpa using c3 | (simp at c3 ⊢; omega)
    clear c3
    have H' := Aside0.mk H
    clear H
    go_enter Try.func18, Try.ntmps18
    go_wp2
    repeat (go_quiet (fail); try go_wp2)
    go_loopg [5] k (fun kq v5 w' => ∃ (x5_1 : Int), v5 = .int .i64 x5_1 ∧ Aside0 (laws_eqIntS.l0 kq l0 l1 x5_1 = some r) ∧ Aside0 (kq ≤ k) ∧ Drawn0 w w')
    case atStart => exact ⟨(0), (by first | rfl | (simp; done) | (simp [*]; done)), H', ⟨Nat.le_refl _⟩, by repeat (first | exact Drawn0.refl _ | apply Drawn0.step)⟩
    case round =>
      clear H'
      try clear c1
      try clear p2
      try clear c3
      try clear c3b0
      try clear c3b1
      try clear c3b2
      obtain ⟨x5_1, rfl, HA, HK1, ⟨m1, rfl⟩⟩ := hrel
      cases gk with
      | zero => exact absurd HA.out (by simp [laws_eqIntS.l0])
      | succ k1 =>
        have H := HA.out
        clear HA
        simp only [laws_eqIntS.l0] at H
        by_cases c4 : x5_1 < (l0.length : Int)
        · rw [if_pos c4] at H
          have c4b0 : decide (x5_1 < (l0.length : Int)) = true := decide_eq_true c4
          clear c4
          by_cases c5 : 0 ≤ x5_1
          · rw [if_pos c5] at H
            have c5b0 : decide (0 ≤ x5_1) = true := decide_eq_true c5
            clear c5
            by_cases c6 : x5_1 < (l1.length : Int)
            · rw [if_pos c6] at H
              have c6b0 : decide (x5_1 < (l1.length : Int)) = true := decide_eq_true c6
              clear c6
              by_cases c7 : (rd l0 x5_1) = (rd l1 x5_1)
              · rw [if_pos c7] at H
                have c7b0 : ((rd l0 x5_1) == (rd l1 x5_1)) = true := beq_iff_eq.mpr c7
                have c7b1 : ((rd l0 x5_1) != (rd l1 x5_1)) = false := bne_eq_false_iff_eq.mpr c7
                clear c7
                have H' := Aside0.mk H
                clear H
                have p340 : 0 ≤ (x5_1 : Int) := of_decide_eq_true (by first | (with_reducible assumption) | assumption)
                have q340 : x5_1 < (l0.length : Int) := of_decide_eq_true (by first | (with_reducible assumption) | assumption)
                obtain ⟨ad340, e340, hx340_0⟩ := Kd.at_int HR0.out x5_1 p340 q340
                cases e340
                replace p340 := eq_true p340
                replace q340 := eq_true q340
                have p341 : 0 ≤ (x5_1 : Int) := of_decide_eq_true (by first | (with_reducible assumption) | assumption)
                have q341 : x5_1 < (l1.length : Int) := of_decide_eq_true (by first | (with_reducible assumption) | assumption)
                obtain ⟨ad341, e341, hx341_0⟩ := Kd.at_int HR1.out x5_1 p341 q341
                cases e341
                replace p341 := eq_true p341
                replace q341 := eq_true q341
                go_wp2
                repeat (go_quiet (fail); try go_wp2)
                go_roundg k1
                case measure => have := HK1.out; omega
                case rel => exact ⟨(wrap64 (x5_1 + 1)), (by first | rfl | (simp; done) | (simp [*]; done)), H', ⟨by have := HK1.out; omega⟩, by repeat (first | exact Drawn0.refl _ | apply Drawn0.step)⟩
              · rw [if_neg c7] at H
                have c7b0 : ((rd l0 x5_1) == (rd l1 x5_1)) = false := beq_eq_false_iff_ne.mpr c7
                have c7b1 : ((rd l0 x5_1) != (rd l1 x5_1)) = true := bne_iff_ne.mpr c7
                obtain rfl := Option.some.inj H
                have p340 : 0 ≤ (x5_1 : Int) := of_decide_eq_true (by first | (with_reducible assumption) | assumption)
                have q340 : x5_1 < (l0.length : Int) := of_decide_eq_true (by first | (with_reducible assumption) | assumption)
                obtain ⟨ad340, e340, hx340_0⟩ := Kd.at_int HR0.out x5_1 p340 q340
                cases e340
                replace p340 := eq_true p340
                replace q340 := eq_true q340
                have p341 : 0 ≤ (x5_1 : Int) := of_decide_eq_true (by first | (with_reducible assumption) | assumption)
                have q341 : x5_1 < (l1.length : Int) := of_decide_eq_true (by first | (with_reducible assumption) | assumption)
                obtain ⟨ad341, e341, hx341_0⟩ := Kd.at_int HR1.out x5_1 p341 q341
                cases e341
                replace p341 := eq_true p341
                replace q341 := eq_true q341
                go_wp2
                repeat (go_quiet (fail); try go_wp2)
                go_ret
                exact ⟨by first | rfl | (simp; done) | (simp [*]; done), by repeat (first | exact Drawn0.refl _ | apply Drawn0.step)⟩
            · rw [if_neg c6] at H
              exact absurd H (by simp)
          · rw [if_neg c5] at H
            exact absurd H (by simp)
        · rw [if_neg c4] at H
          have c4b0 : decide (x5_1 < (l0.length : Int)) = false := decide_eq_false c4
          clear c4
          obtain rfl := Option.some.inj H
          go_wp2
          repeat (go_quiet (fail); try go_wp2)
          go_ret
          exact ⟨by first | rfl | (simp; done) | (simp [*]; done), by repeat (first | exact Drawn0.refl _ | apply Drawn0.step)⟩
  · rw [if_neg c3] at H
    have c3b0 : ((l0.length : Int) == (l1.length : Int)) = false := beq_eq_false_iff_ne.mpr c3
    have c3b1 : ((l0.length : Int) != (l1.length : Int)) = true := bne_iff_ne.mpr c3
    have c3b2 : (l0.length == l1.length) = false := by first | simpa using c3 | (simp at c3 ⊢; omega)
    obtain rfl := Option.some.inj H
    go_enter Try.func18, Try.ntmps18
    go_wp2
    repeat (go_quiet (fail); try go_wp2)
    go_ret
    exact ⟨by first | rfl | (simp; done) | (simp [*]; done), by repeat (first | exact Drawn0.refl _ | apply Drawn0.step)⟩

end Go.Proofs.Ytnnkjjacpbbigaa.PB
namespace Go.Proofs.Ytnnkjjacpbbigaa.PB
open Go.RowKit Go.Proofs.YtnnkjjacpbbigaaW.PrintWords Go.Proofs.YtnnkjjacpbbigaaW.PrintLast Go.Proofs.YtnnkjjacpbbigaaW.PrintMore
attribute [local go_sem] max2_int min2_int max_two min_two max_three min_three max_four min_four   -- for this text's walks alone

/-! ### laws_markIntS: function 19 -/
def laws_markIntS.l0 : Nat → List Int → Int → Int → Option (Int × List Int)
  | 0, _, _, _ => none
  | k + 1, x0, x1, x5 => if x5 < (x0.length : Int) then (if 0 ≤ x5 then (laws_markIntS.l0 k (x0.set (x5 : Int).toNat x1) (wrap64 (x1 + 1)) (wrap64 (x5 + 1))) else (none)) else (some (x1, x0))
def laws_markIntS.f (k : Nat) (l0 : List Int) (a1 : Int) : Option (Int × List Int) := laws_markIntS.l0 k l0 a1 0
theorem laws_markIntS.mono_l : ∀ k, (∀ y0 y1 y2, LeO (laws_markIntS.l0 k y0 y1 y2) (laws_markIntS.l0 (k + 1) y0 y1 y2))
  | 0 => fun _ _ _ r h => by simp [laws_markIntS.l0] at h
  | k + 1 => by
    have ih0 := laws_markIntS.mono_l k
    · intro y0 y1 y2
      unfold laws_markIntS.l0
      repeat' first
      | (with_reducible exact ih0 _ _ _)
      | (with_reducible exact LeO.refl _)
      | (with_reducible exact LeO.none _)
      | (with_reducible refine LeO.ite ?_ ?_)
      | (with_reducible refine LeO.bind ?_ (fun _ => ?_))
      | exact ih0 _ _ _
      | exact LeO.none _
      | refine LeO.ite ?_ ?_
      | refine LeO.bind ?_ (fun _ => ?_)
theorem laws_markIntS.mono : ∀ a0 a1 k, LeO (laws_markIntS.f k a0 a1) (laws_markIntS.f (k + 1) a0 a1) := by
  intro a0 a1 k
  have ih0 := laws_markIntS.mono_l k
  unfold laws_markIntS.f
  repeat' first
      | (with_reducible exact ih0 _ _ _)
      | (with_reducible exact LeO.refl _)
      | (with_reducible exact LeO.none _)
      | (with_reducible refine LeO.ite ?_ ?_)
      | (with_reducible refine LeO.bind ?_ (fun _ => ?_))
      | exact ih0 _ _ _
      | exact LeO.none _
      | refine LeO.ite ?_ ?_
      | refine LeO.bind ?_ (fun _ => ?_)
set_option maxHeartbeats 8000000 in
set_option maxRecDepth 100000 in
theorem laws_markIntS.calls (k : Nat) (P0_ : Nat → Prop) (u9000_ : Value) (l0 : List Int) (a1 : Int) (r1 : Int) (r2 : List Int) (w0 w : World) (hB : Below w0.heap.size w0 w) (ho0 : Kd.R (Kd.int .i64) 3 w w0.heap.size P0_ u9000_ l0) (h : laws_markIntS.f k l0 a1 = some (r1, r2)) :
    Calls Try.prog 19 #[u9000_, .int .i64 a1] w fun e w' => e = .returned (.int .i64 r1) ∧ Kd.R (Kd.int .i64) 3 w' w0.heap.size (fun k_ => (P0_ k_ ∨ w.heap.size ≤ k_)) u9000_ r2 ∧ Below w0.heap.size w0 w' ∧ Kept w w' (fun k_ => P0_ k_) := by
  have HO0 := Aside0.mk (show Kd.R (Kd.int .i64) 3 w w0.heap.size (fun k_ => (P0_ k_ ∨ w.heap.size ≤ k_)) u9000_ l0 from Kd.R_mono ho0 (fun k_ hk => (.inl hk)))
  have HK := Aside0.mk (Kept.refl w (fun k_ => P0_ k_))
  have HW0 := Aside0.mk hB.size
  have HB := Aside0.mk hB
  clear hB
  have H : (laws_markIntS.l0 k l0 a1 0) = some (r1, r2) := h
  clear h
  have H' := Aside0.mk H
  clear H
  go_enter Try.func19, Try.ntmps19
  go_wp2
  go_loopg [1, 5] k (fun kq v1 v5 w' => ∃ (x0_1 : List Int) (x1_1 : Int) (x5_1 : Int), v1 = .int .i64 x1_1 ∧ v5 = .int .i64 x5_1 ∧ Aside0 (laws_markIntS.l0 kq x0_1 x1_1 x5_1 = some (r1, r2)) ∧ Aside0 (kq ≤ k) ∧ Aside0 (Kd.R (Kd.int .i64) 3 w' w0.heap.size (fun k_ => (P0_ k_ ∨ w.heap.size ≤ k_)) u9000_ x0_1) ∧ Aside0 (Kept w w' (fun k_ => P0_ k_)) ∧ Aside0 (Below w0.heap.size w0 w'))
  case atStart => exact ⟨(l0), (a1), (0), (by first | rfl | (simp; done) | (simp [*]; done)), (by first | rfl | (simp; done) | (simp [*]; done)), H', ⟨Nat.le_refl _⟩, ⟨by (with_reducible repeat (first | apply Kd.R_alloc | apply Kd.R_drewN | apply Kd.R_drew)); exact HO0.out⟩, ⟨by repeat (first | (with_reducible first | exact HK.out | apply Kept.alloc | apply Kept.drewN | apply Kept.drew) | exact HK.out)⟩, ⟨by repeat (first | (with_reducible first | exact HB.out | apply below_alloc | apply pw_below_drewN | apply below_drew1) | exact HB.out)⟩⟩
  case round =>
    clear H'
    try clear c1
    try clear p2
    obtain ⟨x0_1, x1_1, x5_1, rfl, rfl, HA, HK1, HO_0, HK, HB⟩ := hrel
    cases gk with
    | zero => exact absurd HA.out (by simp [laws_markIntS.l0])
    | succ k1 =>
      have H := HA.out
      clear HA
      simp only [laws_markIntS.l0] at H
      by_cases c3 : x5_1 < (x0_1.length : Int)
      · rw [if_pos c3] at H
        have c3b0 : decide (x5_1 < (x0_1.length : Int)) = true := decide_eq_true c3
        clear c3
        by_cases c4 : 0 ≤ x5_1
        · rw [if_pos c4] at H
          have c4b0 : decide (0 ≤ x5_1) = true := decide_eq_true c4
          clear c4
          obtain ⟨y342, hy342⟩ : ∃ y_ : List Int, y_ = (x0_1.set (x5_1 : Int).toNat x1_1) := ⟨_, rfl⟩
          replace H : (laws_markIntS.l0 k1 y342 (wrap64 (x1_1 + 1)) (wrap64 (x5_1 + 1))) = some (r1, r2) := by first | (rw [hy342]; with_reducible exact H) | (have H2_ := (Option.bind_some _ _).symm.trans H; rw [hy342]; with_reducible exact H2_) | (have H2_ := (Option.bind_some _ _).symm.trans H; with_reducible exact H2_) | with_reducible exact H | (rw [hy342]; exact H) | exact H
          have Ny342 := Aside0.mk hy342
          clear hy342
          have H' := Aside0.mk H
          clear H
          obtain ⟨Ao6, co6, eo6⟩ := Kd.R_slice HO_0.out
          subst eo6
          have p5 : 0 ≤ (x5_1 : Int) := of_decide_eq_true (by first | (with_reducible assumption) | assumption)
          have q5 : (x5_1 : Int) < ((x0_1.length : Int) : Int) := of_decide_eq_true (by first | (with_reducible assumption) | assumption)
          obtain ⟨go5, co5, eo5, gb5, gl5, cl5, HG5⟩ := Kd.R_form HO_0.out (by omega)
          (first | cases eo5 | (injection eo5 with ea_ en_ ec_; (first | subst ea_ | (injection ea_ with ea_; subst ea_)); subst ec_; clear en_))
          have GB5 := Aside0.mk gb5
          have GG5 := Aside0.mk HG5
          clear gb5 gl5 HG5
          have HMgo5 := Aside0.mk (show (P0_ go5 ∨ w.heap.size ≤ go5) from (HO_0.out.1 _ rfl))
          obtain ⟨hx5_0, hf5_0⟩ := Kd.R_celln 0 HO_0.out (x5_1 : Int) p5 q5
          replace p5 := eq_true p5
          replace q5 := eq_true q5
          have HP7 := Kd.R_putg HO_0.out (x5_1 : Int) x1_1
          go_wp2_with (first | ((with_reducible refine gate_store (t := 3) (p := 15) rfl ?_); refine store_event (t := 3) (p := 15) (v := ?vo_w8) (w1 := (wr.setCell ⟨go5, (x5_1 : Int).toNat, none⟩ (.int .i64 x1_1))) ?hg ?ho ?hn ?hr ?_; (case ho => rfl); (case hg => rfl); (case hn => rfl); (case hr => first | (go_simp; done) | (go_simp; rfl)); intro w8 hw; have hg : wr.grownBy w8 (some go5) := (by rw [hw]; exact HP7.2); have hp_ : Kd.R (Kd.int .i64) 3 w8 w0.heap.size (fun k_ => (P0_ k_ ∨ w.heap.size ≤ k_)) (.slice (some ⟨go5, 0, none⟩) x0_1.length co6) y342 := (by rw [hw, Ny342.out]; exact HP7.1); clear HP7; have n0_ := Aside0.mk (hp_); have n1_ := Aside0.mk ((by rw [hw]; exact below_set (HB.out) GB5.out : Below w0.heap.size w0 w8)); have n2_ := Aside0.mk (Kept.of_grown (S := (fun k_ => P0_ k_)) hg (by repeat (first | (with_reducible first | exact HK.out | apply Kept.alloc | apply Kept.drewN | apply Kept.drew) | exact HK.out)) (fun k_ e_ => (HO_0.out.1 k_ e_))); clear HO_0; clear HB; clear HK; have HO_0 := n0_; have HB := n1_; have HK := n2_; clear n0_ n1_ n2_; clear hg hw hp_))
          go_roundg k1
          case measure => have := HK1.out; omega
          case rel => exact ⟨(y342), (wrap64 (x1_1 + 1)), (wrap64 (x5_1 + 1)), (by first | rfl | (simp; done) | (simp [*]; done)), (by first | rfl | (simp; done) | (simp [*]; done)), H', ⟨by have := HK1.out; omega⟩, ⟨by (with_reducible repeat (first | apply Kd.R_alloc | apply Kd.R_drewN | apply Kd.R_drew)); exact HO_0.out⟩, ⟨by repeat (first | (with_reducible first | exact HK.out | apply Kept.alloc | apply Kept.drewN | apply Kept.drew) | exact HK.out)⟩, ⟨by repeat (first | (with_reducible first | exact HB.out | apply below_alloc | apply pw_below_drewN | apply below_drew1) | exact HB.out)⟩⟩
        · rw [if_neg c4] at H
          exact absurd H (by simp)
      · rw [if_neg c3] at H
        have c3b0 : decide (x5_1 < (x0_1.length : Int)) = false := decide_eq_false c3
        clear c3
        simp only [Option.some.injEq, Prod.mk.injEq] at H
        obtain ⟨rfl, rfl⟩ := H
        obtain ⟨Ao9, co9, eo9⟩ := Kd.R_slice HO_0.out
        subst eo9
        go_wp2
        go_ret
        exact ⟨by first | rfl | (simp [errW_none, errW_some] <;> rfl) | (simp [*, errW_none, errW_some] <;> rfl), by (with_reducible repeat (first | apply Kd.R_alloc | apply Kd.R_drewN | apply Kd.R_drew)); exact HO_0.out, by repeat (first | (with_reducible first | exact HB.out | apply below_alloc | apply pw_below_drewN | apply below_drew1) | exact HB.out), by repeat (first | (with_reducible first | exact HK.out | apply Kept.alloc | apply Kept.drewN | apply Kept.drew) | exact HK.out)⟩

end Go.Proofs.Ytnnkjjacpbbigaa.PB
namespace Go.Proofs.Ytnnkjjacpbbigaa.PB
open Go.RowKit Go.Proofs.YtnnkjjacpbbigaaW.PrintWords Go.Proofs.YtnnkjjacpbbigaaW.PrintLast Go.Proofs.YtnnkjjacpbbigaaW.PrintMore
attribute [local go_sem] max2_int min2_int max_two min_two max_three min_three max_four min_four   -- for this text's walks alone

/-! ### laws_heldIntS: function 20 -/
def laws_heldIntS.l0 : Nat → List Int → Int → Int → Option (Int)
  | 0, _, _, _ => none
  | k + 1, x0, x1, x5 => if x5 < (x0.length : Int) then (if 0 ≤ x5 then (if (rd x0 x5) = x1 then (laws_heldIntS.l0 k x0 (wrap64 (x1 + 1)) (wrap64 (x5 + 1))) else (some (-1))) else (none)) else (some x1)
def laws_heldIntS.f (k : Nat) (l0 : List Int) (a1 : Int) : Option (Int) := laws_heldIntS.l0 k l0 a1 0
theorem laws_heldIntS.mono_l : ∀ k, (∀ y0 y1 y2, LeO (laws_heldIntS.l0 k y0 y1 y2) (laws_heldIntS.l0 (k + 1) y0 y1 y2))
  | 0 => fun _ _ _ r h => by simp [laws_heldIntS.l0] at h
  | k + 1 => by
    have ih0 := laws_heldIntS.mono_l k
    · intro y0 y1 y2
      unfold laws_heldIntS.l0
      repeat' first
      | (with_reducible exact ih0 _ _ _)
      | (with_reducible exact LeO.refl _)
      | (with_reducible exact LeO.none _)
      | (with_reducible refine LeO.ite ?_ ?_)
      | (with_reducible refine LeO.bind ?_ (fun _ => ?_))
      | exact ih0 _ _ _
      | exact LeO.none _
      | refine LeO.ite ?_ ?_
      | refine LeO.bind ?_ (fun _ => ?_)
theorem laws_heldIntS.mono : ∀ a0 a1 k, LeO (laws_heldIntS.f k a0 a1) (laws_heldIntS.f (k + 1) a0 a1) := by
  intro a0 a1 k
  have ih0 := laws_heldIntS.mono_l k
  unfold laws_heldIntS.f
  repeat' first
      | (with_reducible exact ih0 _ _ _)
      | (with_reducible exact LeO.refl _)
      | (with_reducible exact LeO.none _)
      | (with_reducible refine LeO.ite ?_ ?_)
      | (with_reducible refine LeO.bind ?_ (fun _ => ?_))
      | exact ih0 _ _ _
      | exact LeO.none _
      | refine LeO.ite ?_ ?_
      | refine LeO.bind ?_ (fun _ => ?_)
set_option maxHeartbeats 8000000 in
set_option maxRecDepth 100000 in
theorem laws_heldIntS.calls (k : Nat) (A0 : Option Addr) (c0 : Nat) (l0 : List Int) (a1 : Int) (r : Int) (w : World) (hr0 : Kd.C (Kd.int .i64) w A0 l0.length l0) (hc0 : l0.length ≤ c0) (h : laws_heldIntS.f k l0 a1 = some r) :
    Calls Try.prog 20 #[.slice A0 l0.length c0, .int .i64 a1] w fun e w' => e = .returned (.int .i64 r) ∧ Drawn0 w w' := by
  have HR0 := Aside0.mk hr0
  have HC0 := Aside0.mk hc0
  clear hr0 hc0
  have H : (laws_heldIntS.l0 k l0 a1 0) = some r := h
  clear h
  have H' := Aside0.mk H
  clear H
  go_enter Try.func20, Try.ntmps20
  go_wp2
  go_loopg [1, 5] k (fun kq v1 v5 w' => ∃ (x1_1 : Int) (x5_1 : Int), v1 = .int .i64 x1_1 ∧ v5 = .int .i64 x5_1 ∧ Aside0 (laws_heldIntS.l0 kq l0 x1_1 x5_1 = some r) ∧ Aside0 (kq ≤ k) ∧ Drawn0 w w')
  case atStart => exact ⟨(a1), (0), (by first | rfl | (simp; done) | (simp [*]; done)), (by first | rfl | (simp; done) | (simp [*]; done)), H', ⟨Nat.le_refl _⟩, by repeat (first | exact Drawn0.refl _ | apply Drawn0.step)⟩
  case round =>
    clear H'
    try clear c2
    try clear p2
    obtain ⟨x1_1, x5_1, rfl, rfl, HA, HK1, ⟨m1, rfl⟩⟩ := hrel
    cases gk with
    | zero => exact absurd HA.out (by simp [laws_heldIntS.l0])
    | succ k1 =>
      have H := HA.out
      clear HA
      simp only [laws_heldIntS.l0] at H
      by_cases c3 : x5_1 < (l0.length : Int)
      · rw [if_pos c3] at H
        have c3b0 : decide (x5_1 < (l0.length : Int)) = true := decide_eq_true c3
        clear c3
        by_cases c4 : 0 ≤ x5_1
        · rw [if_pos c4] at H
          have c4b0 : decide (0 ≤ x5_1) = true := decide_eq_true c4
          clear c4
          by_cases c5 : (rd l0 x5_1) = x1_1
          · rw [if_pos c5] at H
            have c5b0 : ((rd l0 x5_1) == x1_1) = true := beq_iff_eq.mpr c5
            have c5b1 : ((rd l0 x5_1) != x1_1) = false := bne_eq_false_iff_eq.mpr c5
            clear c5
            have H' := Aside0.mk H
            clear H
            have p343 : 0 ≤ (x5_1 : Int) := of_decide_eq_true (by first | (with_reducible assumption) | assumption)
            have q343 : x5_1 < (l0.length : Int) := of_decide_eq_true (by first | (with_reducible assumption) | assumption)
            obtain ⟨ad343, e343, hx343_0⟩ := Kd.at_int HR0.out x5_1 p343 q343
            cases e343
            replace p343 := eq_true p343
            replace q343 := eq_true q343
            go_wp2
            go_roundg k1
            case measure => have := HK1.out; omega
            case rel => exact ⟨(wrap64 (x1_1 + 1)), (wrap64 (x5_1 + 1)), (by first | rfl | (simp; done) | (simp [*]; done)), (by first | rfl | (simp; done) | (simp [*]; done)), H', ⟨by have := HK1.out; omega⟩, by repeat (first | exact Drawn0.refl _ | apply Drawn0.step)⟩
          · rw [if_neg c5] at H
            have c5b0 : ((rd l0 x5_1) == x1_1) = false := beq_eq_false_iff_ne.mpr c5
            have c5b1 : ((rd l0 x5_1) != x1_1) = true := bne_iff_ne.mpr c5
            obtain rfl := Option.some.inj H
            have p343 : 0 ≤ (x5_1 : Int) := of_decide_eq_true (by first | (with_reducible assumption) | assumption)
            have q343 : x5_1 < (l0.length : Int) := of_decide_eq_true (by first | (with_reducible assumption) | assumption)
            obtain ⟨ad343, e343, hx343_0⟩ := Kd.at_int HR0.out x5_1 p343 q343
            cases e343
            replace p343 := eq_true p343
            replace q343 := eq_true q343
            go_wp2
            go_ret
            exact ⟨by first | rfl | (simp; done) | (simp [*]; done), by repeat (first | exact Drawn0.refl _ | apply Drawn0.step)⟩
        · rw [if_neg c4] at H
          exact absurd H (by simp)
      · rw [if_neg c3] at H
        have c3b0 : decide (x5_1 < (l0.length : Int)) = false := decide_eq_false c3
        clear c3
        obtain rfl := Option.some.inj H
        go_wp2
        go_ret
        exact ⟨by first | rfl | (simp; done) | (simp [*]; done), by repeat (first | exact Drawn0.refl _ | apply Drawn0.step)⟩

end Go.Proofs.Ytnnkjjacpbbigaa.PB
namespace Go.Proofs.Ytnnkjjacpbbigaa.PB
open Go.RowKit Go.Proofs.YtnnkjjacpbbigaaW.PrintWords Go.Proofs.YtnnkjjacpbbigaaW.PrintLast Go.Proofs.YtnnkjjacpbbigaaW.PrintMore
attribute [local go_sem] max2_int min2_int max_two min_two max_three min_three max_four min_four   -- for this text's walks alone

/-! ### what the laws' own helpers answer: lists of whole numbers -/
theorem cl_w1 {i : Int} (h0 : -9223372036854775808 ≤ i) (h1 : i < 9223372036854775807) : wrap64 (i + 1) = i + 1 := by simp only [wrap64]; omega
theorem cl_rd (l : List Int) (i : Nat) (h : i < l.length) : rd l (i : Int) = l[i] := by simp [rd, List.getD_eq_getElem?_getD, h]
theorem cl_eqIntS_l (l : List Int) (hl : l.length ≤ 1000000000000) (d : Nat) : ∀ (k i : Nat), i ≤ l.length → l.length - i = d → d < k → laws_eqIntS.l0 k l l (i : Int) = some true := by
  induction d with
  | zero =>
    intro k i h0 hd hk
    obtain ⟨k, rfl⟩ : ∃ m, k = m + 1 := ⟨k - 1, by omega⟩
    simp only [laws_eqIntS.l0]
    rw [if_neg (by omega)]
  | succ d ih =>
    intro k i h0 hd hk
    obtain ⟨k, rfl⟩ : ∃ m, k = m + 1 := ⟨k - 1, by omega⟩
    simp only [laws_eqIntS.l0]
    rw [if_pos (by omega), if_pos (by omega), if_pos (by omega), if_pos trivial, cl_w1 (by omega) (by omega)]
    exact ih k (i + 1) (by omega) (by omega) (by omega)
theorem cl_eqIntS (l : List Int) (hl : l.length ≤ 1000000000000) (k : Nat) (hk : l.length < k) : laws_eqIntS.f k l l = some true := by
  unfold laws_eqIntS.f
  rw [if_pos rfl]
  exact cl_eqIntS_l l hl l.length k 0 (by omega) (by omega) hk
def cl_mk (n : Nat) (a : Int) : List Int := (List.range n).map fun (j : Nat) => a + (j : Int)
theorem cl_mk_length (n : Nat) (a : Int) : (cl_mk n a).length = n := by simp [cl_mk]
theorem cl_markIntS_l (l : List Int) (a : Int) (ha : 0 ≤ a) (hl : a + (l.length : Int) ≤ 1000000000000) (d : Nat) : ∀ (k i : Nat), i ≤ l.length → l.length - i = d → d < k → laws_markIntS.l0 k (cl_mk i a ++ l.drop i) (a + (i : Int)) (i : Int) = some (a + (l.length : Int), cl_mk l.length a) := by
  induction d with
  | zero =>
    intro k i h0 hd hk
    obtain ⟨k, rfl⟩ : ∃ m, k = m + 1 := ⟨k - 1, by omega⟩
    have hi : i = l.length := by omega
    subst hi
    simp only [laws_markIntS.l0]
    rw [if_neg (by simp [cl_mk])]
    simp
  | succ d ih =>
    intro k i h0 hd hk
    obtain ⟨k, rfl⟩ : ∃ m, k = m + 1 := ⟨k - 1, by omega⟩
    simp only [laws_markIntS.l0]
    have hlen : (cl_mk i a ++ l.drop i).length = l.length := by simp [cl_mk]; omega
    rw [if_pos (by rw [hlen]; omega), if_pos (by omega), cl_w1 (by omega) (by omega), cl_w1 (i := (i : Int)) (by omega) (by omega)]
    have hs : (cl_mk i a ++ l.drop i).set (i : Int).toNat (a + (i : Int)) = cl_mk (i + 1) a ++ l.drop (i + 1) := by
      rw [List.drop_eq_getElem_cons (show i < l.length by omega), List.set_append_right (i : Int).toNat _ (by simp [cl_mk]), cl_mk_length, show (i : Int).toNat - i = 0 by omega]
      rw [List.set_cons_zero]
      simp only [cl_mk, List.range_succ, List.map_append, List.map_cons, List.map_nil, List.append_assoc, List.cons_append, List.nil_append]
    rw [hs]
    have := ih k (i + 1) (by omega) (by omega) (by omega)
    rw [show a + (i : Int) + 1 = a + ((i + 1 : Nat) : Int) by omega]
    exact this
theorem cl_markIntS (l : List Int) (a : Int) (ha : 0 ≤ a) (hl : a + (l.length : Int) ≤ 1000000000000) (k : Nat) (hk : l.length < k) : laws_markIntS.f k l a = some (a + (l.length : Int), cl_mk l.length a) := by
  have := cl_markIntS_l l a ha hl l.length k 0 (by omega) (by omega) hk
  simpa [laws_markIntS.f, cl_mk] using this
theorem cl_heldIntS_l (n : Nat) (a : Int) (ha : 0 ≤ a) (hl : a + (n : Int) ≤ 1000000000000) (d : Nat) : ∀ (k i : Nat), i ≤ n → n - i = d → d < k → laws_heldIntS.l0 k (cl_mk n a) (a + (i : Int)) (i : Int) = some (a + (n : Int)) := by
  induction d with
  | zero =>
    intro k i h0 hd hk
    obtain ⟨k, rfl⟩ : ∃ m, k = m + 1 := ⟨k - 1, by omega⟩
    have hi : i = n := by omega
    subst hi
    simp only [laws_heldIntS.l0]
    rw [if_neg (by rw [cl_mk_length]; omega)]
  | succ d ih =>
    intro k i h0 hd hk
    obtain ⟨k, rfl⟩ : ∃ m, k = m + 1 := ⟨k - 1, by omega⟩
    simp only [laws_heldIntS.l0]
    rw [if_pos (by rw [cl_mk_length]; omega), if_pos (by omega), if_pos (by rw [cl_rd _ i (by rw [cl_mk_length]; omega)]; simp [cl_mk]), cl_w1 (by omega) (by omega), cl_w1 (i := (i : Int)) (by omega) (by omega)]
    have := ih k (i + 1) (by omega) (by omega) (by omega)
    rw [show a + (i : Int) + 1 = a + ((i + 1 : Nat) : Int) by omega]
    exact this
theorem cl_heldIntS (n : Nat) (a : Int) (ha : 0 ≤ a) (hl : a + (n : Int) ≤ 1000000000000) (k : Nat) (hk : n < k) : laws_heldIntS.f k (cl_mk n a) a = some (a + (n : Int)) := by
  have := cl_heldIntS_l n a ha hl n k 0 (by omega) (by omega) hk
  simpa [laws_heldIntS.f] using this

end Go.Proofs.Ytnnkjjacpbbigaa.PB
namespace Go.Proofs.Ytnnkjjacpbbigaa.PB
open Go.RowKit Go.Proofs.YtnnkjjacpbbigaaW.PrintWords Go.Proofs.YtnnkjjacpbbigaaW.PrintLast Go.Proofs.YtnnkjjacpbbigaaW.PrintMore
attribute [local go_sem] max2_int min2_int max_two min_two max_three min_three max_four min_four   -- for this text's walks alone

/-! ### laws_eqMeander: function 26 -/
def laws_eqMeander.f (k : Nat) (l0_0 : List Int) (l0_1 : List Int) (l1_0 : List Int) (l1_1 : List Int) : Option (Bool) := (laws_eqIntS.f k l0_0 l1_0).bind fun t366 => (if t366 = true then ((laws_eqIntS.f k l0_1 l1_1).bind fun t367 => (if t367 = true then (some true) else (some false))) else (some false))
theorem laws_eqMeander.mono : ∀ a0 a1 a2 a3 k, LeO (laws_eqMeander.f k a0 a1 a2 a3) (laws_eqMeander.f (k + 1) a0 a1 a2 a3) := by
  intro a0 a1 a2 a3 k
  unfold laws_eqMeander.f
  repeat' first
      | (with_reducible exact laws_eqIntS.mono _ _ _)
      | (with_reducible exact LeO.refl _)
      | (with_reducible exact LeO.none _)
      | (with_reducible refine LeO.ite ?_ ?_)
      | (with_reducible refine LeO.bind ?_ (fun _ => ?_))
      | exact laws_eqIntS.mono _ _ _
      | exact LeO.none _
      | refine LeO.ite ?_ ?_
      | refine LeO.bind ?_ (fun _ => ?_)
set_option maxHeartbeats 8000000 in
set_option maxRecDepth 100000 in
theorem laws_eqMeander.calls (k : Nat) (A0_0 : Option Addr) (c0_0 : Nat) (l0_0 : List Int) (A0_1 : Option Addr) (c0_1 : Nat) (l0_1 : List Int) (A1_0 : Option Addr) (c1_0 : Nat) (l1_0 : List Int) (A1_1 : Option Addr) (c1_1 : Nat) (l1_1 : List Int) (r : Bool) (w : World) (hr0_0 : Kd.C (Kd.int .i64) w A0_0 l0_0.length l0_0) (hc0_0 : l0_0.length ≤ c0_0) (hr0_1 : Kd.C (Kd.int .i64) w A0_1 l0_1.length l0_1) (hc0_1 : l0_1.length ≤ c0_1) (hr1_0 : Kd.C (Kd.int .i64) w A1_0 l1_0.length l1_0) (hc1_0 : l1_0.length ≤ c1_0) (hr1_1 : Kd.C (Kd.int .i64) w A1_1 l1_1.length l1_1) (hc1_1 : l1_1.length ≤ c1_1) (h : laws_eqMeander.f k l0_0 l0_1 l1_0 l1_1 = some r) :
    Calls Try.prog 26 #[.agg #[.slice A0_0 l0_0.length c0_0, .slice A0_1 l0_1.length c0_1], .agg #[.slice A1_0 l1_0.length c1_0, .slice A1_1 l1_1.length c1_1]] w fun e w' => e = .returned (.bool r) ∧ Below w.heap.size w w' := by
  have hu41 := Try.underlying41
  have HR0_0 := Aside0.mk hr0_0
  have HC0_0 := Aside0.mk hc0_0
  clear hr0_0 hc0_0
  have HR0_1 := Aside0.mk hr0_1
  have HC0_1 := Aside0.mk hc0_1
  clear hr0_1 hc0_1
  have HR1_0 := Aside0.mk hr1_0
  have HC1_0 := Aside0.mk hc1_0
  clear hr1_0 hc1_0
  have HR1_1 := Aside0.mk hr1_1
  have HC1_1 := Aside0.mk hc1_1
  clear hr1_1 hc1_1
  have HB := Aside0.mk (Below.refl w.heap.size w)
  have H : ((laws_eqIntS.f k l0_0 l1_0).bind fun t366 => (if t366 = true then ((laws_eqIntS.f k l0_1 l1_1).bind fun t367 => (if t367 = true then (some true) else (some false))) else (some false))) = some r := h
  clear h
  replace H := Option.bind_eq_some_iff.mp H
  obtain ⟨t366, A30, H⟩ := H
  replace H : (if t366 = true then ((laws_eqIntS.f k l0_1 l1_1).bind fun t367 => (if t367 = true then (some true) else (some false))) else (some false)) = some r := H
  have A3 := Aside0.mk A30
  clear A30
  by_cases c4 : t366 = true
  · subst c4
    have H1 : ((laws_eqIntS.f k l0_1 l1_1).bind fun t367 => (if t367 = true then (some true) else (some false))) = some r := by rw [if_pos rfl] at H; exact H
    clear H
    have H := H1
    clear H1
    replace H := Option.bind_eq_some_iff.mp H
    obtain ⟨t367, A50, H⟩ := H
    replace H : (if t367 = true then (some true) else (some false)) = some r := H
    have A5 := Aside0.mk A50
    clear A50
    by_cases c6 : t367 = true
    · subst c6
      have H1 : (some true) = some r := by rw [if_pos rfl] at H; exact H
      clear H
      have H := H1
      clear H1
      obtain rfl := Option.some.inj H
      go_enter Try.func26, Try.ntmps26
      go_wp2_with (first | ((with_reducible refine gate_dst (N := 2) rfl ?_); refine box_event ?hg (N := 2) ?hd (cs := #[.slice A0_0 l0_0.length c0_0, .slice A0_1 l0_1.length c0_1]) (t := 41) ?hr ?_; (case hd => rfl); (case hg => rfl); (case hr => first | (go_simp; done) | (go_simp; rfl)); intro gb364 hg w7 hbox hb; have n0_ := Aside0.mk (below_step (by repeat (first | (with_reducible first | exact HB.out | apply below_alloc | apply pw_below_drewN | apply below_drew1) | exact HB.out)) hb); have n1_ := Aside0.mk (hbox); have n2_ := Aside0.mk ((by rw [hg]; exact (below_size (by repeat (first | (with_reducible first | exact HB.out | apply below_alloc | apply pw_below_drewN | apply below_drew1) | exact HB.out))) : w.heap.size ≤ gb364)); have n3_ := Aside0.mk ((by rw [hg]; exact (below_size (by repeat (first | (with_reducible first | exact HB.out | apply below_alloc | apply pw_below_drewN | apply below_drew1) | exact HB.out))) : w.heap.size ≤ gb364)); clear HB; have HB := n0_; have BK364 := n1_; have GW364 := n2_; have GE364 := n3_; clear n0_ n1_ n2_ n3_; clear hb hbox hg) | ((with_reducible refine gate_dst (N := 3) rfl ?_); refine box_event ?hg (N := 3) ?hd (cs := #[.slice A1_0 l1_0.length c1_0, .slice A1_1 l1_1.length c1_1]) (t := 41) ?hr ?_; (case hd => rfl); (case hg => rfl); (case hr => first | (go_simp; done) | (go_simp; rfl)); intro gb365 hg w8 hbox hb; have n0_ := Aside0.mk (blk_below (g := gb364) (o := .cells #[.slice A0_0 l0_0.length c0_0, .slice A0_1 l0_1.length c0_1] 41 (0, 0)) (by (with_reducible repeat (first | refine blk_drewN ?_ _ | refine blk_drew ?_ | refine blk_alloc ?_ _)); exact BK364.out) hb); have n1_ := Aside0.mk (below_step (by repeat (first | (with_reducible first | exact HB.out | apply below_alloc | apply pw_below_drewN | apply below_drew1 | refine below_set ?_ GE364.out) | exact HB.out)) hb); have n2_ := Aside0.mk (hbox); have n3_ := Aside0.mk ((by rw [hg]; exact (below_size (by repeat (first | (with_reducible first | exact HB.out | apply below_alloc | apply pw_below_drewN | apply below_drew1 | refine below_set ?_ GE364.out) | exact HB.out))) : w.heap.size ≤ gb365)); have n4_ := Aside0.mk ((by rw [hg]; exact (below_size (by repeat (first | (with_reducible first | exact HB.out | apply below_alloc | apply pw_below_drewN | apply below_drew1 | refine below_set ?_ GE364.out) | exact HB.out))) : w.heap.size ≤ gb365)); have n5_ := Aside0.mk ((by rw [hg]; exact Nat.ne_of_lt (blk_lt (g := gb364) (o := .cells #[.slice A0_0 l0_0.length c0_0, .slice A0_1 l0_1.length c0_1] 41 (0, 0)) (by (with_reducible repeat (first | refine blk_drewN ?_ _ | refine blk_drew ?_ | refine blk_alloc ?_ _)); exact BK364.out)) : gb364 ≠ gb365)); have n6_ := Aside0.mk ((by rw [hg]; exact Nat.ne_of_gt (blk_lt (g := gb364) (o := .cells #[.slice A0_0 l0_0.length c0_0, .slice A0_1 l0_1.length c0_1] 41 (0, 0)) (by (with_reducible repeat (first | refine blk_drewN ?_ _ | refine blk_drew ?_ | refine blk_alloc ?_ _)); exact BK364.out)) : gb365 ≠ gb364)); clear BK364; clear HB; have BK364 := n0_; have HB := n1_; have BK365 := n2_; have GW365 := n3_; have GE365 := n4_; have NB364_365 := n5_; have NB365_364 := n6_; clear n0_ n1_ n2_ n3_ n4_ n5_ n6_; clear hb hbox hg; have hnb9 := NB364_365.out; have hnc9 := NB365_364.out; have hcz10_0 : w8.cell? ⟨gb364, 0, none⟩ = some (.slice A0_0 l0_0.length c0_0) := (blk_cell BK364.out 0).trans rfl; have hcz10_1 : w8.cell? ⟨gb364, 1, none⟩ = some (.slice A0_1 l0_1.length c0_1) := (blk_cell BK364.out 1).trans rfl; have hfz10_0 := blk_frozen BK364.out 0; have hfz10_1 := blk_frozen BK364.out 1; have hcz11_0 : w8.cell? ⟨gb365, 0, none⟩ = some (.slice A1_0 l1_0.length c1_0) := (blk_cell BK365.out 0).trans rfl; have hcz11_1 : w8.cell? ⟨gb365, 1, none⟩ = some (.slice A1_1 l1_1.length c1_1) := (blk_cell BK365.out 1).trans rfl; have hfz11_0 := blk_frozen BK365.out 0; have hfz11_1 := blk_frozen BK365.out 1) | ((with_reducible refine gate_callee (f := 18) rfl ?_); refine goesL_ (some 9) rfl rfl Try.func18 (by kernel_rfl) rfl #[.slice A0_0 l0_0.length c0_0, .slice A1_0 l1_0.length c1_0] rfl (by (try simp only [List.map_toArray, List.map_cons, List.map_nil]); first | done | rfl | (simp only [List.length_drop, List.length_take]; rfl)) ?_; (with_reducible refine (laws_eqIntS.calls k _ _ l0_0 _ _ l1_0 true _ ?side1 ?side2 ?side3 ?side4 A3.out).mono ?_); (case side1 => repeat (first | exact (Kd.C_below HR0_0.out HB.out) | (with_reducible refine Kd.C_alloc ?_ _) | (with_reducible refine Kd.C_drewN ?_ _) | (with_reducible refine Kd.C_drew ?_))); (case side2 => exact HC0_0.out); (case side3 => repeat (first | exact (Kd.C_below HR1_0.out HB.out) | (with_reducible refine Kd.C_alloc ?_ _) | (with_reducible refine Kd.C_drewN ?_ _) | (with_reducible refine Kd.C_drew ?_))); (case side4 => exact HC1_0.out); rintro e w' ⟨rfl, ⟨nd, rfl⟩⟩; refine ⟨_, rfl, ?_⟩) | ((with_reducible refine gate_callee (f := 18) rfl ?_); refine goesL_ (some 15) rfl rfl Try.func18 (by kernel_rfl) rfl #[.slice A0_1 l0_1.length c0_1, .slice A1_1 l1_1.length c1_1] rfl (by (try simp only [List.map_toArray, List.map_cons, List.map_nil]); first | done | rfl | (simp only [List.length_drop, List.length_take]; rfl)) ?_; (with_reducible refine (laws_eqIntS.calls k _ _ l0_1 _ _ l1_1 true _ ?side1 ?side2 ?side3 ?side4 A5.out).mono ?_); (case side1 => repeat (first | exact (Kd.C_below HR0_1.out (by repeat (first | (with_reducible first | exact HB.out | apply below_alloc | apply pw_below_drewN | apply below_drew1 | refine below_set ?_ GE364.out | refine below_set ?_ GE365.out) | exact HB.out))) | (with_reducible refine Kd.C_alloc ?_ _) | (with_reducible refine Kd.C_drewN ?_ _) | (with_reducible refine Kd.C_drew ?_))); (case side2 => exact HC0_1.out); (case side3 => repeat (first | exact (Kd.C_below HR1_1.out (by repeat (first | (with_reducible first | exact HB.out | apply below_alloc | apply pw_below_drewN | apply below_drew1 | refine below_set ?_ GE364.out | refine below_set ?_ GE365.out) | exact HB.out))) | (with_reducible refine Kd.C_alloc ?_ _) | (with_reducible refine Kd.C_drewN ?_ _) | (with_reducible refine Kd.C_drew ?_))); (case side4 => exact HC1_1.out); rintro e w' ⟨rfl, ⟨nd, rfl⟩⟩; refine ⟨_, rfl, ?_⟩))
      go_ret
      exact ⟨by first | rfl | (simp [errW_none, errW_some] <;> rfl) | (simp [*, errW_none, errW_some] <;> rfl), by repeat (first | (with_reducible first | exact HB.out | apply below_alloc | apply pw_below_drewN | apply below_drew1 | refine below_set ?_ GE364.out | refine below_set ?_ GE365.out) | exact HB.out)⟩
    · replace c6 := Bool.eq_false_iff.mpr c6
      subst c6
      have H1 : (some false) = some r := by rw [if_neg (show ¬ (false = true) by decide)] at H; exact H
      clear H
      have H := H1
      clear H1
      obtain rfl := Option.some.inj H
      go_enter Try.func26, Try.ntmps26
      go_wp2_with (first | ((with_reducible refine gate_dst (N := 2) rfl ?_); refine box_event ?hg (N := 2) ?hd (cs := #[.slice A0_0 l0_0.length c0_0, .slice A0_1 l0_1.length c0_1]) (t := 41) ?hr ?_; (case hd => rfl); (case hg => rfl); (case hr => first | (go_simp; done) | (go_simp; rfl)); intro gb364 hg w12 hbox hb; have n0_ := Aside0.mk (below_step (by repeat (first | (with_reducible first | exact HB.out | apply below_alloc | apply pw_below_drewN | apply below_drew1) | exact HB.out)) hb); have n1_ := Aside0.mk (hbox); have n2_ := Aside0.mk ((by rw [hg]; exact (below_size (by repeat (first | (with_reducible first | exact HB.out | apply below_alloc | apply pw_below_drewN | apply below_drew1) | exact HB.out))) : w.heap.size ≤ gb364)); have n3_ := Aside0.mk ((by rw [hg]; exact (below_size (by repeat (first | (with_reducible first | exact HB.out | apply below_alloc | apply pw_below_drewN | apply below_drew1) | exact HB.out))) : w.heap.size ≤ gb364)); clear HB; have HB := n0_; have BK364 := n1_; have GW364 := n2_; have GE364 := n3_; clear n0_ n1_ n2_ n3_; clear hb hbox hg) | ((with_reducible refine gate_dst (N := 3) rfl ?_); refine box_event ?hg (N := 3) ?hd (cs := #[.slice A1_0 l1_0.length c1_0, .slice A1_1 l1_1.length c1_1]) (t := 41) ?hr ?_; (case hd => rfl); (case hg => rfl); (case hr => first | (go_simp; done) | (go_simp; rfl)); intro gb365 hg w13 hbox hb; have n0_ := Aside0.mk (blk_below (g := gb364) (o := .cells #[.slice A0_0 l0_0.length c0_0, .slice A0_1 l0_1.length c0_1] 41 (0, 0)) (by (with_reducible repeat (first | refine blk_drewN ?_ _ | refine blk_drew ?_ | refine blk_alloc ?_ _)); exact BK364.out) hb); have n1_ := Aside0.mk (below_step (by repeat (first | (with_reducible first | exact HB.out | apply below_alloc | apply pw_below_drewN | apply below_drew1 | refine below_set ?_ GE364.out) | exact HB.out)) hb); have n2_ := Aside0.mk (hbox); have n3_ := Aside0.mk ((by rw [hg]; exact (below_size (by repeat (first | (with_reducible first | exact HB.out | apply below_alloc | apply pw_below_drewN | apply below_drew1 | refine below_set ?_ GE364.out) | exact HB.out))) : w.heap.size ≤ gb365)); have n4_ := Aside0.mk ((by rw [hg]; exact (below_size (by repeat (first | (with_reducible first | exact HB.out | apply below_alloc | apply pw_below_drewN | apply below_drew1 | refine below_set ?_ GE364.out) | exact HB.out))) : w.heap.size ≤ gb365)); have n5_ := Aside0.mk ((by rw [hg]; exact Nat.ne_of_lt (blk_lt (g := gb364) (o := .cells #[.slice A0_0 l0_0.length c0_0, .slice A0_1 l0_1.length c0_1] 41 (0, 0)) (by (with_reducible repeat (first | refine blk_drewN ?_ _ | refine blk_drew ?_ | refine blk_alloc ?_ _)); exact BK364.out)) : gb364 ≠ gb365)); have n6_ := Aside0.mk ((by rw [hg]; exact Nat.ne_of_gt (blk_lt (g := gb364) (o := .cells #[.slice A0_0 l0_0.length c0_0, .slice A0_1 l0_1.length c0_1] 41 (0, 0)) (by (with_reducible repeat (first | refine blk_drewN ?_ _ | refine blk_drew ?_ | refine blk_alloc ?_ _)); exact BK364.out)) : gb365 ≠ gb364)); clear BK364; clear HB; have BK364 := n0_; have HB := n1_; have BK365 := n2_; have GW365 := n3_; have GE365 := n4_; have NB364_365 := n5_; have NB365_364 := n6_; clear n0_ n1_ n2_ n3_ n4_ n5_ n6_; clear hb hbox hg; have hnb14 := NB364_365.out; have hnc14 := NB365_364.out; have hcz15_0 : w13.cell? ⟨gb364, 0, none⟩ = some (.slice A0_0 l0_0.length c0_0) := (blk_cell BK364.out 0).trans rfl; have hcz15_1 : w13.cell? ⟨gb364, 1, none⟩ = some (.slice A0_1 l0_1.length c0_1) := (blk_cell BK364.out 1).trans rfl; have hfz15_0 := blk_frozen BK364.out 0; have hfz15_1 := blk_frozen BK364.out 1; have hcz16_0 : w13.cell? ⟨gb365, 0, none⟩ = some (.slice A1_0 l1_0.length c1_0) := (blk_cell BK365.out 0).trans rfl; have hcz16_1 : w13.cell? ⟨gb365, 1, none⟩ = some (.slice A1_1 l1_1.length c1_1) := (blk_cell BK365.out 1).trans rfl; have hfz16_0 := blk_frozen BK365.out 0; have hfz16_1 := blk_frozen BK365.out 1) | ((with_reducible refine gate_callee (f := 18) rfl ?_); refine goesL_ (some 9) rfl rfl Try.func18 (by kernel_rfl) rfl #[.slice A0_0 l0_0.length c0_0, .slice A1_0 l1_0.length c1_0] rfl (by (try simp only [List.map_toArray, List.map_cons, List.map_nil]); first | done | rfl | (simp only [List.length_drop, List.length_take]; rfl)) ?_; (with_reducible refine (laws_eqIntS.calls k _ _ l0_0 _ _ l1_0 true _ ?side1 ?side2 ?side3 ?side4 A3.out).mono ?_); (case side1 => repeat (first | exact (Kd.C_below HR0_0.out HB.out) | (with_reducible refine Kd.C_alloc ?_ _) | (with_reducible refine Kd.C_drewN ?_ _) | (with_reducible refine Kd.C_drew ?_))); (case side2 => exact HC0_0.out); (case side3 => repeat (first | exact (Kd.C_below HR1_0.out HB.out) | (with_reducible refine Kd.C_alloc ?_ _) | (with_reducible refine Kd.C_drewN ?_ _) | (with_reducible refine Kd.C_drew ?_))); (case side4 => exact HC1_0.out); rintro e w' ⟨rfl, ⟨nd, rfl⟩⟩; refine ⟨_, rfl, ?_⟩) | ((with_reducible refine gate_callee (f := 18) rfl ?_); refine goesL_ (some 15) rfl rfl Try.func18 (by kernel_rfl) rfl #[.slice A0_1 l0_1.length c0_1, .slice A1_1 l1_1.length c1_1] rfl (by (try simp only [List.map_toArray, List.map_cons, List.map_nil]); first | done | rfl | (simp only [List.length_drop, List.length_take]; rfl)) ?_; (with_reducible refine (laws_eqIntS.calls k _ _ l0_1 _ _ l1_1 false _ ?side1 ?side2 ?side3 ?side4 A5.out).mono ?_); (case side1 => repeat (first | exact (Kd.C_below HR0_1.out (by repeat (first | (with_reducible first | exact HB.out | apply below_alloc | apply pw_below_drewN | apply below_drew1 | refine below_set ?_ GE364.out | refine below_set ?_ GE365.out) | exact HB.out))) | (with_reducible refine Kd.C_alloc ?_ _) | (with_reducible refine Kd.C_drewN ?_ _) | (with_reducible refine Kd.C_drew ?_))); (case side2 => exact HC0_1.out); (case side3 => repeat (first | exact (Kd.C_below HR1_1.out (by repeat (first | (with_reducible first | exact HB.out | apply below_alloc | apply pw_below_drewN | apply below_drew1 | refine below_set ?_ GE364.out | refine below_set ?_ GE365.out) | exact HB.out))) | (with_reducible refine Kd.C_alloc ?_ _) | (with_reducible refine Kd.C_drewN ?_ _) | (with_reducible refine Kd.C_drew ?_))); (case side4 => exact HC1_1.out); rintro e w' ⟨rfl, ⟨nd, rfl⟩⟩; refine ⟨_, rfl, ?_⟩))
      go_ret
      exact ⟨by first | rfl | (simp [errW_none, errW_some] <;> rfl) | (simp [*, errW_none, errW_some] <;> rfl), by repeat (first | (with_reducible first | exact HB.out | apply below_alloc | apply pw_below_drewN | apply below_drew1 | refine below_set ?_ GE364.out | refine below_set ?_ GE365.out) | exact HB.out)⟩
  · replace c4 := Bool.eq_false_iff.mpr c4
    subst c4
    have H1 : (some false) = some r := by rw [if_neg (show ¬ (false = true) by decide)] at H; exact H
    clear H
    have H := H1
    clear H1
    obtain rfl := Option.some.inj H
    go_enter Try.func26, Try.ntmps26
    go_wp2_with (first | ((with_reducible refine gate_dst (N := 2) rfl ?_); refine box_event ?hg (N := 2) ?hd (cs := #[.slice A0_0 l0_0.length c0_0, .slice A0_1 l0_1.length c0_1]) (t := 41) ?hr ?_; (case hd => rfl); (case hg => rfl); (case hr => first | (go_simp; done) | (go_simp; rfl)); intro gb364 hg w17 hbox hb; have n0_ := Aside0.mk (below_step (by repeat (first | (with_reducible first | exact HB.out | apply below_alloc | apply pw_below_drewN | apply below_drew1) | exact HB.out)) hb); have n1_ := Aside0.mk (hbox); have n2_ := Aside0.mk ((by rw [hg]; exact (below_size (by repeat (first | (with_reducible first | exact HB.out | apply below_alloc | apply pw_below_drewN | apply below_drew1) | exact HB.out))) : w.heap.size ≤ gb364)); have n3_ := Aside0.mk ((by rw [hg]; exact (below_size (by repeat (first | (with_reducible first | exact HB.out | apply below_alloc | apply pw_below_drewN | apply below_drew1) | exact HB.out))) : w.heap.size ≤ gb364)); clear HB; have HB := n0_; have BK364 := n1_; have GW364 := n2_; have GE364 := n3_; clear n0_ n1_ n2_ n3_; clear hb hbox hg) | ((with_reducible refine gate_dst (N := 3) rfl ?_); refine box_event ?hg (N := 3) ?hd (cs := #[.slice A1_0 l1_0.length c1_0, .slice A1_1 l1_1.length c1_1]) (t := 41) ?hr ?_; (case hd => rfl); (case hg => rfl); (case hr => first | (go_simp; done) | (go_simp; rfl)); intro gb365 hg w18 hbox hb; have n0_ := Aside0.mk (blk_below (g := gb364) (o := .cells #[.slice A0_0 l0_0.length c0_0, .slice A0_1 l0_1.length c0_1] 41 (0, 0)) (by (with_reducible repeat (first | refine blk_drewN ?_ _ | refine blk_drew ?_ | refine blk_alloc ?_ _)); exact BK364.out) hb); have n1_ := Aside0.mk (below_step (by repeat (first | (with_reducible first | exact HB.out | apply below_alloc | apply pw_below_drewN | apply below_drew1 | refine below_set ?_ GE364.out) | exact HB.out)) hb); have n2_ := Aside0.mk (hbox); have n3_ := Aside0.mk ((by rw [hg]; exact (below_size (by repeat (first | (with_reducible first | exact HB.out | apply below_alloc | apply pw_below_drewN | apply below_drew1 | refine below_set ?_ GE364.out) | exact HB.out))) : w.heap.size ≤ gb365)); have n4_ := Aside0.mk ((by rw [hg]; exact (below_size (by repeat (first | (with_reducible first | exact HB.out | apply below_alloc | apply pw_below_drewN | apply below_drew1 | refine below_set ?_ GE364.out) | exact HB.out))) : w.heap.size ≤ gb365)); have n5_ := Aside0.mk ((by rw [hg]; exact Nat.ne_of_lt (blk_lt (g := gb364) (o := .cells #[.slice A0_0 l0_0.length c0_0, .slice A0_1 l0_1.length c0_1] 41 (0, 0)) (by (with_reducible repeat (first | refine blk_drewN ?_ _ | refine blk_drew ?_ | refine blk_alloc ?_ _)); exact BK364.out)) : gb364 ≠ gb365)); have n6_ := Aside0.mk ((by rw [hg]; exact Nat.ne_of_gt (blk_lt (g := gb364) (o := .cells #[.slice A0_0 l0_0.length c0_0, .slice A0_1 l0_1.length c0_1] 41 (0, 0)) (by (with_reducible repeat (first | refine blk_drewN ?_ _ | refine blk_drew ?_ | refine blk_alloc ?_ _)); exact BK364.out)) : gb365 ≠ gb364)); clear BK364; clear HB; have BK364 := n0_; have HB := n1_; have BK365 := n2_; have GW365 := n3_; have GE365 := n4_; have NB364_365 := n5_; have NB365_364 := n6_; clear n0_ n1_ n2_ n3_ n4_ n5_ n6_; clear hb hbox hg; have hnb19 := NB364_365.out; have hnc19 := NB365_364.out; have hcz20_0 : w18.cell? ⟨gb364, 0, none⟩ = some (.slice A0_0 l0_0.length c0_0) := (blk_cell BK364.out 0).trans rfl; have hcz20_1 : w18.cell? ⟨gb364, 1, none⟩ = some (.slice A0_1 l0_1.length c0_1) := (blk_cell BK364.out 1).trans rfl; have hfz20_0 := blk_frozen BK364.out 0; have hfz20_1 := blk_frozen BK364.out 1; have hcz21_0 : w18.cell? ⟨gb365, 0, none⟩ = some (.slice A1_0 l1_0.length c1_0) := (blk_cell BK365.out 0).trans rfl; have hcz21_1 : w18.cell? ⟨gb365, 1, none⟩ = some (.slice A1_1 l1_1.length c1_1) := (blk_cell BK365.out 1).trans rfl; have hfz21_0 := blk_frozen BK365.out 0; have hfz21_1 := blk_frozen BK365.out 1) | ((with_reducible refine gate_callee (f := 18) rfl ?_); refine goesL_ (some 9) rfl rfl Try.func18 (by kernel_rfl) rfl #[.slice A0_0 l0_0.length c0_0, .slice A1_0 l1_0.length c1_0] rfl (by (try simp only [List.map_toArray, List.map_cons, List.map_nil]); first | done | rfl | (simp only [List.length_drop, List.length_take]; rfl)) ?_; (with_reducible refine (laws_eqIntS.calls k _ _ l0_0 _ _ l1_0 false _ ?side1 ?side2 ?side3 ?side4 A3.out).mono ?_); (case side1 => repeat (first | exact (Kd.C_below HR0_0.out HB.out) | (with_reducible refine Kd.C_alloc ?_ _) | (with_reducible refine Kd.C_drewN ?_ _) | (with_reducible refine Kd.C_drew ?_))); (case side2 => exact HC0_0.out); (case side3 => repeat (first | exact (Kd.C_below HR1_0.out HB.out) | (with_reducible refine Kd.C_alloc ?_ _) | (with_reducible refine Kd.C_drewN ?_ _) | (with_reducible refine Kd.C_drew ?_))); (case side4 => exact HC1_0.out); rintro e w' ⟨rfl, ⟨nd, rfl⟩⟩; refine ⟨_, rfl, ?_⟩))
    go_ret
    exact ⟨by first | rfl | (simp [errW_none, errW_some] <;> rfl) | (simp [*, errW_none, errW_some] <;> rfl), by repeat (first | (with_reducible first | exact HB.out | apply below_alloc | apply pw_below_drewN | apply below_drew1 | refine below_set ?_ GE364.out | refine below_set ?_ GE365.out) | exact HB.out)⟩

end Go.Proofs.Ytnnkjjacpbbigaa.PB
namespace Go.Proofs.Ytnnkjjacpbbigaa.PB
open Go.RowKit Go.Proofs.YtnnkjjacpbbigaaW.PrintWords Go.Proofs.YtnnkjjacpbbigaaW.PrintLast Go.Proofs.YtnnkjjacpbbigaaW.PrintMore
attribute [local go_sem] max2_int min2_int max_two min_two max_three min_three max_four min_four   -- for this text's walks alone

/-! ### laws_eqMeanderS: function 11 -/
def laws_eqMeanderS.l0 : Nat → List (S41) → List (S41) → Int → Option (Bool)
  | 0, _, _, _ => none
  | k + 1, x0, x1, x5 => if x5 < (x0.length : Int) then (if 0 ≤ x5 then (if x5 < (x1.length : Int) then ((laws_eqMeander.f k ((rd_T41 x0 x5).f0) ((rd_T41 x0 x5).f1) ((rd_T41 x1 x5).f0) ((rd_T41 x1 x5).f1)).bind fun t370 => (if t370 = true then (laws_eqMeanderS.l0 k x0 x1 (wrap64 (x5 + 1))) else (some false))) else (none)) else (none)) else (some true)
def laws_eqMeanderS.f (k : Nat) (l0 : List (S41)) (l1 : List (S41)) : Option (Bool) := if (l0.length : Int) = (l1.length : Int) then (laws_eqMeanderS.l0 k l0 l1 0) else (some false)
theorem laws_eqMeanderS.mono_l : ∀ k, (∀ y0 y1 y2, LeO (laws_eqMeanderS.l0 k y0 y1 y2) (laws_eqMeanderS.l0 (k + 1) y0 y1 y2))
  | 0 => fun _ _ _ r h => by simp [laws_eqMeanderS.l0] at h
  | k + 1 => by
    have ih0 := laws_eqMeanderS.mono_l k
    · intro y0 y1 y2
      unfold laws_eqMeanderS.l0
      repeat' first
      | (with_reducible exact ih0 _ _ _)
      | (with_reducible exact laws_eqMeander.mono _ _ _ _ _)
      | (with_reducible exact LeO.refl _)
      | (with_reducible exact LeO.none _)
      | (with_reducible refine LeO.ite ?_ ?_)
      | (with_reducible refine LeO.bind ?_ (fun _ => ?_))
      | exact ih0 _ _ _
      | exact laws_eqMeander.mono _ _ _ _ _
      | exact LeO.none _
      | refine LeO.ite ?_ ?_
      | refine LeO.bind ?_ (fun _ => ?_)
theorem laws_eqMeanderS.mono : ∀ a0 a1 k, LeO (laws_eqMeanderS.f k a0 a1) (laws_eqMeanderS.f (k + 1) a0 a1) := by
  intro a0 a1 k
  have ih0 := laws_eqMeanderS.mono_l k
  unfold laws_eqMeanderS.f
  repeat' first
      | (with_reducible exact ih0 _ _ _)
      | (with_reducible exact laws_eqMeander.mono _ _ _ _ _)
      | (with_reducible exact LeO.refl _)
      | (with_reducible exact LeO.none _)
      | (with_reducible refine LeO.ite ?_ ?_)
      | (with_reducible refine LeO.bind ?_ (fun _ => ?_))
      | exact ih0 _ _ _
      | exact laws_eqMeander.mono _ _ _ _ _
      | exact LeO.none _
      | refine LeO.ite ?_ ?_
      | refine LeO.bind ?_ (fun _ => ?_)
def laws_eqMeanderS.T6 : Bool × List (List Nat × List Nat) := (true, [([], []), ([], []), ([0, 1], [0, 1]), ([2], [2]), ([], []), ([], []), ([4, 5], [4, 5]), ([6], [6]), ([3, 7], [3, 7]), ([8], [8])])
def laws_eqMeanderS.B6 : List Nat := [0, 0, 3, 7, 0, 0, 48, 112, 255, 511]
theorem laws_eqMeanderS.tab6 : rtab .any (opsOf Try.f11 6) = laws_eqMeanderS.T6 := by kernel_rfl
theorem laws_eqMeanderS.bits6 : waitsOk laws_eqMeanderS.T6.2 laws_eqMeanderS.B6 = true := by kernel_rfl
set_option maxHeartbeats 8000000 in
set_option maxRecDepth 100000 in
theorem laws_eqMeanderS.calls (k : Nat) (A0 : Option Addr) (c0 : Nat) (l0 : List (S41)) (A1 : Option Addr) (c1 : Nat) (l1 : List (S41)) (r : Bool) (w : World) (hr0 : Kd.C k41 w A0 l0.length l0) (hc0 : l0.length ≤ c0) (hr1 : Kd.C k41 w A1 l1.length l1) (hc1 : l1.length ≤ c1) (h : laws_eqMeanderS.f k l0 l1 = some r) :
    Calls Try.prog 11 #[.slice A0 l0.length c0, .slice A1 l1.length c1] w fun e w' => e = .returned (.bool r) ∧ Below w.heap.size w w' := by
  have hu41 := Try.underlying41
  have HR0 := Aside0.mk hr0
  have HC0 := Aside0.mk hc0
  clear hr0 hc0
  have HR1 := Aside0.mk hr1
  have HC1 := Aside0.mk hc1
  clear hr1 hc1
  have HB := Aside0.mk (Below.refl w.heap.size w)
  have H : (if (l0.length : Int) = (l1.length : Int) then (laws_eqMeanderS.l0 k l0 l1 0) else (some false)) = some r := h
  clear h
  by_cases c3 : (l0.length : Int) = (l1.length : Int)
  · rw [if_pos c3] at H
    have c3b0 : ((l0.length : Int) == (l1.length : Int)) = true := beq_iff_eq.mpr c3
    have c3b1 : ((l0.length : Int) != (l1.length : Int)) = false := bne_eq_false_iff_eq.mpr c3
    have c3b2 : (l0.length == l1.length) = true := by first | simpa using c3 | (simp at c3 ⊢; omega)
    clear c3
    have H' := Aside0.mk H
    clear H
    go_enter Try.func11, Try.ntmps11
    go_wp2
    go_loopg [5] k (fun kq v5 w' => ∃ (x5_1 : Int), v5 = .int .i64 x5_1 ∧ Aside0 (laws_eqMeanderS.l0 kq l0 l1 x5_1 = some r) ∧ Aside0 (kq ≤ k) ∧ Aside0 (Below w.heap.size w w'))
    case atStart => exact ⟨(0), (by first | rfl | (simp; done) | (simp [*]; done)), H', ⟨Nat.le_refl _⟩, ⟨by repeat (first | (with_reducible first | exact HB.out | apply below_alloc | apply pw_below_drewN | apply below_drew1) | exact HB.out)⟩⟩
    case round =>
      clear H'
      try clear c1
      try clear p2
      try clear c3
      try clear c3b0
      try clear c3b1
      try clear c3b2
      obtain ⟨x5_1, rfl, HA, HK1, HB⟩ := hrel
      cases gk with
      | zero => exact absurd HA.out (by simp [laws_eqMeanderS.l0])
      | succ k1 =>
        have H := HA.out
        clear HA
        simp only [laws_eqMeanderS.l0] at H
        by_cases c4 : x5_1 < (l0.length : Int)
        · rw [if_pos c4] at H
          have c4b0 : decide (x5_1 < (l0.length : Int)) = true := decide_eq_true c4
          clear c4
          by_cases c5 : 0 ≤ x5_1
          · rw [if_pos c5] at H
            have c5b0 : decide (0 ≤ x5_1) = true := decide_eq_true c5
            clear c5
            by_cases c6 : x5_1 < (l1.length : Int)
            · rw [if_pos c6] at H
              have c6b0 : decide (x5_1 < (l1.length : Int)) = true := decide_eq_true c6
              clear c6
              replace H := Option.bind_eq_some_iff.mp H
              obtain ⟨t370, A70, H⟩ := H
              replace H : (if t370 = true then (laws_eqMeanderS.l0 k1 l0 l1 (wrap64 (x5_1 + 1))) else (some false)) = some r := H
              have A7 := Aside0.mk A70
              clear A70
              by_cases c8 : t370 = true
              · subst c8
                have H1 : (laws_eqMeanderS.l0 k1 l0 l1 (wrap64 (x5_1 + 1))) = some r := by rw [if_pos rfl] at H; exact H
                clear H
                have H := H1
                clear H1
                have H' := Aside0.mk H
                clear H
                try go_wp2
                have n0_ := Aside0.mk (below_drew1 HB.out)
                clear HB
                have HB := n0_
                clear n0_
                have p368 : 0 ≤ (x5_1 : Int) := of_decide_eq_true (by first | (with_reducible assumption) | assumption)
                have q368 : x5_1 < (l0.length : Int) := of_decide_eq_true (by first | (with_reducible assumption) | assumption)
                obtain ⟨ad368, A368_0, c368_0, A368_1, c368_1, e368, hx368_0, hx368_1, hl368_0, hi368_0, hl368_1, hi368_1⟩ := at_T41 HR0.out x5_1 p368 q368
                have hw368_1 := hx368_1
                have hw368_0 := hx368_0
                cases e368
                replace hx368_0 := (HB.out.cell (World.block_lt_of_cell? w _ hx368_0)).trans hx368_0
                replace hx368_1 := (HB.out.cell (World.block_lt_of_cell? w _ hx368_1)).trans hx368_1
                have HR368_0 := Aside0.mk hi368_0
                have HC368_0 := Aside0.mk hl368_0
                clear hi368_0 hl368_0
                have HR368_1 := Aside0.mk hi368_1
                have HC368_1 := Aside0.mk hl368_1
                clear hi368_1 hl368_1
                replace p368 := eq_true p368
                replace q368 := eq_true q368
                have p369 : 0 ≤ (x5_1 : Int) := of_decide_eq_true (by first | (with_reducible assumption) | assumption)
                have q369 : x5_1 < (l1.length : Int) := of_decide_eq_true (by first | (with_reducible assumption) | assumption)
                obtain ⟨ad369, A369_0, c369_0, A369_1, c369_1, e369, hx369_0, hx369_1, hl369_0, hi369_0, hl369_1, hi369_1⟩ := at_T41 HR1.out x5_1 p369 q369
                have hw369_1 := hx369_1
                have hw369_0 := hx369_0
                cases e369
                replace hx369_0 := (HB.out.cell (World.block_lt_of_cell? w _ hx369_0)).trans hx369_0
                replace hx369_1 := (HB.out.cell (World.block_lt_of_cell? w _ hx369_1)).trans hx369_1
                have HR369_0 := Aside0.mk hi369_0
                have HC369_0 := Aside0.mk hl369_0
                clear hi369_0 hl369_0
                have HR369_1 := Aside0.mk hi369_1
                have HC369_1 := Aside0.mk hl369_1
                clear hi369_1 hl369_1
                replace p369 := eq_true p369
                replace q369 := eq_true q369
                refine start_ (n := 10) (S := fun w' => w'.cell? (ad368.add ((x5_1).toNat * 2)) = some (.slice A368_0 ((rd_T41 l0 x5_1).f0).length c368_0) ∧ w'.cell? ⟨(ad368.add ((x5_1).toNat * 2)).block, (ad368.add ((x5_1).toNat * 2)).off + 1, none⟩ = some (.slice A368_1 ((rd_T41 l0 x5_1).f1).length c368_1) ∧ w'.cell? (ad369.add ((x5_1).toNat * 2)) = some (.slice A369_0 ((rd_T41 l1 x5_1).f0).length c369_0) ∧ w'.cell? ⟨(ad369.add ((x5_1).toNat * 2)).block, (ad369.add ((x5_1).toNat * 2)).off + 1, none⟩ = some (.slice A369_1 ((rd_T41 l1 x5_1).f1).length c369_1)) (ds := []) #[false, false, false, false, false, false, false, false, false, false] (by kernel_rfl) rfl rfl ⟨((HB.out.cell (World.block_lt_of_cell? w _ hw368_0)).trans hw368_0), ((HB.out.cell (World.block_lt_of_cell? w _ hw368_1)).trans hw368_1), ((HB.out.cell (World.block_lt_of_cell? w _ hw369_0)).trans hw369_0), ((HB.out.cell (World.block_lt_of_cell? w _ hw369_1)).trans hw369_1)⟩ (fun hHeld => ?_); refine with_tabW laws_eqMeanderS.tab6 laws_eqMeanderS.bits6 (fun HT_ HW_ => ?_)
                generalize wr.drew = w9 at HB HR368_0 HR368_1 HR369_0 HR369_1 hx368_0 hx368_1 hx369_0 hx369_1 hHeld ⊢
                refine pure_ (i := 0) (N := some 17) (v := ?_) (a' := ?_) #[true, false, false, false, false, false, false, false, false, false] rfl rfl (any_of HT_.out (by kernel_rfl)) (fun _ _ _ h => h) (Or.inl ⟨by rfl, ?_⟩) ?_ ?_
                rotate_left
                · intro w'
                  go_simp
                  with_reducible rfl
                rotate_left
                · simp only [Act.put, List.setIfInBounds_toArray, List.set_cons_zero, List.set_cons_succ, i64_w, i32_w]
                  rfl
                refine pure_ (i := 1) (N := some 18) (v := ?_) (a' := ?_) #[true, true, false, false, false, false, false, false, false, false] rfl rfl (any_of HT_.out (by kernel_rfl)) (fun _ _ _ h => h) (Or.inl ⟨by rfl, ?_⟩) ?_ ?_
                rotate_left
                · intro w'
                  go_simp
                  with_reducible rfl
                rotate_left
                · simp only [Act.put, List.setIfInBounds_toArray, List.set_cons_zero, List.set_cons_succ, i64_w, i32_w]
                  rfl
                refine pure_ (i := 2) (N := some 19) (v := ?_) (a' := ?_) #[true, true, true, false, false, false, false, false, false, false] rfl rfl (any_of HT_.out (by kernel_rfl)) (fun _ _ _ h => h) (Or.inl ⟨by rfl, ?_⟩) ?_ ?_
                rotate_left
                · intro w'
                  go_simp
                  with_reducible rfl
                rotate_left
                · simp only [Act.put, List.setIfInBounds_toArray, List.set_cons_zero, List.set_cons_succ, i64_w, i32_w]
                  rfl
                refine pure_ (i := 4) (N := some 21) (v := ?_) (a' := ?_) #[true, true, true, false, true, false, false, false, false, false] rfl rfl (any_of HT_.out (by kernel_rfl)) (fun _ _ _ h => h) (Or.inl ⟨by rfl, ?_⟩) ?_ ?_
                rotate_left
                · intro w'
                  go_simp
                  with_reducible rfl
                rotate_left
                · simp only [Act.put, List.setIfInBounds_toArray, List.set_cons_zero, List.set_cons_succ, i64_w, i32_w]
                  rfl
                refine pure_ (i := 5) (N := some 22) (v := ?_) (a' := ?_) #[true, true, true, false, true, true, false, false, false, false] rfl rfl (any_of HT_.out (by kernel_rfl)) (fun _ _ _ h => h) (Or.inl ⟨by rfl, ?_⟩) ?_ ?_
                rotate_left
                · intro w'
                  go_simp
                  with_reducible rfl
                rotate_left
                · simp only [Act.put, List.setIfInBounds_toArray, List.set_cons_zero, List.set_cons_succ, i64_w, i32_w]
                  rfl
                refine pure_ (i := 6) (N := some 23) (v := ?_) (a' := ?_) #[true, true, true, false, true, true, true, false, false, false] rfl rfl (any_of HT_.out (by kernel_rfl)) (fun _ _ _ h => h) (Or.inl ⟨by rfl, ?_⟩) ?_ ?_
                rotate_left
                · intro w'
                  go_simp
                  with_reducible rfl
                rotate_left
                · simp only [Act.put, List.setIfInBounds_toArray, List.set_cons_zero, List.set_cons_succ, i64_w, i32_w]
                  rfl
                refine take_ (i := 3) (N := some 20) (v := ?_) (a' := ?_) #[true, true, true, true, true, true, true, false, false, false] rfl rfl (take_ofW HT_.out HW_.out (by kernel_rfl)) (fun _ _ _ h => h) (Or.inl ⟨by rfl, ?_⟩) hHeld ?_ ?_
                rotate_left
                · rintro w' ⟨s0, s1, s2, s3⟩
                  go_simp
                  with_reducible rfl
                rotate_left
                · simp only [Act.put, List.setIfInBounds_toArray, List.set_cons_zero, List.set_cons_succ, i64_w, i32_w]
                  rfl
                refine take_ (i := 7) (N := some 24) (v := ?_) (a' := ?_) #[true, true, true, true, true, true, true, true, false, false] rfl rfl (take_ofW HT_.out HW_.out (by kernel_rfl)) (fun _ _ _ h => h) (Or.inl ⟨by rfl, ?_⟩) hHeld ?_ ?_
                rotate_left
                · rintro w' ⟨s0, s1, s2, s3⟩
                  go_simp
                  with_reducible rfl
                rotate_left
                · simp only [Act.put, List.setIfInBounds_toArray, List.set_cons_zero, List.set_cons_succ, i64_w, i32_w]
                  rfl
                refine one_ (i := 8) (N := some 25) #[true, true, true, true, true, true, true, true, true, false] rfl rfl (one_of HT_.out (by kernel_rfl)) (by decide) (fun K hK => ?_)
                refine goes_ Try.func26 (by kernel_rfl) rfl #[.agg #[.slice A368_0 ((rd_T41 l0 x5_1).f0).length c368_0, .slice A368_1 ((rd_T41 l0 x5_1).f1).length c368_1], .agg #[.slice A369_0 ((rd_T41 l1 x5_1).f0).length c369_0, .slice A369_1 ((rd_T41 l1 x5_1).f1).length c369_1]] (by rfl) rfl rfl (by (try simp only [List.map_toArray, List.map_cons, List.map_nil]); first | done | rfl | (simp only [List.length_drop, List.length_take]; rfl)) ?_
                with_reducible refine (laws_eqMeander.calls k1 _ _ ((rd_T41 l0 x5_1).f0) _ _ ((rd_T41 l0 x5_1).f1) _ _ ((rd_T41 l1 x5_1).f0) _ _ ((rd_T41 l1 x5_1).f1) true _ ?side1 ?side2 ?side3 ?side4 ?side5 ?side6 ?side7 ?side8 A7.out).mono ?_
                (case side1 => repeat (first | exact (Kd.C_below HR368_0.out HB.out) | (with_reducible refine Kd.C_alloc ?_ _) | (with_reducible refine Kd.C_drewN ?_ _) | (with_reducible refine Kd.C_drew ?_)))
                (case side2 => exact HC368_0.out)
                (case side3 => repeat (first | exact (Kd.C_below HR368_1.out HB.out) | (with_reducible refine Kd.C_alloc ?_ _) | (with_reducible refine Kd.C_drewN ?_ _) | (with_reducible refine Kd.C_drew ?_)))
                (case side4 => exact HC368_1.out)
                (case side5 => repeat (first | exact (Kd.C_below HR369_0.out HB.out) | (with_reducible refine Kd.C_alloc ?_ _) | (with_reducible refine Kd.C_drewN ?_ _) | (with_reducible refine Kd.C_drew ?_)))
                (case side6 => exact HC369_0.out)
                (case side7 => repeat (first | exact (Kd.C_below HR369_1.out HB.out) | (with_reducible refine Kd.C_alloc ?_ _) | (with_reducible refine Kd.C_drewN ?_ _) | (with_reducible refine Kd.C_drew ?_)))
                (case side8 => exact HC369_1.out)
                rintro e w10 ⟨rfl, hb⟩
                refine ⟨_, rfl, ?_⟩
                have n0_ := Aside0.mk (below_step (by repeat (first | (with_reducible first | exact HB.out | apply below_alloc | apply pw_below_drewN | apply below_drew1) | exact HB.out)) hb)
                clear HB
                have HB := n0_
                clear n0_
                (try clear hb)
                (try clear hb2)
                (try clear hk)
                (try clear hi)
                refine hK.out _ _ ⟨((HB.out.cell (World.block_lt_of_cell? w _ hw368_0)).trans hw368_0), ((HB.out.cell (World.block_lt_of_cell? w _ hw368_1)).trans hw368_1), ((HB.out.cell (World.block_lt_of_cell? w _ hw369_0)).trans hw369_0), ((HB.out.cell (World.block_lt_of_cell? w _ hw369_1)).trans hw369_1)⟩ (fun hHeld => ?_)
                clear hK K
                refine norm_ (a' := ?_) ?_ ?_
                rotate_left
                · show Act.put _ (some 25) _ = _
                  simp only [Act.put, List.setIfInBounds_toArray, List.set_cons_zero, List.set_cons_succ, i64_w, i32_w]
                  rfl
                refine pure_ (i := 9) (N := some 26) (v := ?_) (a' := ?_) #[true, true, true, true, true, true, true, true, true, true] rfl rfl (any_of HT_.out (by kernel_rfl)) (fun _ _ _ h => h) (Or.inl ⟨by rfl, ?_⟩) ?_ ?_
                rotate_left
                · intro w'
                  go_simp
                  with_reducible rfl
                rotate_left
                · simp only [Act.put, List.setIfInBounds_toArray, List.set_cons_zero, List.set_cons_succ, i64_w, i32_w]
                  rfl
                refine done_ (done_of HT_.out (by kernel_rfl)) ?_
                try go_wp2
                go_roundg k1
                case measure => have := HK1.out; omega
                case rel => exact ⟨(wrap64 (x5_1 + 1)), (by first | rfl | (simp; done) | (simp [*]; done)), H', ⟨by have := HK1.out; omega⟩, ⟨by repeat (first | (with_reducible first | exact HB.out | apply below_alloc | apply pw_below_drewN | apply below_drew1) | exact HB.out)⟩⟩
              · replace c8 := Bool.eq_false_iff.mpr c8
                subst c8
                have H1 : (some false) = some r := by rw [if_neg (show ¬ (false = true) by decide)] at H; exact H
                clear H
                have H := H1
                clear H1
                obtain rfl := Option.some.inj H
                try go_wp2
                have n0_ := Aside0.mk (below_drew1 HB.out)
                clear HB
                have HB := n0_
                clear n0_
                have p368 : 0 ≤ (x5_1 : Int) := of_decide_eq_true (by first | (with_reducible assumption) | assumption)
                have q368 : x5_1 < (l0.length : Int) := of_decide_eq_true (by first | (with_reducible assumption) | assumption)
                obtain ⟨ad368, A368_0, c368_0, A368_1, c368_1, e368, hx368_0, hx368_1, hl368_0, hi368_0, hl368_1, hi368_1⟩ := at_T41 HR0.out x5_1 p368 q368
                have hw368_1 := hx368_1
                have hw368_0 := hx368_0
                cases e368
                replace hx368_0 := (HB.out.cell (World.block_lt_of_cell? w _ hx368_0)).trans hx368_0
                replace hx368_1 := (HB.out.cell (World.block_lt_of_cell? w _ hx368_1)).trans hx368_1
                have HR368_0 := Aside0.mk hi368_0
                have HC368_0 := Aside0.mk hl368_0
                clear hi368_0 hl368_0
                have HR368_1 := Aside0.mk hi368_1
                have HC368_1 := Aside0.mk hl368_1
                clear hi368_1 hl368_1
                replace p368 := eq_true p368
                replace q368 := eq_true q368
                have p369 : 0 ≤ (x5_1 : Int) := of_decide_eq_true (by first | (with_reducible assumption) | assumption)
                have q369 : x5_1 < (l1.length : Int) := of_decide_eq_true (by first | (with_reducible assumption) | assumption)
                obtain ⟨ad369, A369_0, c369_0, A369_1, c369_1, e369, hx369_0, hx369_1, hl369_0, hi369_0, hl369_1, hi369_1⟩ := at_T41 HR1.out x5_1 p369 q369
                have hw369_1 := hx369_1
                have hw369_0 := hx369_0
                cases e369
                replace hx369_0 := (HB.out.cell (World.block_lt_of_cell? w _ hx369_0)).trans hx369_0
                replace hx369_1 := (HB.out.cell (World.block_lt_of_cell? w _ hx369_1)).trans hx369_1
                have HR369_0 := Aside0.mk hi369_0
                have HC369_0 := Aside0.mk hl369_0
                clear hi369_0 hl369_0
                have HR369_1 := Aside0.mk hi369_1
                have HC369_1 := Aside0.mk hl369_1
                clear hi369_1 hl369_1
                replace p369 := eq_true p369
                replace q369 := eq_true q369
                refine start_ (n := 10) (S := fun w' => w'.cell? (ad368.add ((x5_1).toNat * 2)) = some (.slice A368_0 ((rd_T41 l0 x5_1).f0).length c368_0) ∧ w'.cell? ⟨(ad368.add ((x5_1).toNat * 2)).block, (ad368.add ((x5_1).toNat * 2)).off + 1, none⟩ = some (.slice A368_1 ((rd_T41 l0 x5_1).f1).length c368_1) ∧ w'.cell? (ad369.add ((x5_1).toNat * 2)) = some (.slice A369_0 ((rd_T41 l1 x5_1).f0).length c369_0) ∧ w'.cell? ⟨(ad369.add ((x5_1).toNat * 2)).block, (ad369.add ((x5_1).toNat * 2)).off + 1, none⟩ = some (.slice A369_1 ((rd_T41 l1 x5_1).f1).length c369_1)) (ds := []) #[false, false, false, false, false, false, false, false, false, false] (by kernel_rfl) rfl rfl ⟨((HB.out.cell (World.block_lt_of_cell? w _ hw368_0)).trans hw368_0), ((HB.out.cell (World.block_lt_of_cell? w _ hw368_1)).trans hw368_1), ((HB.out.cell (World.block_lt_of_cell? w _ hw369_0)).trans hw369_0), ((HB.out.cell (World.block_lt_of_cell? w _ hw369_1)).trans hw369_1)⟩ (fun hHeld => ?_); refine with_tabW laws_eqMeanderS.tab6 laws_eqMeanderS.bits6 (fun HT_ HW_ => ?_)
                generalize wr.drew = w11 at HB HR368_0 HR368_1 HR369_0 HR369_1 hx368_0 hx368_1 hx369_0 hx369_1 hHeld ⊢
                refine pure_ (i := 0) (N := some 17) (v := ?_) (a' := ?_) #[true, false, false, false, false, false, false, false, false, false] rfl rfl (any_of HT_.out (by kernel_rfl)) (fun _ _ _ h => h) (Or.inl ⟨by rfl, ?_⟩) ?_ ?_
                rotate_left
                · intro w'
                  go_simp
                  with_reducible rfl
                rotate_left
                · simp only [Act.put, List.setIfInBounds_toArray, List.set_cons_zero, List.set_cons_succ, i64_w, i32_w]
                  rfl
                refine pure_ (i := 1) (N := some 18) (v := ?_) (a' := ?_) #[true, true, false, false, false, false, false, false, false, false] rfl rfl (any_of HT_.out (by kernel_rfl)) (fun _ _ _ h => h) (Or.inl ⟨by rfl, ?_⟩) ?_ ?_
                rotate_left
                · intro w'
                  go_simp
                  with_reducible rfl
                rotate_left
                · simp only [Act.put, List.setIfInBounds_toArray, List.set_cons_zero, List.set_cons_succ, i64_w, i32_w]
                  rfl
                refine pure_ (i := 2) (N := some 19) (v := ?_) (a' := ?_) #[true, true, true, false, false, false, false, false, false, false] rfl rfl (any_of HT_.out (by kernel_rfl)) (fun _ _ _ h => h) (Or.inl ⟨by rfl, ?_⟩) ?_ ?_
                rotate_left
                · intro w'
                  go_simp
                  with_reducible rfl
                rotate_left
                · simp only [Act.put, List.setIfInBounds_toArray, List.set_cons_zero, List.set_cons_succ, i64_w, i32_w]
                  rfl
                refine pure_ (i := 4) (N := some 21) (v := ?_) (a' := ?_) #[true, true, true, false, true, false, false, false, false, false] rfl rfl (any_of HT_.out (by kernel_rfl)) (fun _ _ _ h => h) (Or.inl ⟨by rfl, ?_⟩) ?_ ?_
                rotate_left
                · intro w'
                  go_simp
                  with_reducible rfl
                rotate_left
                · simp only [Act.put, List.setIfInBounds_toArray, List.set_cons_zero, List.set_cons_succ, i64_w, i32_w]
                  rfl
                refine pure_ (i := 5) (N := some 22) (v := ?_) (a' := ?_) #[true, true, true, false, true, true, false, false, false, false] rfl rfl (any_of HT_.out (by kernel_rfl)) (fun _ _ _ h => h) (Or.inl ⟨by rfl, ?_⟩) ?_ ?_
                rotate_left
                · intro w'
                  go_simp
                  with_reducible rfl
                rotate_left
                · simp only [Act.put, List.setIfInBounds_toArray, List.set_cons_zero, List.set_cons_succ, i64_w, i32_w]
                  rfl
                refine pure_ (i := 6) (N := some 23) (v := ?_) (a' := ?_) #[true, true, true, false, true, true, true, false, false, false] rfl rfl (any_of HT_.out (by kernel_rfl)) (fun _ _ _ h => h) (Or.inl ⟨by rfl, ?_⟩) ?_ ?_
                rotate_left
                · intro w'
                  go_simp
                  with_reducible rfl
                rotate_left
                · simp only [Act.put, List.setIfInBounds_toArray, List.set_cons_zero, List.set_cons_succ, i64_w, i32_w]
                  rfl
                refine take_ (i := 3) (N := some 20) (v := ?_) (a' := ?_) #[true, true, true, true, true, true, true, false, false, false] rfl rfl (take_ofW HT_.out HW_.out (by kernel_rfl)) (fun _ _ _ h => h) (Or.inl ⟨by rfl, ?_⟩) hHeld ?_ ?_
                rotate_left
                · rintro w' ⟨s0, s1, s2, s3⟩
                  go_simp
                  with_reducible rfl
                rotate_left
                · simp only [Act.put, List.setIfInBounds_toArray, List.set_cons_zero, List.set_cons_succ, i64_w, i32_w]
                  rfl
                refine take_ (i := 7) (N := some 24) (v := ?_) (a' := ?_) #[true, true, true, true, true, true, true, true, false, false] rfl rfl (take_ofW HT_.out HW_.out (by kernel_rfl)) (fun _ _ _ h => h) (Or.inl ⟨by rfl, ?_⟩) hHeld ?_ ?_
                rotate_left
                · rintro w' ⟨s0, s1, s2, s3⟩
                  go_simp
                  with_reducible rfl
                rotate_left
                · simp only [Act.put, List.setIfInBounds_toArray, List.set_cons_zero, List.set_cons_succ, i64_w, i32_w]
                  rfl
                refine one_ (i := 8) (N := some 25) #[true, true, true, true, true, true, true, true, true, false] rfl rfl (one_of HT_.out (by kernel_rfl)) (by decide) (fun K hK => ?_)
                refine goes_ Try.func26 (by kernel_rfl) rfl #[.agg #[.slice A368_0 ((rd_T41 l0 x5_1).f0).length c368_0, .slice A368_1 ((rd_T41 l0 x5_1).f1).length c368_1], .agg #[.slice A369_0 ((rd_T41 l1 x5_1).f0).length c369_0, .slice A369_1 ((rd_T41 l1 x5_1).f1).length c369_1]] (by rfl) rfl rfl (by (try simp only [List.map_toArray, List.map_cons, List.map_nil]); first | done | rfl | (simp only [List.length_drop, List.length_take]; rfl)) ?_
                with_reducible refine (laws_eqMeander.calls k1 _ _ ((rd_T41 l0 x5_1).f0) _ _ ((rd_T41 l0 x5_1).f1) _ _ ((rd_T41 l1 x5_1).f0) _ _ ((rd_T41 l1 x5_1).f1) false _ ?side1 ?side2 ?side3 ?side4 ?side5 ?side6 ?side7 ?side8 A7.out).mono ?_
                (case side1 => repeat (first | exact (Kd.C_below HR368_0.out HB.out) | (with_reducible refine Kd.C_alloc ?_ _) | (with_reducible refine Kd.C_drewN ?_ _) | (with_reducible refine Kd.C_drew ?_)))
                (case side2 => exact HC368_0.out)
                (case side3 => repeat (first | exact (Kd.C_below HR368_1.out HB.out) | (with_reducible refine Kd.C_alloc ?_ _) | (with_reducible refine Kd.C_drewN ?_ _) | (with_reducible refine Kd.C_drew ?_)))
                (case side4 => exact HC368_1.out)
                (case side5 => repeat (first | exact (Kd.C_below HR369_0.out HB.out) | (with_reducible refine Kd.C_alloc ?_ _) | (with_reducible refine Kd.C_drewN ?_ _) | (with_reducible refine Kd.C_drew ?_)))
                (case side6 => exact HC369_0.out)
                (case side7 => repeat (first | exact (Kd.C_below HR369_1.out HB.out) | (with_reducible refine Kd.C_alloc ?_ _) | (with_reducible refine Kd.C_drewN ?_ _) | (with_reducible refine Kd.C_drew ?_)))
                (case side8 => exact HC369_1.out)
                rintro e w12 ⟨rfl, hb⟩
                refine ⟨_, rfl, ?_⟩
                have n0_ := Aside0.mk (below_step (by repeat (first | (with_reducible first | exact HB.out | apply below_alloc | apply pw_below_drewN | apply below_drew1) | exact HB.out)) hb)
                clear HB
                have HB := n0_
                clear n0_
                (try clear hb)
                (try clear hb2)
                (try clear hk)
                (try clear hi)
                refine hK.out _ _ ⟨((HB.out.cell (World.block_lt_of_cell? w _ hw368_0)).trans hw368_0), ((HB.out.cell (World.block_lt_of_cell? w _ hw368_1)).trans hw368_1), ((HB.out.cell (World.block_lt_of_cell? w _ hw369_0)).trans hw369_0), ((HB.out.cell (World.block_lt_of_cell? w _ hw369_1)).trans hw369_1)⟩ (fun hHeld => ?_)
                clear hK K
                refine norm_ (a' := ?_) ?_ ?_
                rotate_left
                · show Act.put _ (some 25) _ = _
                  simp only [Act.put, List.setIfInBounds_toArray, List.set_cons_zero, List.set_cons_succ, i64_w, i32_w]
                  rfl
                refine pure_ (i := 9) (N := some 26) (v := ?_) (a' := ?_) #[true, true, true, true, true, true, true, true, true, true] rfl rfl (any_of HT_.out (by kernel_rfl)) (fun _ _ _ h => h) (Or.inl ⟨by rfl, ?_⟩) ?_ ?_
                rotate_left
                · intro w'
                  go_simp
                  with_reducible rfl
                rotate_left
                · simp only [Act.put, List.setIfInBounds_toArray, List.set_cons_zero, List.set_cons_succ, i64_w, i32_w]
                  rfl
                refine done_ (done_of HT_.out (by kernel_rfl)) ?_
                try go_wp2
                go_ret
                exact ⟨by first | rfl | (simp [errW_none, errW_some] <;> rfl) | (simp [*, errW_none, errW_some] <;> rfl), by repeat (first | (with_reducible first | exact HB.out | apply below_alloc | apply pw_below_drewN | apply below_drew1) | exact HB.out)⟩
            · rw [if_neg c6] at H
              exact absurd H (by simp)
          · rw [if_neg c5] at H
            exact absurd H (by simp)
        · rw [if_neg c4] at H
          have c4b0 : decide (x5_1 < (l0.length : Int)) = false := decide_eq_false c4
          clear c4
          obtain rfl := Option.some.inj H
          go_wp2
          go_ret
          exact ⟨by first | rfl | (simp [errW_none, errW_some] <;> rfl) | (simp [*, errW_none, errW_some] <;> rfl), by repeat (first | (with_reducible first | exact HB.out | apply below_alloc | apply pw_below_drewN | apply below_drew1) | exact HB.out)⟩
  · rw [if_neg c3] at H
    have c3b0 : ((l0.length : Int) == (l1.length : Int)) = false := beq_eq_false_iff_ne.mpr c3
    have c3b1 : ((l0.length : Int) != (l1.length : Int)) = true := bne_iff_ne.mpr c3
    have c3b2 : (l0.length == l1.length) = false := by first | simpa using c3 | (simp at c3 ⊢; omega)
    obtain rfl := Option.some.inj H
    go_enter Try.func11, Try.ntmps11
    go_wp2
    go_ret
    exact ⟨by first | rfl | (simp [errW_none, errW_some] <;> rfl) | (simp [*, errW_none, errW_some] <;> rfl), by repeat (first | (with_reducible first | exact HB.out | apply below_alloc | apply pw_below_drewN | apply below_drew1) | exact HB.out)⟩

end Go.Proofs.Ytnnkjjacpbbigaa.PB
namespace Go.Proofs.Ytnnkjjacpbbigaa.PB
open Go.RowKit Go.Proofs.YtnnkjjacpbbigaaW.PrintWords Go.Proofs.YtnnkjjacpbbigaaW.PrintLast Go.Proofs.YtnnkjjacpbbigaaW.PrintMore
attribute [local go_sem] max2_int min2_int max_two min_two max_three min_three max_four min_four   -- for this text's walks alone

/-! ### laws_markMeanderS: function 12 -/
def laws_markMeanderS.m (k : Nat) : List S41 → Int → Option (Int × List S41)
  | [], a => some (a, [])
  | x :: rest, a => (laws_markIntS.f k x.f0 a).bind fun p => (laws_markIntS.f k x.f1 p.1).bind fun p' => (laws_markMeanderS.m k rest p'.1).bind fun q => some (q.1, (⟨p.2, p'.2⟩ : S41) :: q.2)
set_option maxHeartbeats 8000000 in
set_option maxRecDepth 100000 in
theorem laws_markMeanderS.calls (k : Nat) (ok : Nat → Prop) (v : Value) (xs : List S41) (a r1 : Int) (r2 : List S41) (w0 w : World) (hB0 : Below w0.heap.size w0 w) (ho : Kd.S cm_kA 41 w w0.heap.size ok v xs) (h : laws_markMeanderS.m k xs a = some (r1, r2)) :
    Calls Try.prog 12 #[v, .int .i64 a] w fun e w' => e = .returned (.int .i64 r1) ∧ Kd.S cm_kA 41 w' w0.heap.size ok v r2 ∧ Below w0.heap.size w0 w' ∧ Kept w w' ok := by
  have hu41 := Try.underlying41
  have HB := Aside0.mk hB0
  have HO := Aside0.mk ho
  have HK := Aside0.mk (Kept.refl w ok)
  have H' := Aside0.mk (show ∃ rs, laws_markMeanderS.m k (xs.drop 0) a = some (r1, rs) ∧ r2 = [] ++ rs from ⟨r2, h, rfl⟩)
  obtain ⟨A0, c0, rfl⟩ := Kd.S_slice ho
  clear hB0 ho h
  have hmax := (Kd.S_reads' HO.out).2.2.2.1
  go_enter Try.func12, Try.ntmps12
  go_wp2
  go_loopg [1, 5] xs.length (fun kq v1 v5 w' => ∃ (ys : List S41) (aa : Int) (j : Nat), v1 = .int .i64 aa ∧ v5 = .int .i64 (j : Int) ∧ j ≤ xs.length ∧ kq = xs.length - j ∧ Aside0 (ys.length = j) ∧ Aside0 (∃ rs, laws_markMeanderS.m k (xs.drop j) aa = some (r1, rs) ∧ r2 = ys ++ rs) ∧ Aside0 (Kd.S cm_kA 41 w' w0.heap.size ok (.slice A0 xs.length c0) (ys ++ xs.drop j)) ∧ Aside0 (Below w0.heap.size w0 w') ∧ Aside0 (Kept w w' ok))
  case atStart => exact ⟨[], a, 0, rfl, rfl, Nat.zero_le _, rfl, ⟨rfl⟩, H', HO, HB, HK⟩
  case round =>
    clear H' HO HB HK
    obtain ⟨ys, aa, j, rfl, rfl, hj, hk, HY, HA, HO, HB, HK⟩ := hrel
    by_cases c : j < xs.length
    · obtain ⟨rs, H0, hr⟩ := HA.out
      clear HA
      have hy := HY.out
      obtain ⟨x, ex⟩ : ∃ x, x = xs[j] := ⟨_, rfl⟩
      have hd : xs.drop j = x :: xs.drop (j + 1) := by rw [ex]; exact List.drop_eq_getElem_cons c
      rw [hd] at H0
      obtain ⟨⟨p1, p2⟩, hp, H1⟩ := Option.bind_eq_some_iff.1 H0
      obtain ⟨⟨p3, p4⟩, hp2, H1'⟩ := Option.bind_eq_some_iff.1 H1
      obtain ⟨⟨q1, q2⟩, hq, H2⟩ := Option.bind_eq_some_iff.1 H1'
      clear H0 H1 H1'
      simp only [Option.some.injEq, Prod.mk.injEq] at H2
      obtain ⟨e11, e12⟩ := H2
      have hq' : laws_markMeanderS.m k (xs.drop (j + 1)) p3 = some (r1, q2) := by rw [← e11]; exact hq
      have hr' : r2 = (ys ++ [(⟨p2, p4⟩ : S41)]) ++ q2 := by rw [hr, ← e12]; simp
      have hlen : (ys ++ xs.drop j).length = xs.length := by simp [hy]; omega
      have hS := HO.out
      have hS2 : Kd.S cm_kA 41 wr w0.heap.size ok (.slice A0 (ys ++ xs.drop j).length c0) (ys ++ xs.drop j) := by rw [hlen]; exact hS
      obtain ⟨ad, A1, c1, A2, c2, oki, hh, eA, hx, hx1, hR, hR1, hoki, hH⟩ := cm_A_take hS2 j (by omega)
      have hgx : (ys ++ xs.drop j)[j]'(by omega) = x := by
        rw [List.getElem_append_right (by omega), ex]
        simp [hy]
      rw [hgx] at hx hx1 hR hR1 hH
      rw [hlen] at hH
      cases eA
      have hset : (ys ++ xs.drop j).set j (⟨p2, p4⟩ : S41) = (ys ++ [(⟨p2, p4⟩ : S41)]) ++ xs.drop (j + 1) := by
        rw [hd, List.set_append_right j _ (by omega), hy]
        simp
      have HR := Aside0.mk (Kd.R_tight rfl hR)
      have HR1 := Aside0.mk (Kd.R_tight rfl hR1)
      have HOK := Aside0.mk hR.1
      have HOK1 := Aside0.mk hR1.1
      have HX := Aside0.mk hH
      have HP := Aside0.mk hp
      have HP2 := Aside0.mk hp2
      have HQ := Aside0.mk hq'
      have HR2 := Aside0.mk hr'
      have HSET := Aside0.mk hset
      have HOI := Aside0.mk hoki
      have HJ := Aside0.mk (And.intro c (And.intro hk hy))
      have HBLK := Aside0.mk (World.block_lt_of_cell? wr _ hx1)
      have HTY := Aside0.mk (Kd.S_typed HO.out)
      have cb0 : decide ((j : Int) < (xs.length : Int)) = true := decide_eq_true (by omega)
      have p14 : (0 ≤ (j : Int)) = True := eq_true (by omega)
      have q14 : ((j : Int) < (xs.length : Int)) = True := eq_true (by omega)
      have HX1 := Aside0.mk hx1
      have HW1 := Aside0.mk (show wrap64 ((j : Int) + 1) = ((j + 1 : Nat) : Int) by simp only [wrap64]; omega)
      clear hd hp hp2 hq hq' hr hr' e11 e12 hlen hS hS2 hgx hR hR1 hoki hH HY hj hk hset ex hy c HO
      go_wp2_with fail
      refine (laws_markIntS.calls k _ _ x.f0 aa p1 p2 w0 _ HB.out HR.out HP.out).mono ?_
      rintro e w6 ⟨rfl, ho2, hb2, hk2⟩
      have HO2 := Aside0.mk ho2
      have HB2 := Aside0.mk hb2
      have HK2 := Aside0.mk hk2
      have hx2 : w6.cell? ⟨(ad.add (j * 2)).block, (ad.add (j * 2)).off + 1, none⟩ = some (.slice A2 x.f1.length c2) := cell_kept HX1.out hk2 (fun h_ => by
        obtain ⟨cells, hcells⟩ := HTY.out (ad.add (j * 2)).block (by simp [Value.ownBlock, add_block])
        exact Kd.R_ne HR.out hcells (by decide) h_)
      have HR12 := Aside0.mk (Kd.R_kept HR1.out hk2 (fun k_ h_ h2_ => by
        have h3 := (HOK.out k_ h2_.symm).2
        have h4 := (HOK1.out k_ h_.symm).2
        rw [h3] at h4
        cases h4))
      clear ho2 hb2 hk2 HB HR1 hx hx1 HX1
      dsimp only
      go_wp2_with fail
      refine (laws_markIntS.calls k _ _ x.f1 p1 p3 p4 w0 _ HB2.out HR12.out HP2.out).mono ?_
      rintro e w7 ⟨rfl, ho3, hb3, hk3⟩
      have HK3 := Aside0.mk (Kept.then_ (S := fun k_ => some k_ = (Value.slice A1 x.f0.length c1).ownBlock ∨ some k_ = (Value.slice A2 x.f1.length c2).ownBlock) (HK2.out.mono (fun _ h_ => .inl h_)) hk3 (fun _ h_ => .inl (.inr h_)))
      have HO3 := Aside0.mk (cm_A_put HX.out (fun k_ h_ => HOK.out k_ h_) (fun k_ h_ => HOK1.out k_ h_) HK3.out (Kd.R_kept (Kd.R_tight rfl HO2.out) hk3 (fun k_ h_ h2_ => by
        have h3 := (HOK.out k_ h_.symm).2
        have h4 := (HOK1.out k_ h2_.symm).2
        rw [h3] at h4
        cases h4)) ho3)
      have HB3 := Aside0.mk hb3
      have HK4 := Aside0.mk (Kept.then_ HK.out HK3.out (fun k_ hs_ => .inl (hs_.elim (fun h_ => HOI.out k_ (HOK.out k_ h_.symm).1) (fun h_ => HOI.out k_ (HOK1.out k_ h_.symm).1))))
      clear ho3 hb3 hk3 HX HR HR12 HB2 HK HK2 HK3 HO2 hx2
      dsimp only
      go_wp2
      go_roundg (xs.length - (j + 1))
      case measure => have := HJ.out; omega
      case rel => exact ⟨ys ++ [(⟨p2, p4⟩ : S41)], p3, j + 1, rfl, by first | go_num | rfl | rw [HW1.out], by have := HJ.out; omega, by have := HJ.out; omega, ⟨by have := HJ.out; simp; omega⟩, ⟨q2, HQ.out, HR2.out⟩, ⟨by rw [← HSET.out]; exact HO3.out⟩, HB3, HK4⟩
    · have cb0 : decide ((j : Int) < (xs.length : Int)) = false := decide_eq_false (by omega)
      obtain ⟨rs, H0, hr⟩ := HA.out
      rw [List.drop_eq_nil_of_le (by omega)] at H0
      simp only [laws_markMeanderS.m, Option.some.injEq, Prod.mk.injEq] at H0
      obtain ⟨e11, e12⟩ := H0
      have HS := HO
      have HR2 := Aside0.mk hr
      have H3 := Aside0.mk e11
      have H4 := Aside0.mk e12
      have HD := Aside0.mk (show xs.drop j = [] from List.drop_eq_nil_of_le (by omega))
      clear hr e11 e12 HA HO
      go_wp2
      go_ret
      exact ⟨by rw [← H3.out]; rfl, by rw [HR2.out, ← H4.out, ← HD.out]; exact HS.out, HB.out, HK.out⟩

end Go.Proofs.Ytnnkjjacpbbigaa.PB
namespace Go.Proofs.Ytnnkjjacpbbigaa.PB
open Go.RowKit Go.Proofs.YtnnkjjacpbbigaaW.PrintWords Go.Proofs.YtnnkjjacpbbigaaW.PrintLast Go.Proofs.YtnnkjjacpbbigaaW.PrintMore
attribute [local go_sem] max2_int min2_int max_two min_two max_three min_three max_four min_four   -- for this text's walks alone

/-! ### laws_heldMeanderS: function 13 -/
def laws_heldMeanderS.l0 : Nat → List (S41) → Int → Int → Option (Int)
  | 0, _, _, _ => none
  | k + 1, x0, x1, x5 => if x5 < (x0.length : Int) then (if 0 ≤ x5 then ((laws_heldIntS.f k ((rd_T41 x0 x5).f0) x1).bind fun t372 => (if t372 < 0 then (some (-1)) else ((laws_heldIntS.f k ((rd_T41 x0 x5).f1) t372).bind fun t374 => (if t374 < 0 then (some (-1)) else (laws_heldMeanderS.l0 k x0 t374 (wrap64 (x5 + 1))))))) else (none)) else (some x1)
def laws_heldMeanderS.f (k : Nat) (l0 : List (S41)) (a1 : Int) : Option (Int) := laws_heldMeanderS.l0 k l0 a1 0
theorem laws_heldMeanderS.mono_l : ∀ k, (∀ y0 y1 y2, LeO (laws_heldMeanderS.l0 k y0 y1 y2) (laws_heldMeanderS.l0 (k + 1) y0 y1 y2))
  | 0 => fun _ _ _ r h => by simp [laws_heldMeanderS.l0] at h
  | k + 1 => by
    have ih0 := laws_heldMeanderS.mono_l k
    · intro y0 y1 y2
      unfold laws_heldMeanderS.l0
      repeat' first
      | (with_reducible exact ih0 _ _ _)
      | (with_reducible exact laws_heldIntS.mono _ _ _)
      | (with_reducible exact LeO.refl _)
      | (with_reducible exact LeO.none _)
      | (with_reducible refine LeO.ite ?_ ?_)
      | (with_reducible refine LeO.bind ?_ (fun _ => ?_))
      | exact ih0 _ _ _
      | exact laws_heldIntS.mono _ _ _
      | exact LeO.none _
      | refine LeO.ite ?_ ?_
      | refine LeO.bind ?_ (fun _ => ?_)
theorem laws_heldMeanderS.mono : ∀ a0 a1 k, LeO (laws_heldMeanderS.f k a0 a1) (laws_heldMeanderS.f (k + 1) a0 a1) := by
  intro a0 a1 k
  have ih0 := laws_heldMeanderS.mono_l k
  unfold laws_heldMeanderS.f
  repeat' first
      | (with_reducible exact ih0 _ _ _)
      | (with_reducible exact laws_heldIntS.mono _ _ _)
      | (with_reducible exact LeO.refl _)
      | (with_reducible exact LeO.none _)
      | (with_reducible refine LeO.ite ?_ ?_)
      | (with_reducible refine LeO.bind ?_ (fun _ => ?_))
      | exact ih0 _ _ _
      | exact laws_heldIntS.mono _ _ _
      | exact LeO.none _
      | refine LeO.ite ?_ ?_
      | refine LeO.bind ?_ (fun _ => ?_)
set_option maxHeartbeats 8000000 in
set_option maxRecDepth 100000 in
theorem laws_heldMeanderS.calls (k : Nat) (A0 : Option Addr) (c0 : Nat) (l0 : List (S41)) (a1 : Int) (r : Int) (w : World) (hr0 : Kd.C k41 w A0 l0.length l0) (hc0 : l0.length ≤ c0) (h : laws_heldMeanderS.f k l0 a1 = some r) :
    Calls Try.prog 13 #[.slice A0 l0.length c0, .int .i64 a1] w fun e w' => e = .returned (.int .i64 r) ∧ Drawn0 w w' := by
  have HR0 := Aside0.mk hr0
  have HC0 := Aside0.mk hc0
  clear hr0 hc0
  have H : (laws_heldMeanderS.l0 k l0 a1 0) = some r := h
  clear h
  have H' := Aside0.mk H
  clear H
  go_enter Try.func13, Try.ntmps13
  go_wp2
  go_loopg [1, 5] k (fun kq v1 v5 w' => ∃ (x1_1 : Int) (x5_1 : Int), v1 = .int .i64 x1_1 ∧ v5 = .int .i64 x5_1 ∧ Aside0 (laws_heldMeanderS.l0 kq l0 x1_1 x5_1 = some r) ∧ Aside0 (kq ≤ k) ∧ Drawn0 w w')
  case atStart => exact ⟨(a1), (0), (by first | rfl | (simp; done) | (simp [*]; done)), (by first | rfl | (simp; done) | (simp [*]; done)), H', ⟨Nat.le_refl _⟩, by repeat (first | exact Drawn0.refl _ | apply Drawn0.step)⟩
  case round =>
    clear H'
    try clear c1
    try clear p2
    obtain ⟨x1_1, x5_1, rfl, rfl, HA, HK1, ⟨m1, rfl⟩⟩ := hrel
    cases gk with
    | zero => exact absurd HA.out (by simp [laws_heldMeanderS.l0])
    | succ k1 =>
      have H := HA.out
      clear HA
      simp only [laws_heldMeanderS.l0] at H
      by_cases c3 : x5_1 < (l0.length : Int)
      · rw [if_pos c3] at H
        have c3b0 : decide (x5_1 < (l0.length : Int)) = true := decide_eq_true c3
        clear c3
        by_cases c4 : 0 ≤ x5_1
        · rw [if_pos c4] at H
          have c4b0 : decide (0 ≤ x5_1) = true := decide_eq_true c4
          clear c4
          replace H := Option.bind_eq_some_iff.mp H
          obtain ⟨t372, A50, H⟩ := H
          replace H : (if t372 < 0 then (some (-1)) else ((laws_heldIntS.f k1 ((rd_T41 l0 x5_1).f1) t372).bind fun t374 => (if t374 < 0 then (some (-1)) else (laws_heldMeanderS.l0 k1 l0 t374 (wrap64 (x5_1 + 1)))))) = some r := H
          have A5 := Aside0.mk A50
          clear A50
          by_cases c6 : t372 < 0
          · rw [if_pos c6] at H
            have c6b0 : decide (t372 < 0) = true := decide_eq_true c6
            clear c6
            obtain rfl := Option.some.inj H
            have p371 : 0 ≤ (x5_1 : Int) := of_decide_eq_true (by first | (with_reducible assumption) | assumption)
            have q371 : x5_1 < (l0.length : Int) := of_decide_eq_true (by first | (with_reducible assumption) | assumption)
            obtain ⟨ad371, A371_0, c371_0, A371_1, c371_1, e371, hx371_0, hx371_1, hl371_0, hi371_0, hl371_1, hi371_1⟩ := at_T41 HR0.out x5_1 p371 q371
            cases e371
            have HR371_0 := Aside0.mk hi371_0
            have HC371_0 := Aside0.mk hl371_0
            clear hi371_0 hl371_0
            have HR371_1 := Aside0.mk hi371_1
            have HC371_1 := Aside0.mk hl371_1
            clear hi371_1 hl371_1
            replace p371 := eq_true p371
            replace q371 := eq_true q371
            go_wp2_with (first | ((with_reducible refine gate_callee (f := 20) rfl ?_); refine goesL_ (some 18) rfl rfl Try.func20 (by kernel_rfl) rfl #[.slice A371_0 ((rd_T41 l0 x5_1).f0).length c371_0, .int .i64 x1_1] rfl (by (try simp only [List.map_toArray, List.map_cons, List.map_nil]); first | done | rfl | (simp only [List.length_drop, List.length_take]; rfl)) ?_; (with_reducible refine (laws_heldIntS.calls k1 _ _ ((rd_T41 l0 x5_1).f0) x1_1 t372 _ ?side1 ?side2 A5.out).mono ?_); (case side1 => repeat (first | exact HR371_0.out | (with_reducible refine Kd.C_alloc ?_ _) | (with_reducible refine Kd.C_drewN ?_ _) | (with_reducible refine Kd.C_drew ?_))); (case side2 => exact HC371_0.out); rintro e w' ⟨rfl, ⟨nd, rfl⟩⟩; refine ⟨_, rfl, ?_⟩))
            go_ret
            exact ⟨by first | rfl | (simp; done) | (simp [*]; done), by repeat (first | exact Drawn0.refl _ | apply Drawn0.step)⟩
          · rw [if_neg c6] at H
            have c6b0 : decide (t372 < 0) = false := decide_eq_false c6
            clear c6
            replace H := Option.bind_eq_some_iff.mp H
            obtain ⟨t374, A70, H⟩ := H
            replace H : (if t374 < 0 then (some (-1)) else (laws_heldMeanderS.l0 k1 l0 t374 (wrap64 (x5_1 + 1)))) = some r := H
            have A7 := Aside0.mk A70
            clear A70
            by_cases c8 : t374 < 0
            · rw [if_pos c8] at H
              have c8b0 : decide (t374 < 0) = true := decide_eq_true c8
              clear c8
              obtain rfl := Option.some.inj H
              have p371 : 0 ≤ (x5_1 : Int) := of_decide_eq_true (by first | (with_reducible assumption) | assumption)
              have q371 : x5_1 < (l0.length : Int) := of_decide_eq_true (by first | (with_reducible assumption) | assumption)
              obtain ⟨ad371, A371_0, c371_0, A371_1, c371_1, e371, hx371_0, hx371_1, hl371_0, hi371_0, hl371_1, hi371_1⟩ := at_T41 HR0.out x5_1 p371 q371
              cases e371
              have HR371_0 := Aside0.mk hi371_0
              have HC371_0 := Aside0.mk hl371_0
              clear hi371_0 hl371_0
              have HR371_1 := Aside0.mk hi371_1
              have HC371_1 := Aside0.mk hl371_1
              clear hi371_1 hl371_1
              replace p371 := eq_true p371
              replace q371 := eq_true q371
              go_wp2_with (first | ((with_reducible refine gate_callee (f := 20) rfl ?_); refine goesL_ (some 18) rfl rfl Try.func20 (by kernel_rfl) rfl #[.slice A371_0 ((rd_T41 l0 x5_1).f0).length c371_0, .int .i64 x1_1] rfl (by (try simp only [List.map_toArray, List.map_cons, List.map_nil]); first | done | rfl | (simp only [List.length_drop, List.length_take]; rfl)) ?_; (with_reducible refine (laws_heldIntS.calls k1 _ _ ((rd_T41 l0 x5_1).f0) x1_1 t372 _ ?side1 ?side2 A5.out).mono ?_); (case side1 => repeat (first | exact HR371_0.out | (with_reducible refine Kd.C_alloc ?_ _) | (with_reducible refine Kd.C_drewN ?_ _) | (with_reducible refine Kd.C_drew ?_))); (case side2 => exact HC371_0.out); rintro e w' ⟨rfl, ⟨nd, rfl⟩⟩; refine ⟨_, rfl, ?_⟩; have p373 : 0 ≤ (x5_1 : Int) := of_decide_eq_true (by first | (with_reducible assumption) | assumption); have q373 : x5_1 < (l0.length : Int) := of_decide_eq_true (by first | (with_reducible assumption) | assumption); obtain ⟨ad373, A373_0, c373_0, A373_1, c373_1, e373, hx373_0, hx373_1, hl373_0, hi373_0, hl373_1, hi373_1⟩ := at_T41 HR0.out x5_1 p373 q373; obtain rfl : ad371 = ad373 := (by injection e373); have HR373_0 := Aside0.mk hi373_0; have HC373_0 := Aside0.mk hl373_0; clear hi373_0 hl373_0; have HR373_1 := Aside0.mk hi373_1; have HC373_1 := Aside0.mk hl373_1; clear hi373_1 hl373_1; replace p373 := eq_true p373; replace q373 := eq_true q373; have ea_ := Option.some.inj (hx371_0.symm.trans hx373_0); injection ea_ with ea_ en_ ec_; subst ea_; subst ec_; clear en_; have ea_ := Option.some.inj (hx371_1.symm.trans hx373_1); injection ea_ with ea_ en_ ec_; subst ea_; subst ec_; clear en_) | ((with_reducible refine gate_callee (f := 20) rfl ?_); refine goesL_ (some 27) rfl rfl Try.func20 (by kernel_rfl) rfl #[.slice A371_1 ((rd_T41 l0 x5_1).f1).length c371_1, .int .i64 t372] rfl (by (try simp only [List.map_toArray, List.map_cons, List.map_nil]); first | done | rfl | (simp only [List.length_drop, List.length_take]; rfl)) ?_; (with_reducible refine (laws_heldIntS.calls k1 _ _ ((rd_T41 l0 x5_1).f1) t372 t374 _ ?side1 ?side2 A7.out).mono ?_); (case side1 => repeat (first | exact HR373_1.out | (with_reducible refine Kd.C_alloc ?_ _) | (with_reducible refine Kd.C_drewN ?_ _) | (with_reducible refine Kd.C_drew ?_))); (case side2 => exact HC373_1.out); rintro e w' ⟨rfl, ⟨nd, rfl⟩⟩; refine ⟨_, rfl, ?_⟩))
              go_ret
              exact ⟨by first | rfl | (simp; done) | (simp [*]; done), by repeat (first | exact Drawn0.refl _ | apply Drawn0.step)⟩
            · rw [if_neg c8] at H
              have c8b0 : decide (t374 < 0) = false := decide_eq_false c8
              clear c8
              have H' := Aside0.mk H
              clear H
              have p371 : 0 ≤ (x5_1 : Int) := of_decide_eq_true (by first | (with_reducible assumption) | assumption)
              have q371 : x5_1 < (l0.length : Int) := of_decide_eq_true (by first | (with_reducible assumption) | assumption)
              obtain ⟨ad371, A371_0, c371_0, A371_1, c371_1, e371, hx371_0, hx371_1, hl371_0, hi371_0, hl371_1, hi371_1⟩ := at_T41 HR0.out x5_1 p371 q371
              cases e371
              have HR371_0 := Aside0.mk hi371_0
              have HC371_0 := Aside0.mk hl371_0
              clear hi371_0 hl371_0
              have HR371_1 := Aside0.mk hi371_1
              have HC371_1 := Aside0.mk hl371_1
              clear hi371_1 hl371_1
              replace p371 := eq_true p371
              replace q371 := eq_true q371
              go_wp2_with (first | ((with_reducible refine gate_callee (f := 20) rfl ?_); refine goesL_ (some 18) rfl rfl Try.func20 (by kernel_rfl) rfl #[.slice A371_0 ((rd_T41 l0 x5_1).f0).length c371_0, .int .i64 x1_1] rfl (by (try simp only [List.map_toArray, List.map_cons, List.map_nil]); first | done | rfl | (simp only [List.length_drop, List.length_take]; rfl)) ?_; (with_reducible refine (laws_heldIntS.calls k1 _ _ ((rd_T41 l0 x5_1).f0) x1_1 t372 _ ?side1 ?side2 A5.out).mono ?_); (case side1 => repeat (first | exact HR371_0.out | (with_reducible refine Kd.C_alloc ?_ _) | (with_reducible refine Kd.C_drewN ?_ _) | (with_reducible refine Kd.C_drew ?_))); (case side2 => exact HC371_0.out); rintro e w' ⟨rfl, ⟨nd, rfl⟩⟩; refine ⟨_, rfl, ?_⟩; have p373 : 0 ≤ (x5_1 : Int) := of_decide_eq_true (by first | (with_reducible assumption) | assumption); have q373 : x5_1 < (l0.length : Int) := of_decide_eq_true (by first | (with_reducible assumption) | assumption); obtain ⟨ad373, A373_0, c373_0, A373_1, c373_1, e373, hx373_0, hx373_1, hl373_0, hi373_0, hl373_1, hi373_1⟩ := at_T41 HR0.out x5_1 p373 q373; obtain rfl : ad371 = ad373 := (by injection e373); have HR373_0 := Aside0.mk hi373_0; have HC373_0 := Aside0.mk hl373_0; clear hi373_0 hl373_0; have HR373_1 := Aside0.mk hi373_1; have HC373_1 := Aside0.mk hl373_1; clear hi373_1 hl373_1; replace p373 := eq_true p373; replace q373 := eq_true q373; have ea_ := Option.some.inj (hx371_0.symm.trans hx373_0); injection ea_ with ea_ en_ ec_; subst ea_; subst ec_; clear en_; have ea_ := Option.some.inj (hx371_1.symm.trans hx373_1); injection ea_ with ea_ en_ ec_; subst ea_; subst ec_; clear en_) | ((with_reducible refine gate_callee (f := 20) rfl ?_); refine goesL_ (some 27) rfl rfl Try.func20 (by kernel_rfl) rfl #[.slice A371_1 ((rd_T41 l0 x5_1).f1).length c371_1, .int .i64 t372] rfl (by (try simp only [List.map_toArray, List.map_cons, List.map_nil]); first | done | rfl | (simp only [List.length_drop, List.length_take]; rfl)) ?_; (with_reducible refine (laws_heldIntS.calls k1 _ _ ((rd_T41 l0 x5_1).f1) t372 t374 _ ?side1 ?side2 A7.out).mono ?_); (case side1 => repeat (first | exact HR373_1.out | (with_reducible refine Kd.C_alloc ?_ _) | (with_reducible refine Kd.C_drewN ?_ _) | (with_reducible refine Kd.C_drew ?_))); (case side2 => exact HC373_1.out); rintro e w' ⟨rfl, ⟨nd, rfl⟩⟩; refine ⟨_, rfl, ?_⟩))
              go_roundg k1
              case measure => have := HK1.out; omega
              case rel => exact ⟨(t374), (wrap64 (x5_1 + 1)), (by first | rfl | (simp; done) | (simp [*]; done)), (by first | rfl | (simp; done) | (simp [*]; done)), H', ⟨by have := HK1.out; omega⟩, by repeat (first | exact Drawn0.refl _ | apply Drawn0.step)⟩
        · rw [if_neg c4] at H
          exact absurd H (by simp)
      · rw [if_neg c3] at H
        have c3b0 : decide (x5_1 < (l0.length : Int)) = false := decide_eq_false c3
        clear c3
        obtain rfl := Option.some.inj H
        go_wp2
        go_ret
        exact ⟨by first | rfl | (simp; done) | (simp [*]; done), by repeat (first | exact Drawn0.refl _ | apply Drawn0.step)⟩

end Go.Proofs.Ytnnkjjacpbbigaa.PB
namespace Go.Proofs.Ytnnkjjacpbbigaa.PB
open Go.RowKit Go.Proofs.YtnnkjjacpbbigaaW.PrintWords Go.Proofs.YtnnkjjacpbbigaaW.PrintLast Go.Proofs.YtnnkjjacpbbigaaW.PrintMore
attribute [local go_sem] max2_int min2_int max_two min_two max_three min_three max_four min_four   -- for this text's walks alone

/-! ### what the laws' own helpers answer: rows of pairs -/
theorem cl_rdM (l : List S41) (i : Nat) (h : i < l.length) : rd_T41 l (i : Int) = l[i] := by simp [rd_T41, List.getD_eq_getElem?_getD, h]
def cl_fitM (r : List S41) : Prop := r.length ≤ 1000000 ∧ ∀ x ∈ r, x.f0.length ≤ 1000 ∧ x.f1.length ≤ 1000
theorem cl_eqMeanderS_l (r : List S41) (hr : r.length ≤ 1000000) (hx : ∀ x ∈ r, x.f0.length ≤ 1000 ∧ x.f1.length ≤ 1000) (d : Nat) : ∀ (k i : Nat), i ≤ r.length → r.length - i = d → d + 1001 < k → laws_eqMeanderS.l0 k r r (i : Int) = some true := by
  induction d with
  | zero =>
    intro k i h0 hd hk
    obtain ⟨k, rfl⟩ : ∃ m, k = m + 1 := ⟨k - 1, by omega⟩
    simp only [laws_eqMeanderS.l0]
    rw [if_neg (by omega)]
  | succ d ih =>
    intro k i h0 hd hk
    obtain ⟨k, rfl⟩ : ∃ m, k = m + 1 := ⟨k - 1, by omega⟩
    simp only [laws_eqMeanderS.l0]
    have hi : i < r.length := by omega
    have hxi := hx r[i] (List.getElem_mem hi)
    rw [if_pos (by omega), if_pos (by omega), if_pos (by omega), cl_rdM r i hi]
    have he : laws_eqMeander.f k r[i].f0 r[i].f1 r[i].f0 r[i].f1 = some true := by simp [laws_eqMeander.f, cl_eqIntS r[i].f0 (by omega) k (by omega), cl_eqIntS r[i].f1 (by omega) k (by omega)]
    rw [he, cl_w1 (by omega) (by omega)]
    simp only [Option.bind_some, if_true]
    exact ih k (i + 1) (by omega) (by omega) (by omega)
theorem cl_eqMeanderS (r : List S41) (h : cl_fitM r) (k : Nat) (hk : r.length + 1001 < k) : laws_eqMeanderS.f k r r = some true := by
  unfold laws_eqMeanderS.f
  rw [if_pos rfl]
  exact cl_eqMeanderS_l r h.1 h.2 r.length k 0 (by omega) (by omega) hk
def cl_totM : List S41 → Int
  | [] => 0
  | x :: r => (x.f0.length : Int) + (x.f1.length : Int) + cl_totM r
def cl_mkM : List S41 → Int → List S41
  | [], _ => []
  | x :: r, a => ⟨cl_mk x.f0.length a, cl_mk x.f1.length (a + (x.f0.length : Int))⟩ :: cl_mkM r (a + (x.f0.length : Int) + (x.f1.length : Int))
theorem cl_totM_le (r : List S41) (hx : ∀ x ∈ r, x.f0.length ≤ 1000 ∧ x.f1.length ≤ 1000) : 0 ≤ cl_totM r ∧ cl_totM r ≤ 2000 * (r.length : Int) := by
  induction r with
  | nil => simp [cl_totM]
  | cons x r ih =>
    have h1 := ih (fun y hy => hx y (List.mem_cons_of_mem _ hy))
    have h2 := hx x List.mem_cons_self
    simp only [cl_totM, List.length_cons]
    omega
theorem cl_markMeanderS (k : Nat) (hk : 1001 < k) : ∀ (r : List S41) (a : Int), 0 ≤ a → (∀ x ∈ r, x.f0.length ≤ 1000 ∧ x.f1.length ≤ 1000) → a + 2000 * (r.length : Int) ≤ 1000000000000 → laws_markMeanderS.m k r a = some (a + cl_totM r, cl_mkM r a)
  | [], a, _, _, _ => by simp [laws_markMeanderS.m, cl_totM, cl_mkM]
  | x :: r, a, ha, hx, hl => by
    have h2 := hx x List.mem_cons_self
    simp only [List.length_cons] at hl
    unfold laws_markMeanderS.m
    rw [cl_markIntS x.f0 a ha (by omega) k (by omega)]
    simp only [Option.bind_some]
    rw [cl_markIntS x.f1 (a + (x.f0.length : Int)) (by omega) (by omega) k (by omega)]
    simp only [Option.bind_some]
    rw [cl_markMeanderS k hk r (a + (x.f0.length : Int) + (x.f1.length : Int)) (by omega) (fun y hy => hx y (List.mem_cons_of_mem _ hy)) (by omega)]
    simp [cl_totM, cl_mkM]
    omega
theorem cl_mkM_length : ∀ (r : List S41) (a : Int), (cl_mkM r a).length = r.length
  | [], _ => rfl
  | x :: r, a => by simp [cl_mkM, cl_mkM_length r]
theorem cl_heldMeanderS_l (L : List S41) (hL : L.length ≤ 1000000) (r : List S41) : ∀ (i : Nat) (a : Int) (k : Nat), 0 ≤ a → (∀ x ∈ r, x.f0.length ≤ 1000 ∧ x.f1.length ≤ 1000) → a + 2000 * (r.length : Int) ≤ 1000000000000 → L.drop i = cl_mkM r a → i + r.length = L.length → r.length + 1001 < k →
    laws_heldMeanderS.l0 k L a (i : Int) = some (a + cl_totM r) := by
  induction r with
  | nil =>
    intro i a k ha hx hl hd hi hk
    obtain ⟨k, rfl⟩ : ∃ m, k = m + 1 := ⟨k - 1, by omega⟩
    simp only [laws_heldMeanderS.l0]
    simp only [List.length_nil] at hi
    rw [if_neg (by omega)]
    simp [cl_totM]
  | cons x r ih =>
    intro i a k ha hx hl hd hi hk
    have h2 := hx x List.mem_cons_self
    obtain ⟨k, rfl⟩ : ∃ m, k = m + 1 := ⟨k - 1, by omega⟩
    simp only [List.length_cons] at hl hi hk
    simp only [laws_heldMeanderS.l0]
    have hil : i < L.length := by omega
    rw [List.drop_eq_getElem_cons hil] at hd
    simp only [cl_mkM, List.cons.injEq] at hd
    rw [if_pos (by omega), if_pos (by omega), cl_rdM L i hil, hd.1]
    simp only []
    rw [cl_heldIntS x.f0.length a ha (by omega) k (by omega)]
    simp only [Option.bind_some]
    rw [if_neg (by omega), cl_heldIntS x.f1.length (a + (x.f0.length : Int)) (by omega) (by omega) k (by omega)]
    simp only [Option.bind_some]
    rw [if_neg (by omega), cl_w1 (by omega) (by omega)]
    have h3 := ih (i + 1) (a + (x.f0.length : Int) + (x.f1.length : Int)) k (by omega) (fun y hy => hx y (List.mem_cons_of_mem _ hy)) (by omega) hd.2 (by omega) (by omega)
    rw [show ((i : Int) + 1) = ((i + 1 : Nat) : Int) by omega, h3]
    simp [cl_totM]
    omega
theorem cl_heldMeanderS (r : List S41) (h : cl_fitM r) (k : Nat) (hk : r.length + 1001 < k) : laws_heldMeanderS.f k (cl_mkM r 1) 1 = some (1 + cl_totM r) := by
  have h1 := h.1
  have := cl_heldMeanderS_l (cl_mkM r 1) (by rw [cl_mkM_length]; exact h.1) r 0 1 k (by omega) h.2 (by omega) (by simp) (by rw [cl_mkM_length]; omega) hk
  simpa [laws_heldMeanderS.f] using this

end Go.Proofs.Ytnnkjjacpbbigaa.PB
namespace Go.Proofs.Ytnnkjjacpbbigaa.PB
open Go.RowKit Go.Proofs.YtnnkjjacpbbigaaW.PrintWords Go.Proofs.YtnnkjjacpbbigaaW.PrintLast Go.Proofs.YtnnkjjacpbbigaaW.PrintMore
attribute [local go_sem] max2_int min2_int max_two min_two max_three min_three max_four min_four   -- for this text's walks alone

/-! ### impl_in: function 57 -/
def impl_in.f (a0 : Int) (a1 : Int) (a2 : Int) : Option (Bool) := if a1 ≤ a0 then (some (decide (a0 ≤ a2))) else (some false)
set_option maxHeartbeats 8000000 in
set_option maxRecDepth 100000 in
theorem impl_in.calls (a0 : Int) (a1 : Int) (a2 : Int) (r : Bool) (w : World) (h : impl_in.f a0 a1 a2 = some r) :
    Calls Try.prog 57 #[.int .i64 a0, .int .i64 a1, .int .i64 a2] w fun e w' => e = .returned (.bool r) ∧ Drawn0 w w' := by
  have H : (if a1 ≤ a0 then (some (decide (a0 ≤ a2))) else (some false)) = some r := h
  clear h
  by_cases c4 : a1 ≤ a0
  · rw [if_pos c4] at H
    have c4b0 : decide (a1 ≤ a0) = true := decide_eq_true c4
    clear c4
    obtain rfl := Option.some.inj H
    go_enter Try.func57, Try.ntmps57
    go_wp2
    go_ret
    exact ⟨by first | rfl | (simp; done) | (simp [*]; done), by repeat (first | exact Drawn0.refl _ | apply Drawn0.step)⟩
  · rw [if_neg c4] at H
    have c4b0 : decide (a1 ≤ a0) = false := decide_eq_false c4
    clear c4
    obtain rfl := Option.some.inj H
    go_enter Try.func57, Try.ntmps57
    go_wp2
    go_ret
    exact ⟨by first | rfl | (simp; done) | (simp [*]; done), by repeat (first | exact Drawn0.refl _ | apply Drawn0.step)⟩

end Go.Proofs.Ytnnkjjacpbbigaa.PB
namespace Go.Proofs.Ytnnkjjacpbbigaa.PB
open Go.RowKit Go.Proofs.YtnnkjjacpbbigaaW.PrintWords Go.Proofs.YtnnkjjacpbbigaaW.PrintLast Go.Proofs.YtnnkjjacpbbigaaW.PrintMore
attribute [local go_sem] max2_int min2_int max_two min_two max_three min_three max_four min_four   -- for this text's walks alone

/-! ### cells of a row put in another order (a sort) -/
section
open Go.Sort
variable {α : Type} [Inhabited α]
theorem cm_holds {enc : α → Value} {w : World} {g : Nat} {cur : Array Value} {e : TypeId} {d : Array α} (hb : w.heap[g]? = some (.cells cur e (0, 0))) (ht : cur.toList.take d.size = d.toList.map enc) : Holds enc w g 0 d := by
  intro j hj
  refine ⟨?_, by simp [World.frozen?, hb]⟩
  have h1 : (cur.toList.take d.size)[j]? = (d.toList.map enc)[j]? := by rw [ht]
  rw [List.getElem?_take_of_lt hj] at h1
  simp only [World.cell?, hb, Nat.zero_add]
  simp only [Option.isSome_none, Bool.false_eq_true, if_false]
  rw [← Array.getElem?_toList, h1]
  simp [hj]
theorem cm_heap_sorted {enc : α → Value} {w : World} {g n : Nat} {os : Array Obj} {cur : Array Value} {e : TypeId} {fr : Nat × Nat} (d : Array α) (hb : w.heap[g]? = some (.cells cur e fr)) :
    (sortWorld enc w g 0 n d os).heap[g]? = some (.cells (putCells enc 0 d cur) e fr) := by
  have hg : g < w.heap.size := (Array.getElem?_eq_some_iff.1 hb).1
  unfold sortWorld
  rw [heap_grow_old _ _ (by simpa using hg)]
  simp [putRow, mapBlock, Sort.ahead, Array.getElem?_modify, hb, onCells]
theorem cm_grown_sorted {enc : α → Value} {w : World} {g n : Nat} {os : Array Obj} (d : Array α) : w.grownBy (sortWorld enc w g 0 n d os) (some g) := by
  unfold sortWorld
  refine ⟨rfl, rfl, rfl, by simp, fun k hk hne => ?_⟩
  rw [heap_grow_old _ _ (by simpa using hk)]
  have : g ≠ k := fun e => hne (by rw [e])
  simp [putRow, mapBlock, Sort.ahead, Array.getElem?_modify, this]
theorem cm_take_putCells {enc : α → Value} (cur : Array Value) (d : Array α) (h : d.size ≤ cur.size) : (putCells enc 0 d cur).toList.take d.size = d.toList.map enc := by
  apply List.ext_getElem?
  intro j
  by_cases hj : j < d.size
  · rw [List.getElem?_take_of_lt hj, Array.getElem?_toList]
    simp [putCells, hj, show j < cur.size by omega]
  · rw [List.getElem?_take_eq_none (by omega), List.getElem?_eq_none (by simp; omega)]
theorem cm_owns_sorted {enc : α → Value} {w : World} {base g cap n m : Nat} {e : TypeId} {os : Array Obj} {cur : Array Value} (d : Array α) (hm : d.size = m) (hbase : base ≤ g) (hb : w.heap[g]? = some (.cells cur e (0, 0)))
    (h1 : m ≤ cap) (h2 : cap ≤ maxLen) (h3 : cur.size = cap * 1) :
    (sortWorld enc w g 0 n d os).ownsRow base e 1 (.slice (some ⟨g, 0, none⟩) m cap) m (d.toList.map enc) := by
  subst hm
  exact ⟨by simp, .inr ⟨g, cap, _, rfl, hbase, cm_heap_sorted _ hb, h1, h2, by simp [putCells, h3], by rw [Nat.mul_one]; exact cm_take_putCells cur d (by omega)⟩⟩
end
/-! ### some of a row's elements, in any order, in a row again: they lie apart as they did -/
section
variable {α : Type} {d : Kd α} {e : Nat} {W W' : World} {base : Nat} {ok : Nat → Prop} {v v' : Value} {xs : List α}
theorem cm_S_pick {f : Nat → Nat} {inner inner' : List Value} (hok : ∀ k, v'.ownBlock = some k → ok k) (hv : ∀ k, some k ≠ v.ownBlock → some k ≠ v'.ownBlock)
    (hr : Reps ((Kd.tag f d).M W base (fun k => ok k ∧ some k ≠ v.ownBlock)) d.sz xs.zipIdx inner) (js : List Nat) (hn : js.Nodup) (z : α)
    (hj : ∀ j ∈ js, j < xs.length) (ho : W'.ownsRow base e d.sz v' js.length inner') (hi : ∀ q j, js[q]? = some j → (inner'.drop (q * d.sz)).take d.sz = (inner.drop (j * d.sz)).take d.sz)
    (hm : ∀ k, some k ≠ v.ownBlock → k < W.heap.size → W'.heap[k]? = W.heap[k]?) : Kd.S d e W' base ok v' (js.map fun j => xs.getD j z) := by
  refine ⟨fun k => js.idxOf (f k), hok, inner', by rw [List.length_zipIdx, List.length_map]; exact ho, ?_, ?_⟩
  · rw [List.length_zipIdx, List.length_map]; exact ho.1
  · intro q p hp
    rw [List.getElem?_zipIdx, List.getElem?_map, Nat.zero_add] at hp
    cases hjq : js[q]? with
    | none => rw [hjq] at hp; cases hp
    | some j =>
      rw [hjq] at hp
      simp only [Option.map_some, Option.some.injEq] at hp
      subst hp
      have hjm : j ∈ js := List.mem_of_getElem? hjq
      have hjl := hj j hjm
      have h1 := hr.2 j (xs.getD j z, j) (Kd.zip_at (by rw [List.getD_eq_getElem?_getD, List.getElem?_eq_getElem hjl]; rfl))
      change d.M W base (fun k => (ok k ∧ some k ≠ v.ownBlock) ∧ f k = j) (xs.getD j z) ((inner.drop (j * d.sz)).take d.sz) at h1
      show d.M W' base (fun k => (ok k ∧ some k ≠ v'.ownBlock) ∧ js.idxOf (f k) = q) (xs.getD j z) ((inner'.drop (q * d.sz)).take d.sz)
      rw [hi q j hjq]
      refine d.M_mono (fun k hk => ?_) (d.M_move (fun k hk => hm k hk.1.1.2 hk.2.2.1) (d.M_bound h1))
      refine ⟨⟨hk.1.1.1, hv k hk.1.1.2⟩, ?_⟩
      rw [hk.1.2]
      obtain ⟨hq, he⟩ := List.getElem?_eq_some_iff.1 hjq
      rw [← he]
      exact hn.idxOf_getElem q hq
end
/-! ### lists of integers in their order -/
def lexI : List Int → List Int → Int
  | [], [] => 0
  | [], _ :: _ => -1
  | _ :: _, [] => 1
  | a :: l, b :: m => if a < b then -1 else if b < a then 1 else lexI l m
theorem lexI_neg : ∀ l m, lexI m l = - lexI l m
  | [], [] => rfl
  | [], _ :: _ => rfl
  | _ :: _, [] => rfl
  | a :: l, b :: m => by
    simp only [lexI]
    have := lexI_neg l m
    split <;> split <;> first | omega | (try split) <;> omega
theorem lexI_zero : ∀ l m, lexI l m = 0 → l = m
  | [], [], _ => rfl
  | [], _ :: _, h => by simp [lexI] at h
  | _ :: _, [], h => by simp [lexI] at h
  | a :: l, b :: m, h => by
    simp only [lexI] at h
    split at h
    · omega
    · split at h
      · omega
      · rw [lexI_zero l m h, show a = b by omega]
theorem lexI_self : ∀ l, lexI l l = 0
  | [] => rfl
  | a :: l => by simp only [lexI]; rw [if_neg (by omega), if_neg (by omega)]; exact lexI_self l
theorem lexI_trans : ∀ l m q, lexI l m ≤ 0 → lexI m q ≤ 0 → lexI l q ≤ 0
  | [], _, [], _, _ => by simp [lexI]
  | [], _, _ :: _, _, _ => by simp [lexI]
  | _ :: _, [], _, h, _ => by simp [lexI] at h
  | _ :: _, _ :: _, [], _, h => by simp [lexI] at h
  | a :: l, b :: m, c :: q, h1, h2 => by
    simp only [lexI] at h1 h2 ⊢
    have := lexI_trans l m q
    split
    · omega
    · split at h1
      · split at h2
        · omega
        · split at h2
          · omega
          · split
            · omega
            · omega
      · split at h1
        · omega
        · split at h2
          · omega
          · split at h2
            · omega
            · rw [if_neg (by omega)]
              exact this h1 h2
theorem lexI_anti (l m : List Int) (h1 : lexI l m ≤ 0) (h2 : lexI m l ≤ 0) : l = m := lexI_zero l m (by have := lexI_neg l m; omega)
def insL (a : List Int) : List (List Int) → List (List Int)
  | [] => [a]
  | b :: l => if lexI a b ≤ 0 then a :: b :: l else b :: insL a l
def sortLL : List (List Int) → List (List Int)
  | [] => []
  | a :: l => insL a (sortLL l)
theorem insL_perm (a : List Int) : ∀ l, (insL a l).Perm (a :: l)
  | [] => .refl _
  | b :: l => by
    unfold insL
    split
    · exact .refl _
    · exact ((insL_perm a l).cons b).trans (.swap a b l)
theorem sortLL_perm : ∀ l, (sortLL l).Perm l
  | [] => .refl _
  | a :: l => (insL_perm a _).trans ((sortLL_perm l).cons a)
theorem insL_sorted (a : List Int) : ∀ l, l.Pairwise (fun x y => lexI x y ≤ 0) → (insL a l).Pairwise (fun x y => lexI x y ≤ 0)
  | [], _ => List.pairwise_singleton _ _
  | b :: l, h => by
    unfold insL
    split
    · rename_i hab
      refine List.pairwise_cons.2 ⟨fun c hc => ?_, h⟩
      rcases List.mem_cons.1 hc with rfl | hc
      · exact hab
      · exact lexI_trans _ _ _ hab ((List.pairwise_cons.1 h).1 c hc)
    · rename_i hab
      refine List.pairwise_cons.2 ⟨fun c hc => ?_, insL_sorted a l (List.pairwise_cons.1 h).2⟩
      rcases List.mem_cons.1 ((insL_perm a l).mem_iff.1 hc) with rfl | hc
      · have := lexI_neg b c
        omega
      · exact (List.pairwise_cons.1 h).1 c hc
theorem sortLL_sorted : ∀ l, (sortLL l).Pairwise (fun x y => lexI x y ≤ 0)
  | [] => List.Pairwise.nil
  | a :: l => insL_sorted a _ (sortLL_sorted l)
theorem sortLL_eq {l m : List (List Int)} (hp : m.Perm l) (hs : m.Pairwise (fun x y => lexI x y ≤ 0)) : m = sortLL l :=
  List.Perm.eq_of_pairwise (fun a b _ _ h1 h2 => lexI_anti a b h1 h2) hs (sortLL_sorted l) (hp.trans (sortLL_perm l).symm)

end Go.Proofs.Ytnnkjjacpbbigaa.PB
namespace Go.Proofs.Ytnnkjjacpbbigaa.PB
open Go.RowKit Go.Proofs.YtnnkjjacpbbigaaW.PrintWords Go.Proofs.YtnnkjjacpbbigaaW.PrintLast Go.Proofs.YtnnkjjacpbbigaaW.PrintMore
attribute [local go_sem] max2_int min2_int max_two min_two max_three min_three max_four min_four   -- for this text's walks alone

/-! ### impl_Meander_87: function 87 -/
def impl_Meander_87.idx (D : S41 → Bool) : List S41 → Nat → Int
  | [], _ => -1
  | x :: r, i => if D x = true then (i : Int) else impl_Meander_87.idx D r (i + 1)
theorem impl_Meander_87.rd_at (xs : List S41) (j : Nat) (h : j < xs.length) : rd_T41 xs (j : Int) = xs[j] := by simp [rd_T41, List.getD_eq_getElem?_getD, h]
set_option maxHeartbeats 8000000 in
set_option maxRecDepth 100000 in
theorem impl_Meander_87.callsD (D : S41 → Bool) (g : FuncId) (cb : Array Value) (A : Option Addr) (c : Nat) (xs : List S41) (w : World) (hr : Kd.C k41 w A xs.length xs) (hc : xs.length ≤ c)
    (heg : ∀ args W, (callFunc g args).run Try.prog W = .ok (.enter g args) W)
    (hG : ∀ W, Below w.heap.size w W → ∀ x ∈ xs, ∀ A0 c0 A1 c1, Kd.C (Kd.int .i64) W A0 x.f0.length x.f0 → x.f0.length ≤ c0 → Kd.C (Kd.int .i64) W A1 x.f1.length x.f1 → x.f1.length ≤ c1 → Calls Try.prog g (#[.agg #[.slice A0 x.f0.length c0, .slice A1 x.f1.length c1]] ++ cb) W fun e w' => e = .returned (.bool (D x)) ∧ Below W.heap.size W w') :
    Calls Try.prog 87 #[.slice A xs.length c, .func (.func g) #[] cb] w fun e w' => e = .returned (.int .i64 (impl_Meander_87.idx D xs 0)) ∧ Below w.heap.size w w' := by
  have hu41 := Try.underlying41
  have HB := Aside0.mk (Below.refl w.heap.size w)
  have HR := Aside0.mk hr
  have HG := Aside0.mk hG
  have hmax := hr.2.1
  clear hr hG
  go_enter Try.func87, Try.ntmps87
  go_wp2
  go_loopg [5, 8] xs.length (fun kq v5 v8 w' => ∃ j : Nat, v8 = .int .i64 (j : Int) ∧ j ≤ xs.length ∧ kq = xs.length - j ∧ Aside0 (impl_Meander_87.idx D xs 0 = impl_Meander_87.idx D (xs.drop j) j) ∧ Aside0 (Below w.heap.size w w'))
  case atStart => exact ⟨0, rfl, Nat.zero_le _, rfl, ⟨rfl⟩, HB⟩
  case round =>
    clear HB
    obtain ⟨j, rfl, hj, hk, HI, HB⟩ := hrel
    by_cases cj : j < xs.length
    · obtain ⟨ad, A0, c0, A1, c1, e1, hx0, hx1, hl0, hi0, hl1, hi1⟩ := at_T41 (Kd.C_below HR.out HB.out) (j : Int) (by omega) (by omega)
      cases e1
      have hrd := impl_Meander_87.rd_at xs j cj
      rw [hrd, Int.toNat_natCast] at hx0 hx1
      rw [hrd] at hl0 hi0 hl1 hi1
      have hcall := HG.out _ HB.out xs[j] (List.getElem_mem cj) A0 c0 A1 c1 hi0 hl0 hi1 hl1
      have hd : xs.drop j = xs[j] :: xs.drop (j + 1) := List.drop_eq_getElem_cons cj
      have hI := HI.out
      rw [hd, impl_Meander_87.idx] at hI
      generalize xs[j] = x at hx0 hx1 hcall hI
      have HCALL := Aside0.mk hcall
      have HI2 := Aside0.mk hI
      have HJ := Aside0.mk (And.intro cj hk)
      have cb1 : decide ((j : Int) < (xs.length : Int)) = true := decide_eq_true (by omega)
      have p14 : (0 ≤ (j : Int)) = True := eq_true (by omega)
      have q14 : ((j : Int) < (xs.length : Int)) = True := eq_true (by omega)
      clear hrd hl0 hi0 hl1 hi1 hcall hd hI hj hk
      cases hD : D x
      · have HI3 := Aside0.mk (show impl_Meander_87.idx D xs 0 = impl_Meander_87.idx D (xs.drop (j + 1)) (j + 1) by rw [HI2.out, hD]; rfl)
        rw [hD] at HCALL
        clear hD HI2
        go_wp2
        refine HCALL.out.mono ?_
        rintro e w1 ⟨rfl, hb⟩
        have HB1 := Aside0.mk (below_step HB.out hb)
        clear hb
        dsimp only
        go_wp2
        go_roundg (xs.length - (j + 1))
        case measure => have := HJ.out; omega
        case rel => exact ⟨j + 1, by go_num, by have := HJ.out; omega, rfl, HI3, HB1⟩
      · have HI3 := Aside0.mk (show impl_Meander_87.idx D xs 0 = (j : Int) by rw [HI2.out, hD]; rfl)
        rw [hD] at HCALL
        clear hD HI2
        go_wp2
        refine HCALL.out.mono ?_
        rintro e w1 ⟨rfl, hb⟩
        have HB1 := Aside0.mk (below_step HB.out hb)
        clear hb
        dsimp only
        go_wp2
        go_ret
        exact ⟨by rw [HI3.out]; rfl, HB1.out⟩
    · have cb1 : decide ((j : Int) < (xs.length : Int)) = false := decide_eq_false (by omega)
      have HI3 := Aside0.mk (show impl_Meander_87.idx D xs 0 = -1 by rw [HI.out, List.drop_eq_nil_of_le (by omega)]; rfl)
      clear hj hk
      go_wp2
      go_ret
      exact ⟨by rw [HI3.out]; rfl, HB.out⟩

end Go.Proofs.Ytnnkjjacpbbigaa.PB
namespace Go.Proofs.Ytnnkjjacpbbigaa.PB
open Go.RowKit Go.Proofs.YtnnkjjacpbbigaaW.PrintWords Go.Proofs.YtnnkjjacpbbigaaW.PrintLast Go.Proofs.YtnnkjjacpbbigaaW.PrintMore
attribute [local go_sem] max2_int min2_int max_two min_two max_three min_three max_four min_four   -- for this text's walks alone

/-! ### impl_Meander_60: function 60 -/
theorem impl_Meander_60.idx_cases (D : S41 → Bool) : ∀ (xs : List S41) (i : Nat), (impl_Meander_87.idx D xs i = -1 ∧ ∀ x ∈ xs, D x = false) ∨ ∃ k0, k0 < xs.length ∧ impl_Meander_87.idx D xs i = ((i + k0 : Nat) : Int) ∧ (∃ h : k0 < xs.length, D xs[k0] = true) ∧ ∀ x ∈ xs.take k0, D x = false
  | [], i => .inl ⟨rfl, fun x hx => absurd hx List.not_mem_nil⟩
  | y :: r, i => by
    cases h : D y with
    | true => exact .inr ⟨0, by simp, by simp [impl_Meander_87.idx, h], ⟨by simp, by simpa using h⟩, fun x hx => by simp at hx⟩
    | false =>
      rcases impl_Meander_60.idx_cases D r (i + 1) with ⟨e, ha⟩ | ⟨k0, hk, e, ⟨hk', ht⟩, ha⟩
      · refine .inl ⟨by simp [impl_Meander_87.idx, h, e], fun x hx => ?_⟩
        rcases List.mem_cons.1 hx with rfl | hx
        · exact h
        · exact ha x hx
      · refine .inr ⟨k0 + 1, by simpa using hk, ?_, ⟨by simpa using hk, by simpa using ht⟩, fun x hx => ?_⟩
        · rw [impl_Meander_87.idx, if_neg (by rw [h]; simp), e]
          congr 1
          omega
        · rw [List.take_succ_cons] at hx
          rcases List.mem_cons.1 hx with rfl | hx
          · exact h
          · exact ha x hx
/-- The places that stay among the first j. -/
def impl_Meander_60.kp (D : S41 → Bool) (xs : List S41) (j : Nat) : List Nat := (List.range j).filter fun q => !D (xs.getD q z41)
theorem impl_Meander_60.kp_succ (D : S41 → Bool) (xs : List S41) (j : Nat) : impl_Meander_60.kp D xs (j + 1) = impl_Meander_60.kp D xs j ++ (if D (xs.getD j z41) = true then [] else [j]) := by
  unfold impl_Meander_60.kp
  rw [List.range_succ, List.filter_append]
  congr 1
  cases h : D (xs.getD j z41) <;> simp [h, -List.getD_eq_getElem?_getD]
theorem impl_Meander_60.kp_all (D : S41 → Bool) (xs : List S41) : ((impl_Meander_60.kp D xs xs.length).map fun q => xs.getD q z41) = xs.filter fun x => !D x := by
  unfold impl_Meander_60.kp
  have h : (List.range xs.length).map (fun q => xs.getD q z41) = xs := by
    apply List.ext_getElem (by simp)
    intro i h1 h2
    simp [List.getD_eq_getElem?_getD, h2]
  conv => rhs; rw [← h]
  rw [List.filter_map]
  rfl
theorem impl_Meander_60.kp_len (D : S41 → Bool) (xs : List S41) (j : Nat) : (impl_Meander_60.kp D xs j).length ≤ j := by
  have := List.length_filter_le (fun q => !D (xs.getD q z41)) (List.range j)
  simpa [impl_Meander_60.kp] using this
/-- What the row's cells are when j elements have been looked at: those that stay, then what lies between, then those not yet looked at. -/
theorem impl_Meander_60.take2_take {α : Type} (cs : List α) (i q : Nat) (h : q < i) : ((cs.take (i * 2)).drop (q * 2)).take 2 = (cs.drop (q * 2)).take 2 := by
  apply List.ext_getElem?
  intro t
  simp only [List.getElem?_take, List.getElem?_drop]
  by_cases ht : t < 2
  · rw [if_pos ht, if_pos ht, if_pos (by omega)]
  · rw [if_neg ht, if_neg ht]
structure impl_Meander_60.Cs (D : S41 → Bool) (xs : List S41) (inner cs : List Value) (j : Nat) : Prop where
  low : ∀ q k : Nat, (impl_Meander_60.kp D xs j)[q]? = some k → (cs.drop (q * 2)).take 2 = (inner.drop (k * 2)).take 2
  high : ∀ q : Nat, j ≤ q → q < xs.length → (cs.drop (q * 2)).take 2 = (inner.drop (q * 2)).take 2
theorem impl_Meander_60.take2_set {α : Type} (cs : List α) (i q : Nat) (u v : α) (hq : q ≠ i) : (((cs.set (i * 2) u).set (i * 2 + 1) v).drop (q * 2)).take 2 = (cs.drop (q * 2)).take 2 := by
  apply List.ext_getElem?
  intro t
  simp only [List.getElem?_take, List.getElem?_drop, List.getElem?_set]
  by_cases ht : t < 2
  · rw [if_pos ht, if_pos ht, if_neg (by omega), if_neg (by omega)]
  · rw [if_neg ht, if_neg ht]
theorem impl_Meander_60.take2_at {α : Type} (cs : List α) (i : Nat) (u v : α) (h : i * 2 + 1 < cs.length) : (((cs.set (i * 2) u).set (i * 2 + 1) v).drop (i * 2)).take 2 = [u, v] := by
  apply List.ext_getElem?
  intro t
  simp only [List.getElem?_take, List.getElem?_drop, List.getElem?_set]
  match t with
  | 0 => simp; omega
  | 1 => simp; omega
  | t + 2 => rw [if_neg (by omega)]; rfl
theorem impl_Meander_60.Cs_skip {D : S41 → Bool} {xs : List S41} {inner cs : List Value} {j : Nat} (h : impl_Meander_60.Cs D xs inner cs j) (hD : D (xs.getD j z41) = true) : impl_Meander_60.Cs D xs inner cs (j + 1) := by
  refine ⟨fun q k hk => ?_, fun q h1 h2 => h.high q (by omega) h2⟩
  rw [impl_Meander_60.kp_succ, if_pos hD, List.append_nil] at hk
  exact h.low q k hk
theorem impl_Meander_60.Cs_keep {D : S41 → Bool} {xs : List S41} {inner cs : List Value} {j : Nat} (h : impl_Meander_60.Cs D xs inner cs j) (hj : j < xs.length) (hl : cs.length = xs.length * 2) (hD : D (xs.getD j z41) = false) {u v : Value} (hu : (inner.drop (j * 2)).take 2 = [u, v]) :
    impl_Meander_60.Cs D xs inner ((cs.set ((impl_Meander_60.kp D xs j).length * 2) u).set ((impl_Meander_60.kp D xs j).length * 2 + 1) v) (j + 1) := by
  have hle := impl_Meander_60.kp_len D xs j
  refine ⟨fun q k hk => ?_, fun q h1 h2 => ?_⟩
  · rw [impl_Meander_60.kp_succ, if_neg (by rw [hD]; simp)] at hk
    by_cases hq : q < (impl_Meander_60.kp D xs j).length
    · rw [List.getElem?_append_left hq] at hk
      rw [impl_Meander_60.take2_set _ _ _ _ _ (by omega)]
      exact h.low q k hk
    · rw [List.getElem?_append_right (by omega)] at hk
      have hq2 : q = (impl_Meander_60.kp D xs j).length := by
        have := (List.getElem?_eq_some_iff.1 hk).1
        simp only [List.length_cons, List.length_nil] at this
        omega
      subst hq2
      simp only [Nat.sub_self, List.getElem?_cons_zero, Option.some.injEq] at hk
      subst hk
      rw [impl_Meander_60.take2_at _ _ _ _ (by omega), hu]
  · rw [impl_Meander_60.take2_set _ _ _ _ _ (by omega)]
    exact h.high q (by omega) h2
set_option maxHeartbeats 8000000 in
set_option maxRecDepth 100000 in
theorem impl_Meander_60.callsD (D : S41 → Bool) (g : FuncId) (cb : Array Value) (base : Nat) (ok : Nat → Prop) (v : Value) (xs : List S41) (w0 w : World) (hB : Below base w0 w) (hbase : base ≤ w.heap.size) (ho : Kd.S cm_kA 41 w base ok v xs)
    (heg : ∀ args W, (callFunc g args).run Try.prog W = .ok (.enter g args) W)
    (hG : ∀ W, w.grownBy W v.ownBlock → ∀ x ∈ xs, ∀ A0 c0 A1 c1, Kd.C (Kd.int .i64) W A0 x.f0.length x.f0 → x.f0.length ≤ c0 → Kd.C (Kd.int .i64) W A1 x.f1.length x.f1 → x.f1.length ≤ c1 → Calls Try.prog g (#[.agg #[.slice A0 x.f0.length c0, .slice A1 x.f1.length c1]] ++ cb) W fun e w' => e = .returned (.bool (D x)) ∧ Below W.heap.size W w') :
    Calls Try.prog 60 #[v, .func (.func g) #[] cb] w fun e w' => ∃ v' : Value, e = .returned v' ∧ Kd.S cm_kA 41 w' base ok v' (xs.filter fun x => !D x) ∧ Below base w0 w' ∧ w.grownBy w' v.ownBlock := by
  have hu41 := Try.underlying41
  have HO := ho
  obtain ⟨A, c, ev⟩ := Kd.S_slice ho
  subst ev
  have hI := impl_Meander_87.callsD D g cb A c xs w (Kd.S_reads' ho).2.2 (Kd.S_reads' ho).2.1 heg (fun W hb => hG W (grown_of_below hb _))
  have hmax := (Kd.S_reads' ho).2.2.2.1
  rcases impl_Meander_60.idx_cases D xs 0 with ⟨e1, hall⟩ | ⟨k0, hk0, e1, ⟨_, ht⟩, hall⟩
  · rw [e1] at hI
    have hf : (xs.filter fun x => !D x) = xs := List.filter_eq_self.2 (fun x hx => by rw [hall x hx]; rfl)
    have HI := Aside0.mk hI
    have HS := Aside0.mk ho
    have HB := Aside0.mk hB
    have HF := Aside0.mk hf
    clear hI ho hB hf hall e1 HO hG
    go_enter Try.func60, Try.ntmps60
    go_wp2_with fail
    refine HI.out.mono ?_
    rintro e w1 ⟨rfl, hb⟩
    have HS1 := Aside0.mk (Kd.S_below HS.out hb)
    have HB1 := Aside0.mk (below_then HB.out hbase hb)
    have HG1 := Aside0.mk (grown_of_below hb (Value.slice A xs.length c).ownBlock)
    clear hb
    dsimp only
    go_wp2
    go_ret
    exact ⟨_, rfl, by rw [HF.out]; exact HS1.out, HB1.out, HG1.out⟩
  · rw [e1, Nat.zero_add] at hI
    obtain ⟨f, hok, inner, hown, hr⟩ := ho
    rw [List.length_zipIdx] at hown
    rcases hown.2 with ⟨hv, hn⟩ | ⟨gg, cap, cur, hv, hbg, hb, h1, h2, h3, h4⟩
    · omega
    · injection hv with hA _ hcc
      subst hA
      subst hcc
      have hel : ∀ j (hj : j < xs.length), ∃ A0 c0 A1 c1, (inner.drop (j * 2)).take 2 = [.slice A0 xs[j].f0.length c0, .slice A1 xs[j].f1.length c1] ∧ (∀ W, w.grownBy W (some gg) → Kd.C (Kd.int .i64) W A0 xs[j].f0.length xs[j].f0 ∧ Kd.C (Kd.int .i64) W A1 xs[j].f1.length xs[j].f1) ∧ xs[j].f0.length ≤ c0 ∧ xs[j].f1.length ≤ c1 := by
        intro j hj
        have hM := hr.2 j (xs[j], j) (Kd.zip_at (List.getElem?_eq_getElem hj))
        change cm_kA.M w base (fun k => (ok k ∧ some k ≠ (Value.slice (some ⟨gg, 0, none⟩) xs.length c).ownBlock) ∧ f k = j) xs[j] ((inner.drop (j * 2)).take 2) at hM
        obtain ⟨v0, v1, hcs, hR0, hR1⟩ := k41_openM (cm_kA_M hM)
        obtain ⟨A0, c0, rfl⟩ := Kd.R_slice hR0
        obtain ⟨A1, c1, rfl⟩ := Kd.R_slice hR1
        exact ⟨A0, c0, A1, c1, hcs, fun W hg => ⟨(Kd.R_reads' (Kd.R_grown hR0 hg (fun k hk => by simpa [Value.ownBlock] using hk.1.2))).2.2, (Kd.R_reads' (Kd.R_grown hR1 hg (fun k hk => by simpa [Value.ownBlock] using hk.1.2))).2.2⟩, (Kd.R_reads' hR0).2.1, (Kd.R_reads' hR1).2.1⟩
      have hD0 : ∀ q, q < k0 → D (xs.getD q z41) = false := fun q hq => by
        refine hall _ ?_
        rw [List.getD_eq_getElem?_getD, List.getElem?_eq_getElem (by omega), Option.getD_some]
        exact List.mem_take_iff_getElem.2 ⟨q, by omega, rfl⟩
      have hkp0 : impl_Meander_60.kp D xs (k0 + 1) = List.range k0 := by
        rw [impl_Meander_60.kp_succ, if_pos (by rw [List.getD_eq_getElem?_getD, List.getElem?_eq_getElem hk0, Option.getD_some]; exact ht), List.append_nil]
        unfold impl_Meander_60.kp
        rw [List.filter_eq_self]
        intro q hq
        rw [hD0 q (List.mem_range.1 hq)]
        rfl
      have HCS0 := Aside0.mk (show impl_Meander_60.Cs D xs inner inner (k0 + 1) from ⟨fun q k hk => by
        rw [hkp0] at hk
        obtain ⟨h5, h6⟩ := List.getElem?_eq_some_iff.1 hk
        rw [List.getElem_range] at h6
        rw [h6], fun q _ _ => rfl⟩)
      have HKL0 := Aside0.mk (show (impl_Meander_60.kp D xs (k0 + 1)).length = k0 by rw [hkp0]; simp)
      have hne1 : ((k0 : Int) == -1) = false := beq_eq_false_iff_ne.2 (by omega)
      have HI := Aside0.mk hI
      have HEL := Aside0.mk hel
      have HOW := Aside0.mk hown
      have HRR := Aside0.mk (And.intro hok hr)
      have HB := Aside0.mk hB
      have HGC := Aside0.mk hG
      have HBG := Aside0.mk (show base ≤ gg from hbg)
      have HK0 := Aside0.mk hk0
      have HIL := Aside0.mk hown.1
      have HCAP := Aside0.mk (And.intro h1 h2)
      clear hI hel hown hok hr hB hG hbg hb h1 h2 h3 h4 HO hkp0 hD0 hall ht e1 hk0
      go_enter Try.func60, Try.ntmps60
      go_wp2_with fail
      refine HI.out.mono ?_
      rintro e w1 ⟨rfl, hb⟩
      have HOW1 := Aside0.mk (pw_own_below HOW.out hb)
      have HB1 := Aside0.mk (below_then HB.out hbase hb)
      have HG1 := Aside0.mk (grown_of_below hb (some gg))
      clear hb HB
      dsimp only
      go_wp2
      go_loopg [5, 6, 7] (xs.length - (k0 + 1)) (fun kq v5 v6 v7 w' => ∃ (j : Nat) (cs : List Value), v5 = .int .i64 (((impl_Meander_60.kp D xs j).length : Nat) : Int) ∧ v6 = .int .i64 (j : Int) ∧ j ≤ xs.length ∧ kq = xs.length - j ∧ Aside0 ((impl_Meander_60.kp D xs j).length < j) ∧ Aside0 (impl_Meander_60.Cs D xs inner cs j) ∧ Aside0 (w'.ownsRow base 41 2 (.slice (some ⟨gg, 0, none⟩) xs.length c) xs.length cs) ∧ Aside0 (Below base w0 w') ∧ Aside0 (w.grownBy w' (some gg)))
      case atStart => exact ⟨k0 + 1, inner, by rw [HKL0.out], by first | go_num | rfl, by have := HK0.out; omega, rfl, ⟨by rw [HKL0.out]; omega⟩, HCS0, HOW1, HB1, HG1⟩
      case round =>
        clear HOW1 HB1 HG1 HCS0 HKL0 HI
        obtain ⟨j, cs, rfl, rfl, hj, hk, HLT, HCS, HOW, HB, HG⟩ := hrel
        obtain ⟨i, hi⟩ : ∃ i, i = (impl_Meander_60.kp D xs j).length := ⟨_, rfl⟩
        rw [← hi] at HLT ⊢
        have HIE := Aside0.mk hi
        clear hi
        by_cases cj : j < xs.length
        · obtain ⟨A0, c0, A1, c1, hin, hC, hl0, hl1⟩ := HEL.out j cj
          have hgd : xs.getD j z41 = xs[j] := by rw [List.getD_eq_getElem?_getD, List.getElem?_eq_getElem cj, Option.getD_some]
          have hmem := List.getElem_mem cj
          have hcl := HOW.out.1
          have hhi := HCS.out.high j (Nat.le_refl _) cj
          rw [hin] at hhi
          generalize xs[j] = x at hin hC hl0 hl1 hgd hmem hhi
          have q0 : cs[j * 2]? = some (.slice A0 x.f0.length c0) := by
            have := congrArg (fun l => l[0]?) hhi
            simpa [List.getElem?_take, List.getElem?_drop] using this
          have q1 : cs[j * 2 + 1]? = some (.slice A1 x.f1.length c1) := by
            have := congrArg (fun l => l[1]?) hhi
            simpa [List.getElem?_take, List.getElem?_drop] using this
          have hx0 : wr.cell? ⟨gg, j * 2, none⟩ = some (.slice A0 x.f0.length c0) := by have := HOW.out.cells (g := gg) (by simp [Value.ownBlock]) _ _ q0; rwa [add_plain] at this
          have hx1 : wr.cell? ⟨gg, j * 2 + 1, none⟩ = some (.slice A1 x.f1.length c1) := by have := HOW.out.cells (g := gg) (by simp [Value.ownBlock]) _ _ q1; rwa [add_plain] at this
          have HIN := Aside0.mk hin
          have HCC := Aside0.mk hC
          have HGD := Aside0.mk hgd
          have HMEM := Aside0.mk hmem
          have HCL := Aside0.mk hcl
          have HJ := Aside0.mk (And.intro cj hk)
          have cb1 : decide ((j : Int) < (xs.length : Int)) = true := decide_eq_true (by omega)
          have p14 : (0 ≤ (j : Int)) = True := eq_true (by omega)
          have q14 : ((j : Int) < (xs.length : Int)) = True := eq_true (by omega)
          have hlt := HLT.out
          have p15 : (0 ≤ (i : Int)) = True := eq_true (by omega)
          have q15 : ((i : Int) < (xs.length : Int)) = True := eq_true (by omega)
          clear q0 q1 hin hC hgd hmem hcl hhi hj hk
          go_wp2_with (first | ((with_reducible refine gate_dst (N := 7) rfl ?_); refine box_event ?hg (N := 7) ?hd (cs := #[.slice none 0 0, .slice none 0 0]) (t := 41) ?hr ?_; (case hd => rfl); (case hg => rfl); (case hr => first | (go_simp; done) | (go_simp; rfl)); intro gx hg wx hbox hb; have HGX := Aside0.mk hg; have BX := Aside0.mk hbox; have HBX := Aside0.mk hb; clear hg hbox hb; have hcx_0 : wx.cell? ⟨gx, 0, none⟩ = some (.slice none 0 0) := (blk_cell BX.out 0).trans rfl; have hcx_1 : wx.cell? ⟨gx, 1, none⟩ = some (.slice none 0 0) := (blk_cell BX.out 1).trans rfl; have hfx_0 := blk_frozen BX.out 0; have hfx_1 := blk_frozen BX.out 1))
          have hge : wr.heap.size ≤ gx := by rw [HGX.out]; exact Nat.le_refl _
          have hbs := Aside0.mk (below_set (j := 1) (v := .slice A1 x.f1.length c1) (below_set (j := 0) (v := .slice A0 x.f0.length c0) HBX.out hge) hge)
          have BXS := Aside0.mk (show ((wx.setCell ⟨gx, 0, none⟩ (.slice A0 x.f0.length c0)).setCell ⟨gx, 1, none⟩ (.slice A1 x.f1.length c1)).heap[gx]? = some (.cells #[.slice A0 x.f0.length c0, .slice A1 x.f1.length c1] 41 (0, 0)) from by refine blk_put (cs := #[.slice A0 x.f0.length c0, .slice none 0 0]) ?_ 1 _ rfl; refine blk_put (cs := #[.slice none 0 0, .slice none 0 0]) ?_ 0 _ rfl; exact BX.out)
          clear hcx_0 hcx_1 hfx_0 hfx_1 BX HBX HGX hx0 hx1 hge
          generalize ((wx.setCell ⟨gx, 0, none⟩ (.slice A0 x.f0.length c0)).setCell ⟨gx, 1, none⟩ (.slice A1 x.f1.length c1)) = ws at hbs BXS ⊢
          have HG2 := Aside0.mk (World.grownBy.trans HG.out (grown_of_below hbs.out (some gg)))
          have HB2 := Aside0.mk (below_then HB.out (Nat.le_trans hbase HG.out.size) hbs.out)
          have HOW2 := Aside0.mk (pw_own_below HOW.out hbs.out)
          clear HG HB HOW hbs
          refine (HGC.out ws (by simpa [Value.ownBlock] using HG2.out) x HMEM.out A0 c0 A1 c1 (HCC.out ws HG2.out).1 hl0 (HCC.out ws HG2.out).2 hl1).mono ?_
          rintro e w2 ⟨rfl, hb⟩
          have HG3 := Aside0.mk (World.grownBy.trans HG2.out (grown_of_below hb (some gg)))
          have HB3 := Aside0.mk (below_then HB2.out (Nat.le_trans hbase HG2.out.size) hb)
          have HOW3 := Aside0.mk (pw_own_below HOW2.out hb)
          have BX3 := Aside0.mk (blk_below BXS.out hb)
          clear HG2 HB2 HOW2 BXS hb
          dsimp only
          cases hD : D x
          · have hb0 : w2.cell? ⟨gx, 0, none⟩ = some (.slice A0 x.f0.length c0) := (blk_cell BX3.out 0).trans rfl
            have hb1 : w2.cell? ⟨gx, 1, none⟩ = some (.slice A1 x.f1.length c1) := (blk_cell BX3.out 1).trans rfl
            obtain ⟨u0, hu0, hf0⟩ := cm_own_cell (q := i * 2) HOW3.out (by have := HCL.out; omega)
            obtain ⟨u1, hu1, hf1⟩ := cm_own_cell (q := i * 2 + 1) HOW3.out (by have := HCL.out; omega)
            have hs1 := HOW3.out.stored (i * 2) (.slice A0 x.f0.length c0)
            have hs2 := hs1.1.stored (i * 2 + 1) (.slice A1 x.f1.length c1)
            have HOW4 := Aside0.mk hs2.1
            have HG4 := Aside0.mk (World.grownBy.trans HG3.out (World.grownBy.trans hs1.2 hs2.2))
            have HB4 := Aside0.mk (HB3.out.grown (World.grownBy.trans hs1.2 hs2.2) (Nat.le_trans hbase HG3.out.size) (fun k hk => by injection hk with hk; rw [← hk]; exact HBG.out))
            have HKS := Aside0.mk (show (impl_Meander_60.kp D xs (j + 1)).length = i + 1 by rw [impl_Meander_60.kp_succ, HGD.out, hD, if_neg (by simp), HIE.out]; simp)
            have HCS4 := Aside0.mk (show impl_Meander_60.Cs D xs inner ((cs.set (i * 2) (.slice A0 x.f0.length c0)).set (i * 2 + 1) (.slice A1 x.f1.length c1)) (j + 1) by rw [HIE.out]; exact impl_Meander_60.Cs_keep HCS.out HJ.out.1 HCL.out (by rw [HGD.out]; exact hD) HIN.out)
            clear hs1 hs2 HOW3 HG3 HB3 HCS hD BX3
            go_wp2
            go_roundg (xs.length - (j + 1))
            case measure => have := HJ.out; omega
            case rel => exact ⟨j + 1, _, by rw [HKS.out]; first | go_num | rfl, by first | go_num | rfl, by have := HJ.out; omega, rfl, ⟨by rw [HKS.out]; omega⟩, HCS4, HOW4, HB4, HG4⟩
          · have HKS := Aside0.mk (show (impl_Meander_60.kp D xs (j + 1)).length = i by rw [impl_Meander_60.kp_succ, HGD.out, hD, if_pos rfl, List.append_nil, HIE.out])
            have HCS4 := Aside0.mk (impl_Meander_60.Cs_skip HCS.out (by rw [HGD.out]; exact hD))
            clear hD BX3 HCS
            go_wp2
            go_roundg (xs.length - (j + 1))
            case measure => have := HJ.out; omega
            case rel => exact ⟨j + 1, cs, by rw [HKS.out], by first | go_num | rfl, by have := HJ.out; omega, rfl, ⟨by rw [HKS.out]; omega⟩, HCS4, HOW3, HB3, HG3⟩
        · have ej : j = xs.length := by omega
          subst ej
          have hlt := HLT.out
          have hcap := HCAP.out
          have hlen := HOW.out.1
          have hzv : ∀ w, (zeroValue 41).run Try.prog w = .ok (.agg #[.slice none 0 0, .slice none 0 0]) w := fun w => by kernel_rfl
          have hz : ∀ n, (Builtin.zeroCells (Value.agg #[.slice none 0 0, .slice none 0 0]).cells n).toList = List.replicate (n * 2) (Value.slice none 0 0) := fun n => by
            simp only [Value.cells, Builtin.zeroCells]
            apply List.ext_getElem
            · simp [Nat.mul_comm]
            · intro q h1 h2
              simp only [Array.getElem_toList, Array.getElem_ofFn, List.getElem_replicate]
              have : q % 2 = 0 ∨ q % 2 = 1 := by omega
              rcases this with h3 | h3 <;> simp [h3]
          have hcl : ∀ ty, (Builtin.clear_ #[22] ty #[.slice (some ⟨gg, i * 2, none⟩) (xs.length - i) (c - i)]).run Try.prog wr = .ok (.tuple #[]) (wr.setCells gg (i * 2) (List.replicate ((xs.length - i) * 2) (.slice none 0 0))) :=
            fun ty => cm_run_clear wr _ 41 ty _ _ 2 Try.underlying22 hzv hz rfl gg (i * 2) (xs.length - i) (c - i) (by omega) (fun q hq => by obtain ⟨u, hu, _⟩ := cm_own_cell (q := i * 2 + q) HOW.out (by omega); rw [hu]; rfl) (fun q hq => by obtain ⟨u, _, hu⟩ := cm_own_cell (q := i * 2 + q) HOW.out (by omega); exact hu)
          obtain ⟨cs', hw2, ht2, hg2⟩ := cm_own_setCells (List.replicate ((xs.length - i) * 2) (Value.slice none 0 0)) (i * 2) wr cs HOW.out
          have HG5 := Aside0.mk (World.grownBy.trans HG.out hg2)
          have HB5 := Aside0.mk (HB.out.grown hg2 (Nat.le_trans hbase HG.out.size) (fun k hk => by injection hk with hk; rw [← hk]; exact HBG.out))
          have HOW5 := Aside0.mk (own_take hw2 (m := i) (by omega))
          have HT5 := Aside0.mk ht2
          have hle : i ≤ xs.length := by omega
          have hci : ¬ (c = i) := by omega
          have hic : i ≤ c := by omega
          have p15 : (0 ≤ (i : Int)) = True := eq_true (by omega)
          clear hzv hz hw2 ht2 hg2 HB HG HOW hlen hj hk hcap
          go_wp2
          go_ret
          have hS := cm_S_pick (d := cm_kA) (e := 41) (W := w) (W' := wr.setCells gg (i * 2) (List.replicate ((xs.length - i) * 2) (Value.slice none 0 0))) (base := base) (ok := ok) (v := .slice (some ⟨gg, 0, none⟩) xs.length c) (v' := .slice (some ⟨gg, 0, none⟩) i c) (xs := xs) (f := f) (inner := inner) (inner' := cs'.take (i * 2)) (fun k hk => HRR.out.1 k hk) (fun k hk => hk) HRR.out.2 (impl_Meander_60.kp D xs xs.length) (List.Pairwise.filter _ List.nodup_range) z41 (fun q hq => by
            simp only [impl_Meander_60.kp, List.mem_filter, List.mem_range] at hq
            exact hq.1) (by rw [← HIE.out]; exact HOW5.out) (fun q k hk => by
            have h5 := (List.getElem?_eq_some_iff.1 hk).1
            rw [← HIE.out] at h5
            show ((cs'.take (i * 2)).drop (q * 2)).take 2 = (inner.drop (k * 2)).take 2
            rw [HT5.out, impl_Meander_60.take2_take cs i q h5]
            exact HCS.out.low q k hk) (fun k hk hlt => HG5.out.block k hlt (by simpa [Value.ownBlock] using hk))
          rw [impl_Meander_60.kp_all] at hS
          exact ⟨_, rfl, hS, HB5.out, by simpa [Value.ownBlock] using HG5.out⟩

end Go.Proofs.Ytnnkjjacpbbigaa.PB
namespace Go.Proofs.Ytnnkjjacpbbigaa.PB
open Go.RowKit Go.Proofs.YtnnkjjacpbbigaaW.PrintWords Go.Proofs.YtnnkjjacpbbigaaW.PrintLast Go.Proofs.YtnnkjjacpbbigaaW.PrintMore
attribute [local go_sem] max2_int min2_int max_two min_two max_three min_three max_four min_four   -- for this text's walks alone

/-! ### an element of a row of rows -/
theorem cm_S_elem {α : Type} {d : Kd α} {t e : Nat} {W : World} {base : Nat} {ok : Nat → Prop} {A : Option Addr} {c : Nat} {xs : List (List α)} (h : Kd.S (Kd.slice t d) e W base ok (.slice A xs.length c) xs) (j : Nat) (hj : j < xs.length) :
    ∃ ad A0 c0, A = some ad ∧ W.cell? (ad.add j) = some (.slice A0 xs[j].length c0) ∧ d.R t W base ok (.slice A0 xs[j].length c0) xs[j] := by
  obtain ⟨ad, _, e1, _⟩ := Kd.C_get (Kd.S_reads' h).2.2 ([] : List α) (j : Int) (by omega) (by omega)
  subst e1
  obtain ⟨ce, hce, hM, hcc⟩ := Kd.S_get h [] (j : Int) (by omega) (by omega)
  obtain ⟨ve, rfl, hR⟩ := hM
  have hv := hcc 0 _ rfl
  have hx : xs.getD (j : Int).toNat [] = xs[j] := by simp [List.getD_eq_getElem?_getD, hj]
  rw [hx] at hR
  obtain ⟨A0, c0, rfl⟩ := Kd.R_slice hR
  refine ⟨ad, A0, c0, rfl, ?_, Kd.R_mono hR (fun _ hk => hk.1)⟩
  have hsz : (j : Int).toNat * (Kd.slice t d).sz + 0 = j := by show (j : Int).toNat * 1 + 0 = _; omega
  rwa [hsz] at hv

end Go.Proofs.Ytnnkjjacpbbigaa.PB
namespace Go.Proofs.Ytnnkjjacpbbigaa.PB
open Go.RowKit Go.Proofs.YtnnkjjacpbbigaaW.PrintWords Go.Proofs.YtnnkjjacpbbigaaW.PrintLast Go.Proofs.YtnnkjjacpbbigaaW.PrintMore
attribute [local go_sem] max2_int min2_int max_two min_two max_three min_three max_four min_four   -- for this text's walks alone

/-! ### slices_Clone_int_int: function 80 -/
def slices_Clone_int_int.f (l0 : List Int) : Option (List Int) := if l0.length < 17592186044416 then some l0 else none
set_option maxHeartbeats 2000000 in
set_option maxRecDepth 100000 in
theorem slices_Clone_int_int.calls (A0 : Option Addr) (c0 : Nat) (l0 : List Int) (r : List Int) (w : World) (hr0 : Kd.C (Kd.int .i64) w A0 l0.length l0) (hc0 : l0.length ≤ c0) (h : slices_Clone_int_int.f l0 = some r) :
    Calls Try.prog 80 #[.slice A0 l0.length c0] w fun e w' => ∃ v0_ : Value, e = .returned (v0_) ∧ Kd.R (Kd.int .i64) 3 w' w.heap.size (fun _ => True) v0_ r ∧ Below w.heap.size w w' := by
  unfold slices_Clone_int_int.f at h
  by_cases hl : l0.length < 17592186044416
  · rw [if_pos hl] at h
    obtain rfl := Option.some.inj h
    clear h
    cases A0 with
    | none =>
      have hnil := fun (w : World) => Lib.run_eql_slice_nil (P := Try.prog) w 30 3 none l0.length c0 0 0 Try.underlying30
      have he : l0 = [] := by
        cases l0 with
        | nil => rfl
        | cons a l => obtain ⟨ad, _, h, _⟩ := Kd.C_get hr0 0 0 (by omega) (by simp); cases h
      have HE := Aside0.mk he
      clear hr0 he
      go_enter Try.func80, Try.ntmps80
      go_wp2
      go_ret
      exact ⟨_, rfl, by rw [HE.out]; exact Kd.R_nil _ _ _ _ _, Below.refl _ _⟩
    | some ad =>
      have hnil := fun (w : World) => Lib.run_eql_slice_nil (P := Try.prog) w 30 3 (some ad) l0.length c0 0 0 Try.underlying30
      have HR := Aside0.mk hr0
      have HL := Aside0.mk hl
      clear hr0 hl
      obtain ⟨y, hy⟩ : ∃ y : List Int, y = [] := ⟨_, rfl⟩
      have HY := Aside0.mk hy
      clear hy
      go_enter Try.func80, Try.ntmps80
      go_wp2_with (first
        | ((with_reducible refine gate_dst (N := 5) rfl ?_); refine Kd.R_lit (Kd.int .i64) _ 3 ?hg (N := 5) ?hd (xs := ([] : List Int)) (inner := []) (ok := fun _ => True) (okp := fun _ => True) ?hr ?hp (fun _ hk => hk) trivial (Below.refl _ _) (Nat.le_refl _) (by simp) ?_; (case hd => rfl); (case hg => rfl); (case hr => first | (go_simp; done) | (go_simp; rfl)); (case hp => exact (Reps.none _ _)); intro v1 w3 ho4 hb hg_ hnew_; clear hg_ hnew_; rw [← HY.out] at ho4; have HO := Aside0.mk ho4; have HB := Aside0.mk hb; clear hb ho4)
        | ((with_reducible refine gate_builtin (b := .append) (xs := #[.tmp 5, .tmp 6]) rfl ?_); at_builtin; refine Kd.R_append_rows (Kd.int .i64) (w0 := w) w.heap.size rfl (.tmp 5) (.tmp 6) 30 3 (.int .i64 0) 8 rfl Try.underlying30 info3 rfl (by decide) (by omega) v1 y l0 _ _ _ (fun _ => True) (fun _ => False) rfl rfl HO.out (Kd.C_below HR.out HB.out) (fun _ _ h => h) (fun _ h => h.elim) (fun _ _ => trivial) HB.out (below_size HB.out) ?aL ?_; (case aL => have := HL.out; rw [HY.out]; simp; omega); intro v2 w5 ho hb hg hat; rw [HY.out, List.nil_append] at ho; have HO2 := Aside0.mk ho; have HB2 := Aside0.mk hb; clear ho hb hg hat))
      go_ret
      exact ⟨_, rfl, HO2.out, HB2.out⟩
  · rw [if_neg hl] at h
    cases h

end Go.Proofs.Ytnnkjjacpbbigaa.PB
namespace Go.Proofs.Ytnnkjjacpbbigaa.PB
open Go.RowKit Go.Proofs.YtnnkjjacpbbigaaW.PrintWords Go.Proofs.YtnnkjjacpbbigaaW.PrintLast Go.Proofs.YtnnkjjacpbbigaaW.PrintMore
attribute [local go_sem] max2_int min2_int max_two min_two max_three min_three max_four min_four   -- for this text's walks alone

/-! ### impl_joined: function 102 -/
def impl_joined.l0 : Nat → List Int → List Int → List Int → Int → Int → Option (List Int)
  | 0, _, _, _, _, _ => none
  | k + 1, x0, x5, x10, x11, x12 => if x12 < x11 then (if 0 ≤ x12 then (if x12 < (x10.length : Int) then (if x5.length < 17592186044416 then (impl_joined.l0 k x0 (x5 ++ [wrap64 ((rd x10 x12) + (x0.length : Int))]) x10 x11 (wrap64 (x12 + 1))) else (none)) else (none)) else (none)) else (some x5)
def impl_joined.f (k : Nat) (l0 : List Int) (l1 : List Int) : Option (List Int) := (slices_Clone_int_int.f l0).bind fun t235 => (impl_joined.l0 k l0 t235 l1 (l1.length : Int) 0)
theorem impl_joined.mono_l : ∀ k, (∀ y0 y1 y2 y3 y4, LeO (impl_joined.l0 k y0 y1 y2 y3 y4) (impl_joined.l0 (k + 1) y0 y1 y2 y3 y4))
  | 0 => fun _ _ _ _ _ r h => by simp [impl_joined.l0] at h
  | k + 1 => by
    have ih0 := impl_joined.mono_l k
    · intro y0 y1 y2 y3 y4
      unfold impl_joined.l0
      repeat' first
      | (with_reducible exact ih0 _ _ _ _ _)
      | (with_reducible exact LeO.refl _)
      | (with_reducible exact LeO.none _)
      | (with_reducible refine LeO.ite ?_ ?_)
      | (with_reducible refine LeO.bind ?_ (fun _ => ?_))
      | exact ih0 _ _ _ _ _
      | exact LeO.none _
      | refine LeO.ite ?_ ?_
      | refine LeO.bind ?_ (fun _ => ?_)
theorem impl_joined.mono : ∀ a0 a1 k, LeO (impl_joined.f k a0 a1) (impl_joined.f (k + 1) a0 a1) := by
  intro a0 a1 k
  have ih0 := impl_joined.mono_l k
  unfold impl_joined.f
  repeat' first
      | (with_reducible exact ih0 _ _ _ _ _)
      | (with_reducible exact LeO.refl _)
      | (with_reducible exact LeO.none _)
      | (with_reducible refine LeO.ite ?_ ?_)
      | (with_reducible refine LeO.bind ?_ (fun _ => ?_))
      | exact ih0 _ _ _ _ _
      | exact LeO.none _
      | refine LeO.ite ?_ ?_
      | refine LeO.bind ?_ (fun _ => ?_)
set_option maxHeartbeats 8000000 in
set_option maxRecDepth 100000 in
theorem impl_joined.calls (k : Nat) (A0 : Option Addr) (c0 : Nat) (l0 : List Int) (A1 : Option Addr) (c1 : Nat) (l1 : List Int) (r : List Int) (w : World) (hr0 : Kd.C (Kd.int .i64) w A0 l0.length l0) (hc0 : l0.length ≤ c0) (hr1 : Kd.C (Kd.int .i64) w A1 l1.length l1) (hc1 : l1.length ≤ c1) (h : impl_joined.f k l0 l1 = some r) :
    Calls Try.prog 102 #[.slice A0 l0.length c0, .slice A1 l1.length c1] w fun e w' => ∃ v0_ : Value, e = .returned (v0_) ∧ Kd.R (Kd.int .i64) 3 w' w.heap.size (fun _ => True) v0_ r ∧ Below w.heap.size w w' := by
  have HR0 := Aside0.mk hr0
  have HC0 := Aside0.mk hc0
  clear hr0 hc0
  have HR1 := Aside0.mk hr1
  have HC1 := Aside0.mk hc1
  clear hr1 hc1
  have HB := Aside0.mk (Below.refl w.heap.size w)
  have H : ((slices_Clone_int_int.f l0).bind fun t235 => (impl_joined.l0 k l0 t235 l1 (l1.length : Int) 0)) = some r := h
  clear h
  replace H := Option.bind_eq_some_iff.mp H
  obtain ⟨t235, A30, H⟩ := H
  replace H : (impl_joined.l0 k l0 t235 l1 (l1.length : Int) 0) = some r := H
  have A3 := Aside0.mk A30
  clear A30
  have H' := Aside0.mk H
  clear H
  go_enter Try.func102, Try.ntmps102
  go_wp2_with (first | ((with_reducible refine gate_callee (f := 80) rfl ?_); refine goesL_ (some 9) rfl rfl Try.func80 (by kernel_rfl) rfl #[.slice A0 l0.length c0] rfl (by (try simp only [List.map_toArray, List.map_cons, List.map_nil]); first | done | rfl | (simp only [List.length_drop, List.length_take]; rfl)) ?_; (with_reducible refine (slices_Clone_int_int.calls _ _ l0 t235 _ ?side1 ?side2 A3.out).mono ?_); (case side1 => repeat (first | exact HR0.out | (with_reducible refine Kd.C_alloc ?_ _) | (with_reducible refine Kd.C_drewN ?_ _) | (with_reducible refine Kd.C_drew ?_))); (case side2 => exact HC0.out); rintro e w4 ⟨v236, rfl, ho0, hb⟩; refine ⟨_, rfl, ?_⟩; have n0_ := Aside0.mk (Kd.R_lower ho0 (below_size (by repeat (first | (with_reducible first | exact HB.out | apply below_alloc | apply pw_below_drewN | apply below_drew1) | exact HB.out)))); have n1_ := Aside0.mk (below_step (by repeat (first | (with_reducible first | exact HB.out | apply below_alloc | apply pw_below_drewN | apply below_drew1) | exact HB.out)) hb); clear HB; have HO237 := n0_; have HB := n1_; clear n0_ n1_; (try clear hb); (try clear hb2); (try clear hk); (try clear hi); (try clear ho0)))
  go_loopg [5, 12] k (fun kq v5 v12 w' => ∃ (x5_1 : List Int) (x12_1 : Int), v12 = .int .i64 x12_1 ∧ Aside0 (impl_joined.l0 kq l0 x5_1 l1 (l1.length : Int) x12_1 = some r) ∧ Aside0 (kq ≤ k) ∧ Aside0 (Kd.R (Kd.int .i64) 3 w' w.heap.size (fun _ => True) v5 x5_1) ∧ Aside0 (Below w.heap.size w w'))
  case atStart => exact ⟨(t235), (0), (by first | rfl | (simp; done) | (simp [*]; done)), H', ⟨Nat.le_refl _⟩, ⟨by (with_reducible repeat (first | apply Kd.R_alloc | apply Kd.R_drewN | apply Kd.R_drew)); exact HO237.out⟩, ⟨by repeat (first | (with_reducible first | exact HB.out | apply below_alloc | apply pw_below_drewN | apply below_drew1) | exact HB.out)⟩⟩
  case round =>
    clear H'
    try clear c1
    try clear p2
    obtain ⟨x5_1, x12_1, rfl, HA, HK1, HO_5, HB⟩ := hrel
    cases gk with
    | zero => exact absurd HA.out (by simp [impl_joined.l0])
    | succ k1 =>
      have H := HA.out
      clear HA
      simp only [impl_joined.l0] at H
      by_cases c5 : x12_1 < (l1.length : Int)
      · rw [if_pos c5] at H
        have c5b0 : decide (x12_1 < (l1.length : Int)) = true := decide_eq_true c5
        clear c5
        by_cases c6 : 0 ≤ x12_1
        · rw [if_pos c6] at H
          have c6b0 : decide (0 ≤ x12_1) = true := decide_eq_true c6
          clear c6
          by_cases c7 : x12_1 < (l1.length : Int)
          · rw [if_pos c7] at H
            have c7b0 : decide (x12_1 < (l1.length : Int)) = true := decide_eq_true c7
            clear c7
            by_cases c8 : x5_1.length < 17592186044416
            · rw [if_pos c8] at H
              have LMc8 := Aside0.mk c8
              clear c8
              obtain ⟨y239, hy239⟩ : ∃ y_ : List Int, y_ = (x5_1 ++ [wrap64 ((rd l1 x12_1) + (l0.length : Int))]) := ⟨_, rfl⟩
              replace H : (impl_joined.l0 k1 l0 y239 l1 (l1.length : Int) (wrap64 (x12_1 + 1))) = some r := by first | (rw [hy239]; with_reducible exact H) | (have H2_ := (Option.bind_some _ _).symm.trans H; rw [hy239]; with_reducible exact H2_) | (have H2_ := (Option.bind_some _ _).symm.trans H; with_reducible exact H2_) | with_reducible exact H | (rw [hy239]; exact H) | exact H
              have Ny239 := Aside0.mk hy239
              clear hy239
              have H' := Aside0.mk H
              clear H
              have p238 : 0 ≤ (x12_1 : Int) := of_decide_eq_true (by first | (with_reducible assumption) | assumption)
              have q238 : x12_1 < (l1.length : Int) := of_decide_eq_true (by first | (with_reducible assumption) | assumption)
              obtain ⟨ad238, e238, hx238_0⟩ := Kd.at_int HR1.out x12_1 p238 q238
              cases e238
              replace hx238_0 := (HB.out.cell (World.block_lt_of_cell? w _ hx238_0)).trans hx238_0
              replace p238 := eq_true p238
              replace q238 := eq_true q238
              go_wp2_with (first | ((with_reducible refine gate_builtin (b := .append) (xs := #[.tmp 16, .tmp 21]) rfl ?_); at_builtin; refine Kd.R_append (Kd.int .i64) (w0 := w) w.heap.size rfl (.tmp 16) (.tmp 21) 30 3 (.int .i64 0) 8 rfl Try.underlying30 info3 rfl (by decide) (by omega) u5 x5_1 (wrap64 ((rd l1 x12_1) + (l0.length : Int))) [.int .i64 (wrap64 ((rd l1 x12_1) + (l0.length : Int)))] (fun _ => True) (fun _ => False) rfl rfl ?aP (fun _ hk => hk.elim) ?aF ?aO ?aB ?aS ?aL ?_; (case aP => exact rfl); (case aB => exact (by repeat (first | (with_reducible first | exact HB.out | apply below_alloc | apply pw_below_drewN | apply below_drew1) | exact HB.out))); (case aF => exact (fun _ _ => trivial)); (case aO => exact (by (with_reducible repeat (first | apply Kd.R_alloc | apply Kd.R_drewN | apply Kd.R_drew)); exact HO_5.out)); (case aS => exact (below_size (by repeat (first | (with_reducible first | exact HB.out | apply below_alloc | apply pw_below_drewN | apply below_drew1) | exact HB.out)))); (case aL => have := LMc8.out; omega); intro v240 w9 ho hb hg hat; rw [← Ny239.out] at ho; have n0_ := Aside0.mk (hb); have n1_ := Aside0.mk (ho); clear HB; clear HO_5; have HB := n0_; have HO241 := n1_; clear n0_ n1_; clear ho hb hg hat))
              go_roundg k1
              case measure => have := HK1.out; omega
              case rel => exact ⟨(y239), (wrap64 (x12_1 + 1)), (by first | rfl | (simp; done) | (simp [*]; done)), H', ⟨by have := HK1.out; omega⟩, ⟨by (with_reducible repeat (first | apply Kd.R_alloc | apply Kd.R_drewN | apply Kd.R_drew)); exact HO241.out⟩, ⟨by repeat (first | (with_reducible first | exact HB.out | apply below_alloc | apply pw_below_drewN | apply below_drew1) | exact HB.out)⟩⟩
            · rw [if_neg c8] at H
              exact absurd H (by simp)
          · rw [if_neg c7] at H
            exact absurd H (by simp)
        · rw [if_neg c6] at H
          exact absurd H (by simp)
      · rw [if_neg c5] at H
        have c5b0 : decide (x12_1 < (l1.length : Int)) = false := decide_eq_false c5
        clear c5
        obtain rfl := Option.some.inj H
        go_wp2
        go_ret
        exact ⟨_, by first | rfl | (simp [errW_none, errW_some] <;> rfl) | (simp [*, errW_none, errW_some] <;> rfl), by (with_reducible repeat (first | apply Kd.R_alloc | apply Kd.R_drewN | apply Kd.R_drew)); exact HO_5.out, by repeat (first | (with_reducible first | exact HB.out | apply below_alloc | apply pw_below_drewN | apply below_drew1) | exact HB.out)⟩

end Go.Proofs.Ytnnkjjacpbbigaa.PB
namespace Go.Proofs.Ytnnkjjacpbbigaa.PB
open Go.RowKit Go.Proofs.YtnnkjjacpbbigaaW.PrintWords Go.Proofs.YtnnkjjacpbbigaaW.PrintLast Go.Proofs.YtnnkjjacpbbigaaW.PrintMore
attribute [local go_sem] max2_int min2_int max_two min_two max_three min_three max_four min_four   -- for this text's walks alone

/-! ### impl_covered: function 103 -/
def impl_covered.l0 : Nat → List Int → List Int → Int → Int → Option (List Int)
  | 0, _, _, _, _ => none
  | k + 1, x3, x10, x11, x12 => if x12 < x11 then (if 0 ≤ x12 then (if x12 < (x10.length : Int) then (if x3.length < 17592186044416 then (impl_covered.l0 k (x3 ++ [wrap64 ((rd x10 x12) + 1)]) x10 x11 (wrap64 (x12 + 1))) else (none)) else (none)) else (none)) else (if x3.length < 17592186044416 then (some (x3 ++ [0])) else (none))
def impl_covered.f (k : Nat) (l0 : List Int) : Option (List Int) := impl_covered.l0 k (([wrap64 ((l0.length : Int) + 1)] : List Int)) l0 (l0.length : Int) 0
theorem impl_covered.mono_l : ∀ k, (∀ y0 y1 y2 y3, LeO (impl_covered.l0 k y0 y1 y2 y3) (impl_covered.l0 (k + 1) y0 y1 y2 y3))
  | 0 => fun _ _ _ _ r h => by simp [impl_covered.l0] at h
  | k + 1 => by
    have ih0 := impl_covered.mono_l k
    · intro y0 y1 y2 y3
      unfold impl_covered.l0
      repeat' first
      | (with_reducible exact ih0 _ _ _ _)
      | (with_reducible exact LeO.refl _)
      | (with_reducible exact LeO.none _)
      | (with_reducible refine LeO.ite ?_ ?_)
      | (with_reducible refine LeO.bind ?_ (fun _ => ?_))
      | exact ih0 _ _ _ _
      | exact LeO.none _
      | refine LeO.ite ?_ ?_
      | refine LeO.bind ?_ (fun _ => ?_)
theorem impl_covered.mono : ∀ a0 k, LeO (impl_covered.f k a0) (impl_covered.f (k + 1) a0) := by
  intro a0 k
  have ih0 := impl_covered.mono_l k
  unfold impl_covered.f
  repeat' first
      | (with_reducible exact ih0 _ _ _ _)
      | (with_reducible exact LeO.refl _)
      | (with_reducible exact LeO.none _)
      | (with_reducible refine LeO.ite ?_ ?_)
      | (with_reducible refine LeO.bind ?_ (fun _ => ?_))
      | exact ih0 _ _ _ _
      | exact LeO.none _
      | refine LeO.ite ?_ ?_
      | refine LeO.bind ?_ (fun _ => ?_)
set_option maxHeartbeats 8000000 in
set_option maxRecDepth 100000 in
theorem impl_covered.calls (k : Nat) (A0 : Option Addr) (c0 : Nat) (l0 : List Int) (r : List Int) (w : World) (hr0 : Kd.C (Kd.int .i64) w A0 l0.length l0) (hc0 : l0.length ≤ c0) (h : impl_covered.f k l0 = some r) :
    Calls Try.prog 103 #[.slice A0 l0.length c0] w fun e w' => ∃ v0_ : Value, e = .returned (v0_) ∧ Kd.R (Kd.int .i64) 3 w' w.heap.size (fun _ => True) v0_ r ∧ Below w.heap.size w w' := by
  have HR0 := Aside0.mk hr0
  have HC0 := Aside0.mk hc0
  clear hr0 hc0
  have HB := Aside0.mk (Below.refl w.heap.size w)
  have H : (impl_covered.l0 k (([wrap64 ((l0.length : Int) + 1)] : List Int)) l0 (l0.length : Int) 0) = some r := h
  clear h
  obtain ⟨y242, hy242⟩ : ∃ y_ : List Int, y_ = (([wrap64 ((l0.length : Int) + 1)] : List Int)) := ⟨_, rfl⟩
  replace H : (impl_covered.l0 k y242 l0 (l0.length : Int) 0) = some r := by first | (rw [hy242]; with_reducible exact H) | (have H2_ := (Option.bind_some _ _).symm.trans H; rw [hy242]; with_reducible exact H2_) | (have H2_ := (Option.bind_some _ _).symm.trans H; with_reducible exact H2_) | with_reducible exact H | (rw [hy242]; exact H) | exact H
  have Ny242 := Aside0.mk hy242
  clear hy242
  have H' := Aside0.mk H
  clear H
  go_enter Try.func103, Try.ntmps103
  go_wp2_with (first | ((with_reducible refine gate_dst (N := 9) rfl ?_); refine Kd.R_lit (Kd.int .i64) _ 3 ?hg (N := 9) ?hd (xs := ([wrap64 ((l0.length : Int) + 1)] : List Int)) (inner := [.int .i64 (wrap64 ((l0.length : Int) + 1))]) (ok := fun _ => True) (okp := fun _ => True) ?hr ?hp (fun _ hk => hk) trivial (Below.refl _ _) (Nat.le_refl _) (by simp) ?_; (case hd => rfl); (case hg => rfl); (case hr => first | (go_simp; done) | (go_simp; rfl)); (case hp => exact (Reps.one (show Kd.M (Kd.int .i64) _ _ _ (wrap64 ((l0.length : Int) + 1)) [.int .i64 (wrap64 ((l0.length : Int) + 1))] from rfl) (Reps.none _ _))); intro v243 w2 ho3 hb hg_ hnew_; clear hg_ hnew_; (first | rw [← Ny242.out] at ho3 | (simp only [Int.reduceToNat] at ho3; rw [← Ny242.out] at ho3)); have n0_ := Aside0.mk (Kd.R_lower ho3 (below_size (by repeat (first | (with_reducible first | exact HB.out | apply below_alloc | apply pw_below_drewN | apply below_drew1) | exact HB.out)))); have n1_ := Aside0.mk (below_step (by repeat (first | (with_reducible first | exact HB.out | apply below_alloc | apply pw_below_drewN | apply below_drew1) | exact HB.out)) hb); clear HB; have HO244 := n0_; have HB := n1_; clear n0_ n1_; clear hb ho3))
  go_loopg [3, 12] k (fun kq v3 v12 w' => ∃ (x3_1 : List Int) (x12_1 : Int), v12 = .int .i64 x12_1 ∧ Aside0 (impl_covered.l0 kq x3_1 l0 (l0.length : Int) x12_1 = some r) ∧ Aside0 (kq ≤ k) ∧ Aside0 (Kd.R (Kd.int .i64) 3 w' w.heap.size (fun _ => True) v3 x3_1) ∧ Aside0 (Below w.heap.size w w'))
  case atStart => exact ⟨(y242), (0), (by first | rfl | (simp; done) | (simp [*]; done)), H', ⟨Nat.le_refl _⟩, ⟨by (with_reducible repeat (first | apply Kd.R_alloc | apply Kd.R_drewN | apply Kd.R_drew)); exact HO244.out⟩, ⟨by repeat (first | (with_reducible first | exact HB.out | apply below_alloc | apply pw_below_drewN | apply below_drew1) | exact HB.out)⟩⟩
  case round =>
    clear H'
    try clear c1
    try clear p2
    obtain ⟨x3_1, x12_1, rfl, HA, HK1, HO_3, HB⟩ := hrel
    cases gk with
    | zero => exact absurd HA.out (by simp [impl_covered.l0])
    | succ k1 =>
      have H := HA.out
      clear HA
      simp only [impl_covered.l0] at H
      by_cases c4 : x12_1 < (l0.length : Int)
      · rw [if_pos c4] at H
        have c4b0 : decide (x12_1 < (l0.length : Int)) = true := decide_eq_true c4
        clear c4
        by_cases c5 : 0 ≤ x12_1
        · rw [if_pos c5] at H
          have c5b0 : decide (0 ≤ x12_1) = true := decide_eq_true c5
          clear c5
          by_cases c6 : x12_1 < (l0.length : Int)
          · rw [if_pos c6] at H
            have c6b0 : decide (x12_1 < (l0.length : Int)) = true := decide_eq_true c6
            clear c6
            by_cases c7 : x3_1.length < 17592186044416
            · rw [if_pos c7] at H
              have LMc7 := Aside0.mk c7
              clear c7
              obtain ⟨y246, hy246⟩ : ∃ y_ : List Int, y_ = (x3_1 ++ [wrap64 ((rd l0 x12_1) + 1)]) := ⟨_, rfl⟩
              replace H : (impl_covered.l0 k1 y246 l0 (l0.length : Int) (wrap64 (x12_1 + 1))) = some r := by first | (rw [hy246]; with_reducible exact H) | (have H2_ := (Option.bind_some _ _).symm.trans H; rw [hy246]; with_reducible exact H2_) | (have H2_ := (Option.bind_some _ _).symm.trans H; with_reducible exact H2_) | with_reducible exact H | (rw [hy246]; exact H) | exact H
              have Ny246 := Aside0.mk hy246
              clear hy246
              have H' := Aside0.mk H
              clear H
              have p245 : 0 ≤ (x12_1 : Int) := of_decide_eq_true (by first | (with_reducible assumption) | assumption)
              have q245 : x12_1 < (l0.length : Int) := of_decide_eq_true (by first | (with_reducible assumption) | assumption)
              obtain ⟨ad245, e245, hx245_0⟩ := Kd.at_int HR0.out x12_1 p245 q245
              cases e245
              replace hx245_0 := (HB.out.cell (World.block_lt_of_cell? w _ hx245_0)).trans hx245_0
              replace p245 := eq_true p245
              replace q245 := eq_true q245
              go_wp2_with (first | ((with_reducible refine gate_builtin (b := .append) (xs := #[.tmp 16, .tmp 19]) rfl ?_); at_builtin; refine Kd.R_append (Kd.int .i64) (w0 := w) w.heap.size rfl (.tmp 16) (.tmp 19) 30 3 (.int .i64 0) 8 rfl Try.underlying30 info3 rfl (by decide) (by omega) u3 x3_1 (wrap64 ((rd l0 x12_1) + 1)) [.int .i64 (wrap64 ((rd l0 x12_1) + 1))] (fun _ => True) (fun _ => False) rfl rfl ?aP (fun _ hk => hk.elim) ?aF ?aO ?aB ?aS ?aL ?_; (case aP => exact rfl); (case aB => exact (by repeat (first | (with_reducible first | exact HB.out | apply below_alloc | apply pw_below_drewN | apply below_drew1) | exact HB.out))); (case aF => exact (fun _ _ => trivial)); (case aO => exact (by (with_reducible repeat (first | apply Kd.R_alloc | apply Kd.R_drewN | apply Kd.R_drew)); exact HO_3.out)); (case aS => exact (below_size (by repeat (first | (with_reducible first | exact HB.out | apply below_alloc | apply pw_below_drewN | apply below_drew1) | exact HB.out)))); (case aL => have := LMc7.out; omega); intro v247 w8 ho hb hg hat; rw [← Ny246.out] at ho; have n0_ := Aside0.mk (hb); have n1_ := Aside0.mk (ho); clear HB; clear HO_3; have HB := n0_; have HO248 := n1_; clear n0_ n1_; clear ho hb hg hat))
              go_roundg k1
              case measure => have := HK1.out; omega
              case rel => exact ⟨(y246), (wrap64 (x12_1 + 1)), (by first | rfl | (simp; done) | (simp [*]; done)), H', ⟨by have := HK1.out; omega⟩, ⟨by (with_reducible repeat (first | apply Kd.R_alloc | apply Kd.R_drewN | apply Kd.R_drew)); exact HO248.out⟩, ⟨by repeat (first | (with_reducible first | exact HB.out | apply below_alloc | apply pw_below_drewN | apply below_drew1) | exact HB.out)⟩⟩
            · rw [if_neg c7] at H
              exact absurd H (by simp)
          · rw [if_neg c6] at H
            exact absurd H (by simp)
        · rw [if_neg c5] at H
          exact absurd H (by simp)
      · rw [if_neg c4] at H
        have c4b0 : decide (x12_1 < (l0.length : Int)) = false := decide_eq_false c4
        clear c4
        by_cases c9 : x3_1.length < 17592186044416
        · rw [if_pos c9] at H
          have LMc9 := Aside0.mk c9
          clear c9
          obtain ⟨y249, hy249⟩ : ∃ y_ : List Int, y_ = (x3_1 ++ [0]) := ⟨_, rfl⟩
          replace H : (some y249) = some r := by first | (rw [hy249]; with_reducible exact H) | (have H2_ := (Option.bind_some _ _).symm.trans H; rw [hy249]; with_reducible exact H2_) | (have H2_ := (Option.bind_some _ _).symm.trans H; with_reducible exact H2_) | with_reducible exact H | (rw [hy249]; exact H) | exact H
          have Ny249 := Aside0.mk hy249
          clear hy249
          obtain rfl := Option.some.inj H
          go_wp2_with (first | ((with_reducible refine gate_builtin (b := .append) (xs := #[.tmp 22, .tmp 23]) rfl ?_); at_builtin; refine Kd.R_append (Kd.int .i64) (w0 := w) w.heap.size rfl (.tmp 22) (.tmp 23) 30 3 (.int .i64 0) 8 rfl Try.underlying30 info3 rfl (by decide) (by omega) u3 x3_1 0 [.int .i64 0] (fun _ => True) (fun _ => False) rfl rfl ?aP (fun _ hk => hk.elim) ?aF ?aO ?aB ?aS ?aL ?_; (case aP => exact rfl); (case aB => exact (by repeat (first | (with_reducible first | exact HB.out | apply below_alloc | apply pw_below_drewN | apply below_drew1) | exact HB.out))); (case aF => exact (fun _ _ => trivial)); (case aO => exact (by (with_reducible repeat (first | apply Kd.R_alloc | apply Kd.R_drewN | apply Kd.R_drew)); exact HO_3.out)); (case aS => exact (below_size (by repeat (first | (with_reducible first | exact HB.out | apply below_alloc | apply pw_below_drewN | apply below_drew1) | exact HB.out)))); (case aL => have := LMc9.out; omega); intro v250 w10 ho hb hg hat; rw [← Ny249.out] at ho; have n0_ := Aside0.mk (hb); have n1_ := Aside0.mk (ho); clear HB; clear HO_3; have HB := n0_; have HO251 := n1_; clear n0_ n1_; clear ho hb hg hat))
          go_ret
          exact ⟨_, by first | rfl | (simp [errW_none, errW_some] <;> rfl) | (simp [*, errW_none, errW_some] <;> rfl), by (with_reducible repeat (first | apply Kd.R_alloc | apply Kd.R_drewN | apply Kd.R_drew)); exact HO251.out, by repeat (first | (with_reducible first | exact HB.out | apply below_alloc | apply pw_below_drewN | apply below_drew1) | exact HB.out)⟩
        · rw [if_neg c9] at H
          exact absurd H (by simp)

end Go.Proofs.Ytnnkjjacpbbigaa.PB
namespace Go.Proofs.Ytnnkjjacpbbigaa.PB
open Go.RowKit Go.Proofs.YtnnkjjacpbbigaaW.PrintWords Go.Proofs.YtnnkjjacpbbigaaW.PrintLast Go.Proofs.YtnnkjjacpbbigaaW.PrintMore
attribute [local go_sem] max2_int min2_int max_two min_two max_three min_three max_four min_four   -- for this text's walks alone

/-! ### cmp_isNaN_int: function 153 -/
def cmp_isNaN_int.f (a0 : Int) : Option (Bool) := some (a0 != a0)
set_option maxHeartbeats 8000000 in
set_option maxRecDepth 100000 in
theorem cmp_isNaN_int.calls (a0 : Int) (r : Bool) (w : World) (h : cmp_isNaN_int.f a0 = some r) :
    Calls Try.prog 153 #[.int .i64 a0] w fun e w' => e = .returned (.bool r) ∧ Drawn0 w w' := by
  have H : (some (a0 != a0)) = some r := h
  clear h
  obtain rfl := Option.some.inj H
  go_enter Try.func153, Try.ntmps153
  go_wp2
  go_ret
  exact ⟨by first | rfl | (simp; done) | (simp [*]; done), by repeat (first | exact Drawn0.refl _ | apply Drawn0.step)⟩

end Go.Proofs.Ytnnkjjacpbbigaa.PB
namespace Go.Proofs.Ytnnkjjacpbbigaa.PB
open Go.RowKit Go.Proofs.YtnnkjjacpbbigaaW.PrintWords Go.Proofs.YtnnkjjacpbbigaaW.PrintLast Go.Proofs.YtnnkjjacpbbigaaW.PrintMore
attribute [local go_sem] max2_int min2_int max_two min_two max_three min_three max_four min_four   -- for this text's walks alone

/-! ### cmp_Compare_int: function 131 -/
def cmp_Compare_int.f (a0 : Int) (a1 : Int) : Option (Int) := (cmp_isNaN_int.f a0).bind fun t252 => ((cmp_isNaN_int.f a1).bind fun t253 => (if t252 = true then (if t253 = true then (some 0) else (some (-1))) else (if t253 = true then (some 1) else (if a0 < a1 then (some (-1)) else (if a0 > a1 then (some 1) else (some 0))))))
set_option maxHeartbeats 8000000 in
set_option maxRecDepth 100000 in
theorem cmp_Compare_int.calls (a0 : Int) (a1 : Int) (r : Int) (w : World) (h : cmp_Compare_int.f a0 a1 = some r) :
    Calls Try.prog 131 #[.int .i64 a0, .int .i64 a1] w fun e w' => e = .returned (.int .i64 r) ∧ Drawn0 w w' := by
  have H : ((cmp_isNaN_int.f a0).bind fun t252 => ((cmp_isNaN_int.f a1).bind fun t253 => (if t252 = true then (if t253 = true then (some 0) else (some (-1))) else (if t253 = true then (some 1) else (if a0 < a1 then (some (-1)) else (if a0 > a1 then (some 1) else (some 0))))))) = some r := h
  clear h
  replace H := Option.bind_eq_some_iff.mp H
  obtain ⟨t252, A30, H⟩ := H
  replace H : ((cmp_isNaN_int.f a1).bind fun t253 => (if t252 = true then (if t253 = true then (some 0) else (some (-1))) else (if t253 = true then (some 1) else (if a0 < a1 then (some (-1)) else (if a0 > a1 then (some 1) else (some 0)))))) = some r := H
  have A3 := Aside0.mk A30
  clear A30
  replace H := Option.bind_eq_some_iff.mp H
  obtain ⟨t253, A40, H⟩ := H
  replace H : (if t252 = true then (if t253 = true then (some 0) else (some (-1))) else (if t253 = true then (some 1) else (if a0 < a1 then (some (-1)) else (if a0 > a1 then (some 1) else (some 0))))) = some r := H
  have A4 := Aside0.mk A40
  clear A40
  by_cases c5 : t252 = true
  · subst c5
    have H1 : (if t253 = true then (some 0) else (some (-1))) = some r := by rw [if_pos rfl] at H; exact H
    clear H
    have H := H1
    clear H1
    by_cases c6 : t253 = true
    · subst c6
      have H1 : (some 0) = some r := by rw [if_pos rfl] at H; exact H
      clear H
      have H := H1
      clear H1
      obtain rfl := Option.some.inj H
      go_enter Try.func131, Try.ntmps131
      go_wp2_with (first | ((with_reducible refine gate_callee (f := 153) rfl ?_); refine goesL_ (some 8) rfl rfl Try.func153 (by kernel_rfl) rfl #[.int .i64 a0] rfl (by (try simp only [List.map_toArray, List.map_cons, List.map_nil]); first | done | rfl | (simp only [List.length_drop, List.length_take]; rfl)) ?_; (with_reducible refine (cmp_isNaN_int.calls a0 true _ A3.out).mono ?_); rintro e w' ⟨rfl, ⟨nd, rfl⟩⟩; refine ⟨_, rfl, ?_⟩) | ((with_reducible refine gate_callee (f := 153) rfl ?_); refine goesL_ (some 10) rfl rfl Try.func153 (by kernel_rfl) rfl #[.int .i64 a1] rfl (by (try simp only [List.map_toArray, List.map_cons, List.map_nil]); first | done | rfl | (simp only [List.length_drop, List.length_take]; rfl)) ?_; (with_reducible refine (cmp_isNaN_int.calls a1 true _ A4.out).mono ?_); rintro e w' ⟨rfl, ⟨nd, rfl⟩⟩; refine ⟨_, rfl, ?_⟩))
      go_ret
      exact ⟨by first | rfl | (simp; done) | (simp [*]; done), by repeat (first | exact Drawn0.refl _ | apply Drawn0.step)⟩
    · replace c6 := Bool.eq_false_iff.mpr c6
      subst c6
      have H1 : (some (-1)) = some r := by rw [if_neg (show ¬ (false = true) by decide)] at H; exact H
      clear H
      have H := H1
      clear H1
      obtain rfl := Option.some.inj H
      go_enter Try.func131, Try.ntmps131
      go_wp2_with (first | ((with_reducible refine gate_callee (f := 153) rfl ?_); refine goesL_ (some 8) rfl rfl Try.func153 (by kernel_rfl) rfl #[.int .i64 a0] rfl (by (try simp only [List.map_toArray, List.map_cons, List.map_nil]); first | done | rfl | (simp only [List.length_drop, List.length_take]; rfl)) ?_; (with_reducible refine (cmp_isNaN_int.calls a0 true _ A3.out).mono ?_); rintro e w' ⟨rfl, ⟨nd, rfl⟩⟩; refine ⟨_, rfl, ?_⟩) | ((with_reducible refine gate_callee (f := 153) rfl ?_); refine goesL_ (some 10) rfl rfl Try.func153 (by kernel_rfl) rfl #[.int .i64 a1] rfl (by (try simp only [List.map_toArray, List.map_cons, List.map_nil]); first | done | rfl | (simp only [List.length_drop, List.length_take]; rfl)) ?_; (with_reducible refine (cmp_isNaN_int.calls a1 false _ A4.out).mono ?_); rintro e w' ⟨rfl, ⟨nd, rfl⟩⟩; refine ⟨_, rfl, ?_⟩))
      go_ret
      exact ⟨by first | rfl | (simp; done) | (simp [*]; done), by repeat (first | exact Drawn0.refl _ | apply Drawn0.step)⟩
  · replace c5 := Bool.eq_false_iff.mpr c5
    subst c5
    have H1 : (if t253 = true then (some 1) else (if a0 < a1 then (some (-1)) else (if a0 > a1 then (some 1) else (some 0)))) = some r := by rw [if_neg (show ¬ (false = true) by decide)] at H; exact H
    clear H
    have H := H1
    clear H1
    by_cases c7 : t253 = true
    · subst c7
      have H1 : (some 1) = some r := by rw [if_pos rfl] at H; exact H
      clear H
      have H := H1
      clear H1
      obtain rfl := Option.some.inj H
      go_enter Try.func131, Try.ntmps131
      go_wp2_with (first | ((with_reducible refine gate_callee (f := 153) rfl ?_); refine goesL_ (some 8) rfl rfl Try.func153 (by kernel_rfl) rfl #[.int .i64 a0] rfl (by (try simp only [List.map_toArray, List.map_cons, List.map_nil]); first | done | rfl | (simp only [List.length_drop, List.length_take]; rfl)) ?_; (with_reducible refine (cmp_isNaN_int.calls a0 false _ A3.out).mono ?_); rintro e w' ⟨rfl, ⟨nd, rfl⟩⟩; refine ⟨_, rfl, ?_⟩) | ((with_reducible refine gate_callee (f := 153) rfl ?_); refine goesL_ (some 10) rfl rfl Try.func153 (by kernel_rfl) rfl #[.int .i64 a1] rfl (by (try simp only [List.map_toArray, List.map_cons, List.map_nil]); first | done | rfl | (simp only [List.length_drop, List.length_take]; rfl)) ?_; (with_reducible refine (cmp_isNaN_int.calls a1 true _ A4.out).mono ?_); rintro e w' ⟨rfl, ⟨nd, rfl⟩⟩; refine ⟨_, rfl, ?_⟩))
      go_ret
      exact ⟨by first | rfl | (simp; done) | (simp [*]; done), by repeat (first | exact Drawn0.refl _ | apply Drawn0.step)⟩
    · replace c7 := Bool.eq_false_iff.mpr c7
      subst c7
      have H1 : (if a0 < a1 then (some (-1)) else (if a0 > a1 then (some 1) else (some 0))) = some r := by rw [if_neg (show ¬ (false = true) by decide)] at H; exact H
      clear H
      have H := H1
      clear H1
      by_cases c8 : a0 < a1
      · rw [if_pos c8] at H
        have c8b0 : decide (a0 < a1) = true := decide_eq_true c8
        clear c8
        obtain rfl := Option.some.inj H
        go_enter Try.func131, Try.ntmps131
        go_wp2_with (first | ((with_reducible refine gate_callee (f := 153) rfl ?_); refine goesL_ (some 8) rfl rfl Try.func153 (by kernel_rfl) rfl #[.int .i64 a0] rfl (by (try simp only [List.map_toArray, List.map_cons, List.map_nil]); first | done | rfl | (simp only [List.length_drop, List.length_take]; rfl)) ?_; (with_reducible refine (cmp_isNaN_int.calls a0 false _ A3.out).mono ?_); rintro e w' ⟨rfl, ⟨nd, rfl⟩⟩; refine ⟨_, rfl, ?_⟩) | ((with_reducible refine gate_callee (f := 153) rfl ?_); refine goesL_ (some 10) rfl rfl Try.func153 (by kernel_rfl) rfl #[.int .i64 a1] rfl (by (try simp only [List.map_toArray, List.map_cons, List.map_nil]); first | done | rfl | (simp only [List.length_drop, List.length_take]; rfl)) ?_; (with_reducible refine (cmp_isNaN_int.calls a1 false _ A4.out).mono ?_); rintro e w' ⟨rfl, ⟨nd, rfl⟩⟩; refine ⟨_, rfl, ?_⟩))
        go_ret
        exact ⟨by first | rfl | (simp; done) | (simp [*]; done), by repeat (first | exact Drawn0.refl _ | apply Drawn0.step)⟩
      · rw [if_neg c8] at H
        have c8b0 : decide (a0 < a1) = false := decide_eq_false c8
        clear c8
        by_cases c9 : a0 > a1
        · rw [if_pos c9] at H
          have c9b0 : decide (a1 < a0) = true := decide_eq_true c9
          clear c9
          obtain rfl := Option.some.inj H
          go_enter Try.func131, Try.ntmps131
          go_wp2_with (first | ((with_reducible refine gate_callee (f := 153) rfl ?_); refine goesL_ (some 8) rfl rfl Try.func153 (by kernel_rfl) rfl #[.int .i64 a0] rfl (by (try simp only [List.map_toArray, List.map_cons, List.map_nil]); first | done | rfl | (simp only [List.length_drop, List.length_take]; rfl)) ?_; (with_reducible refine (cmp_isNaN_int.calls a0 false _ A3.out).mono ?_); rintro e w' ⟨rfl, ⟨nd, rfl⟩⟩; refine ⟨_, rfl, ?_⟩) | ((with_reducible refine gate_callee (f := 153) rfl ?_); refine goesL_ (some 10) rfl rfl Try.func153 (by kernel_rfl) rfl #[.int .i64 a1] rfl (by (try simp only [List.map_toArray, List.map_cons, List.map_nil]); first | done | rfl | (simp only [List.length_drop, List.length_take]; rfl)) ?_; (with_reducible refine (cmp_isNaN_int.calls a1 false _ A4.out).mono ?_); rintro e w' ⟨rfl, ⟨nd, rfl⟩⟩; refine ⟨_, rfl, ?_⟩))
          go_ret
          exact ⟨by first | rfl | (simp; done) | (simp [*]; done), by repeat (first | exact Drawn0.refl _ | apply Drawn0.step)⟩
        · rw [if_neg c9] at H
          have c9b0 : decide (a1 < a0) = false := decide_eq_false c9
          clear c9
          obtain rfl := Option.some.inj H
          go_enter Try.func131, Try.ntmps131
          go_wp2_with (first | ((with_reducible refine gate_callee (f := 153) rfl ?_); refine goesL_ (some 8) rfl rfl Try.func153 (by kernel_rfl) rfl #[.int .i64 a0] rfl (by (try simp only [List.map_toArray, List.map_cons, List.map_nil]); first | done | rfl | (simp only [List.length_drop, List.length_take]; rfl)) ?_; (with_reducible refine (cmp_isNaN_int.calls a0 false _ A3.out).mono ?_); rintro e w' ⟨rfl, ⟨nd, rfl⟩⟩; refine ⟨_, rfl, ?_⟩) | ((with_reducible refine gate_callee (f := 153) rfl ?_); refine goesL_ (some 10) rfl rfl Try.func153 (by kernel_rfl) rfl #[.int .i64 a1] rfl (by (try simp only [List.map_toArray, List.map_cons, List.map_nil]); first | done | rfl | (simp only [List.length_drop, List.length_take]; rfl)) ?_; (with_reducible refine (cmp_isNaN_int.calls a1 false _ A4.out).mono ?_); rintro e w' ⟨rfl, ⟨nd, rfl⟩⟩; refine ⟨_, rfl, ?_⟩))
          go_ret
          exact ⟨by first | rfl | (simp; done) | (simp [*]; done), by repeat (first | exact Drawn0.refl _ | apply Drawn0.step)⟩

end Go.Proofs.Ytnnkjjacpbbigaa.PB
namespace Go.Proofs.Ytnnkjjacpbbigaa.PB
open Go.RowKit Go.Proofs.YtnnkjjacpbbigaaW.PrintWords Go.Proofs.YtnnkjjacpbbigaaW.PrintLast Go.Proofs.YtnnkjjacpbbigaaW.PrintMore
attribute [local go_sem] max2_int min2_int max_two min_two max_three min_three max_four min_four   -- for this text's walks alone

/-! ### slices_Compare_int_int: function 105 -/
def slices_Compare_int_int.l0 : Nat → List Int → List Int → List Int → Int → Int → Option (Int)
  | 0, _, _, _, _, _ => none
  | k + 1, x0, x1, x9, x10, x11 => if x11 < x10 then (if 0 ≤ x11 then (if x11 < (x9.length : Int) then (if x11 ≥ (x1.length : Int) then (some 1) else (if x11 < (x1.length : Int) then ((cmp_Compare_int.f (rd x9 x11) (rd x1 x11)).bind fun t256 => (if t256 = 0 then (slices_Compare_int_int.l0 k x0 x1 x9 x10 (wrap64 (x11 + 1))) else (some t256))) else (none))) else (none)) else (none)) else (if (x0.length : Int) < (x1.length : Int) then (some (-1)) else (some 0))
def slices_Compare_int_int.f (k : Nat) (l0 : List Int) (l1 : List Int) : Option (Int) := slices_Compare_int_int.l0 k l0 l1 l0 (l0.length : Int) 0
theorem slices_Compare_int_int.mono_l : ∀ k, (∀ y0 y1 y2 y3 y4, LeO (slices_Compare_int_int.l0 k y0 y1 y2 y3 y4) (slices_Compare_int_int.l0 (k + 1) y0 y1 y2 y3 y4))
  | 0 => fun _ _ _ _ _ r h => by simp [slices_Compare_int_int.l0] at h
  | k + 1 => by
    have ih0 := slices_Compare_int_int.mono_l k
    · intro y0 y1 y2 y3 y4
      unfold slices_Compare_int_int.l0
      repeat' first
      | (with_reducible exact ih0 _ _ _ _ _)
      | (with_reducible exact LeO.refl _)
      | (with_reducible exact LeO.none _)
      | (with_reducible refine LeO.ite ?_ ?_)
      | (with_reducible refine LeO.bind ?_ (fun _ => ?_))
      | exact ih0 _ _ _ _ _
      | exact LeO.none _
      | refine LeO.ite ?_ ?_
      | refine LeO.bind ?_ (fun _ => ?_)
theorem slices_Compare_int_int.mono : ∀ a0 a1 k, LeO (slices_Compare_int_int.f k a0 a1) (slices_Compare_int_int.f (k + 1) a0 a1) := by
  intro a0 a1 k
  have ih0 := slices_Compare_int_int.mono_l k
  unfold slices_Compare_int_int.f
  repeat' first
      | (with_reducible exact ih0 _ _ _ _ _)
      | (with_reducible exact LeO.refl _)
      | (with_reducible exact LeO.none _)
      | (with_reducible refine LeO.ite ?_ ?_)
      | (with_reducible refine LeO.bind ?_ (fun _ => ?_))
      | exact ih0 _ _ _ _ _
      | exact LeO.none _
      | refine LeO.ite ?_ ?_
      | refine LeO.bind ?_ (fun _ => ?_)
set_option maxHeartbeats 8000000 in
set_option maxRecDepth 100000 in
theorem slices_Compare_int_int.calls (k : Nat) (A0 : Option Addr) (c0 : Nat) (l0 : List Int) (A1 : Option Addr) (c1 : Nat) (l1 : List Int) (r : Int) (w : World) (hr0 : Kd.C (Kd.int .i64) w A0 l0.length l0) (hc0 : l0.length ≤ c0) (hr1 : Kd.C (Kd.int .i64) w A1 l1.length l1) (hc1 : l1.length ≤ c1) (h : slices_Compare_int_int.f k l0 l1 = some r) :
    Calls Try.prog 105 #[.slice A0 l0.length c0, .slice A1 l1.length c1] w fun e w' => e = .returned (.int .i64 r) ∧ Drawn0 w w' := by
  have HR0 := Aside0.mk hr0
  have HC0 := Aside0.mk hc0
  clear hr0 hc0
  have HR1 := Aside0.mk hr1
  have HC1 := Aside0.mk hc1
  clear hr1 hc1
  have H : (slices_Compare_int_int.l0 k l0 l1 l0 (l0.length : Int) 0) = some r := h
  clear h
  have H' := Aside0.mk H
  clear H
  go_enter Try.func105, Try.ntmps105
  go_wp2
  go_loopg [11] k (fun kq v11 w' => ∃ (x11_1 : Int), v11 = .int .i64 x11_1 ∧ Aside0 (slices_Compare_int_int.l0 kq l0 l1 l0 (l0.length : Int) x11_1 = some r) ∧ Aside0 (kq ≤ k) ∧ Drawn0 w w')
  case atStart => exact ⟨(0), (by first | rfl | (simp; done) | (simp [*]; done)), H', ⟨Nat.le_refl _⟩, by repeat (first | exact Drawn0.refl _ | apply Drawn0.step)⟩
  case round =>
    clear H'
    try clear c1
    try clear p2
    obtain ⟨x11_1, rfl, HA, HK1, ⟨m1, rfl⟩⟩ := hrel
    cases gk with
    | zero => exact absurd HA.out (by simp [slices_Compare_int_int.l0])
    | succ k1 =>
      have H := HA.out
      clear HA
      simp only [slices_Compare_int_int.l0] at H
      by_cases c3 : x11_1 < (l0.length : Int)
      · rw [if_pos c3] at H
        have c3b0 : decide (x11_1 < (l0.length : Int)) = true := decide_eq_true c3
        clear c3
        by_cases c4 : 0 ≤ x11_1
        · rw [if_pos c4] at H
          have c4b0 : decide (0 ≤ x11_1) = true := decide_eq_true c4
          clear c4
          by_cases c5 : x11_1 < (l0.length : Int)
          · rw [if_pos c5] at H
            have c5b0 : decide (x11_1 < (l0.length : Int)) = true := decide_eq_true c5
            clear c5
            by_cases c6 : x11_1 ≥ (l1.length : Int)
            · rw [if_pos c6] at H
              have c6b0 : decide ((l1.length : Int) ≤ x11_1) = true := decide_eq_true c6
              clear c6
              obtain rfl := Option.some.inj H
              have p254 : 0 ≤ (x11_1 : Int) := of_decide_eq_true (by first | (with_reducible assumption) | assumption)
              have q254 : x11_1 < (l0.length : Int) := of_decide_eq_true (by first | (with_reducible assumption) | assumption)
              obtain ⟨ad254, e254, hx254_0⟩ := Kd.at_int HR0.out x11_1 p254 q254
              cases e254
              replace p254 := eq_true p254
              replace q254 := eq_true q254
              go_wp2
              go_ret
              exact ⟨by first | rfl | (simp; done) | (simp [*]; done), by repeat (first | exact Drawn0.refl _ | apply Drawn0.step)⟩
            · rw [if_neg c6] at H
              have c6b0 : decide ((l1.length : Int) ≤ x11_1) = false := decide_eq_false c6
              clear c6
              by_cases c7 : x11_1 < (l1.length : Int)
              · rw [if_pos c7] at H
                have c7b0 : decide (x11_1 < (l1.length : Int)) = true := decide_eq_true c7
                clear c7
                replace H := Option.bind_eq_some_iff.mp H
                obtain ⟨t256, A80, H⟩ := H
                replace H : (if t256 = 0 then (slices_Compare_int_int.l0 k1 l0 l1 l0 (l0.length : Int) (wrap64 (x11_1 + 1))) else (some t256)) = some r := H
                have A8 := Aside0.mk A80
                clear A80
                by_cases c9 : t256 = 0
                · rw [if_pos c9] at H
                  have c9b0 : (t256 == 0) = true := beq_iff_eq.mpr c9
                  have c9b1 : (t256 != 0) = false := bne_eq_false_iff_eq.mpr c9
                  clear c9
                  have H' := Aside0.mk H
                  clear H
                  have p254 : 0 ≤ (x11_1 : Int) := of_decide_eq_true (by first | (with_reducible assumption) | assumption)
                  have q254 : x11_1 < (l0.length : Int) := of_decide_eq_true (by first | (with_reducible assumption) | assumption)
                  obtain ⟨ad254, e254, hx254_0⟩ := Kd.at_int HR0.out x11_1 p254 q254
                  cases e254
                  replace p254 := eq_true p254
                  replace q254 := eq_true q254
                  have p255 : 0 ≤ (x11_1 : Int) := of_decide_eq_true (by first | (with_reducible assumption) | assumption)
                  have q255 : x11_1 < (l1.length : Int) := of_decide_eq_true (by first | (with_reducible assumption) | assumption)
                  obtain ⟨ad255, e255, hx255_0⟩ := Kd.at_int HR1.out x11_1 p255 q255
                  cases e255
                  replace p255 := eq_true p255
                  replace q255 := eq_true q255
                  go_wp2_with (first | ((with_reducible refine gate_callee (f := 131) rfl ?_); refine goesL_ (some 26) rfl rfl Try.func131 (by kernel_rfl) rfl #[.int .i64 (rd l0 x11_1), .int .i64 (rd l1 x11_1)] rfl (by (try simp only [List.map_toArray, List.map_cons, List.map_nil]); first | done | rfl | (simp only [List.length_drop, List.length_take]; rfl)) ?_; (with_reducible refine (cmp_Compare_int.calls (rd l0 x11_1) (rd l1 x11_1) t256 _ A8.out).mono ?_); rintro e w' ⟨rfl, ⟨nd, rfl⟩⟩; refine ⟨_, rfl, ?_⟩))
                  go_roundg k1
                  case measure => have := HK1.out; omega
                  case rel => exact ⟨(wrap64 (x11_1 + 1)), (by first | rfl | (simp; done) | (simp [*]; done)), H', ⟨by have := HK1.out; omega⟩, by repeat (first | exact Drawn0.refl _ | apply Drawn0.step)⟩
                · rw [if_neg c9] at H
                  have c9b0 : (t256 == 0) = false := beq_eq_false_iff_ne.mpr c9
                  have c9b1 : (t256 != 0) = true := bne_iff_ne.mpr c9
                  obtain rfl := Option.some.inj H
                  have p254 : 0 ≤ (x11_1 : Int) := of_decide_eq_true (by first | (with_reducible assumption) | assumption)
                  have q254 : x11_1 < (l0.length : Int) := of_decide_eq_true (by first | (with_reducible assumption) | assumption)
                  obtain ⟨ad254, e254, hx254_0⟩ := Kd.at_int HR0.out x11_1 p254 q254
                  cases e254
                  replace p254 := eq_true p254
                  replace q254 := eq_true q254
                  have p255 : 0 ≤ (x11_1 : Int) := of_decide_eq_true (by first | (with_reducible assumption) | assumption)
                  have q255 : x11_1 < (l1.length : Int) := of_decide_eq_true (by first | (with_reducible assumption) | assumption)
                  obtain ⟨ad255, e255, hx255_0⟩ := Kd.at_int HR1.out x11_1 p255 q255
                  cases e255
                  replace p255 := eq_true p255
                  replace q255 := eq_true q255
                  go_wp2_with (first | ((with_reducible refine gate_callee (f := 131) rfl ?_); refine goesL_ (some 26) rfl rfl Try.func131 (by kernel_rfl) rfl #[.int .i64 (rd l0 x11_1), .int .i64 (rd l1 x11_1)] rfl (by (try simp only [List.map_toArray, List.map_cons, List.map_nil]); first | done | rfl | (simp only [List.length_drop, List.length_take]; rfl)) ?_; (with_reducible refine (cmp_Compare_int.calls (rd l0 x11_1) (rd l1 x11_1) t256 _ A8.out).mono ?_); rintro e w' ⟨rfl, ⟨nd, rfl⟩⟩; refine ⟨_, rfl, ?_⟩))
                  go_ret
                  exact ⟨by first | rfl | (simp; done) | (simp [*]; done), by repeat (first | exact Drawn0.refl _ | apply Drawn0.step)⟩
              · rw [if_neg c7] at H
                exact absurd H (by simp)
          · rw [if_neg c5] at H
            exact absurd H (by simp)
        · rw [if_neg c4] at H
          exact absurd H (by simp)
      · rw [if_neg c3] at H
        have c3b0 : decide (x11_1 < (l0.length : Int)) = false := decide_eq_false c3
        clear c3
        by_cases c10 : (l0.length : Int) < (l1.length : Int)
        · rw [if_pos c10] at H
          have c10b0 : decide ((l0.length : Int) < (l1.length : Int)) = true := decide_eq_true c10
          have c10b1 : decide (l0.length < l1.length) = true := decide_eq_true (Int.ofNat_lt.mp c10)
          clear c10
          obtain rfl := Option.some.inj H
          go_wp2
          go_ret
          exact ⟨by first | rfl | (simp; done) | (simp [*]; done), by repeat (first | exact Drawn0.refl _ | apply Drawn0.step)⟩
        · rw [if_neg c10] at H
          have c10b0 : decide ((l0.length : Int) < (l1.length : Int)) = false := decide_eq_false c10
          have c10b1 : decide (l0.length < l1.length) = false := decide_eq_false (fun h => c10 (Int.ofNat_lt.mpr h))
          clear c10
          obtain rfl := Option.some.inj H
          go_wp2
          go_ret
          exact ⟨by first | rfl | (simp; done) | (simp [*]; done), by repeat (first | exact Drawn0.refl _ | apply Drawn0.step)⟩

end Go.Proofs.Ytnnkjjacpbbigaa.PB
namespace Go.Proofs.Ytnnkjjacpbbigaa.PB
open Go.RowKit Go.Proofs.YtnnkjjacpbbigaaW.PrintWords Go.Proofs.YtnnkjjacpbbigaaW.PrintLast Go.Proofs.YtnnkjjacpbbigaaW.PrintMore
attribute [local go_sem] max2_int min2_int max_two min_two max_three min_three max_four min_four   -- for this text's walks alone

/-! ### slices_SortFunc_int_int: function 104 -/
def lays_SortFuncII_ren : Go.Shelf.Ren := ⟨fun | 6 => 104 | 15 => 100 | 14 => 130 | 28 => 127 | 29 => 128 | 20 => 145 | 21 => 146 | 22 => 147 | 23 => 148 | 24 => 149 | 25 => 150 | 26 => 151 | 27 => 152 | 46 => 160 | 47 => 140 | 48 => 141 | 49 => 161 | 50 => 162 | 57 => 166 | n => n, fun | 22 => 76 | 24 => 30 | 25 => 95 | 3 => 3 | 39 => 91 | 0 => 0 | 53 => 113 | 55 => 73 | 4 => 4 | 46 => 106 | 45 => 105 | 50 => 28 | 5 => 5 | 9 => 9 | 66 => 122 | 70 => 126 | 76 => 136 | 77 => 137 | n => n, fun | n => n⟩
theorem lays_SortFuncII : Go.Proofs.SlLaysF.n6 Try.prog lays_SortFuncII_ren := {
  mixed := by kernel_rfl,
  f6 := ⟨Try.f104.name, by decide, Try.func104.trans (congrArg some (by kernel_rfl))⟩,
  f14 := ⟨Try.f130.name, by decide, Try.func130.trans (congrArg some (by kernel_rfl))⟩,
  f15 := Try.func100.trans (congrArg some (by kernel_rfl)),
  f20 := ⟨Try.f145.name, by decide, Try.func145.trans (congrArg some (by kernel_rfl))⟩,
  f21 := ⟨Try.f146.name, by decide, Try.func146.trans (congrArg some (by kernel_rfl))⟩,
  f22 := ⟨Try.f147.name, by decide, Try.func147.trans (congrArg some (by kernel_rfl))⟩,
  f23 := ⟨Try.f148.name, by decide, Try.func148.trans (congrArg some (by kernel_rfl))⟩,
  f24 := ⟨Try.f149.name, by decide, Try.func149.trans (congrArg some (by kernel_rfl))⟩,
  f25 := ⟨Try.f150.name, by decide, Try.func150.trans (congrArg some (by kernel_rfl))⟩,
  f26 := ⟨Try.f151.name, by decide, Try.func151.trans (congrArg some (by kernel_rfl))⟩,
  f27 := ⟨Try.f152.name, by decide, Try.func152.trans (congrArg some (by kernel_rfl))⟩,
  f28 := Try.func127.trans (congrArg some (by kernel_rfl)),
  f29 := Try.func128.trans (congrArg some (by kernel_rfl)),
  f46 := ⟨Try.f160.name, by decide, Try.func160.trans (congrArg some (by kernel_rfl))⟩,
  f47 := Try.func140.trans (congrArg some (by kernel_rfl)),
  f48 := Try.func141.trans (congrArg some (by kernel_rfl)),
  f49 := ⟨Try.f161.name, by decide, Try.func161.trans (congrArg some (by kernel_rfl))⟩,
  f50 := ⟨Try.f162.name, by decide, Try.func162.trans (congrArg some (by kernel_rfl))⟩,
  f57 := ⟨Try.f166.name, by decide, Try.func166.trans (congrArg some (by kernel_rfl))⟩,
  t0 := Try.underlying0,
  a0 := Try.isAgg0,
  z0 := Try.sizeOf0,
  v0 := Try.zeroValue0,
  t3 := Try.underlying3,
  a3 := Try.isAgg3,
  z3 := Try.sizeOf3,
  v3 := Try.zeroValue3,
  t4 := Try.underlying4,
  a4 := Try.isAgg4,
  z4 := Try.sizeOf4,
  v4 := Try.zeroValue4,
  t5 := Try.underlying5,
  a5 := Try.isAgg5,
  z5 := Try.sizeOf5,
  v5 := Try.zeroValue5,
  t9 := Try.underlying9,
  a9 := Try.isAgg9,
  z9 := Try.sizeOf9,
  v9 := Try.zeroValue9,
  t22 := Try.underlying76,
  a22 := Try.isAgg76,
  z22 := Try.sizeOf76,
  v22 := Try.zeroValue76,
  a24 := Try.isAgg30,
  z24 := Try.sizeOf30,
  t25 := Try.underlying95,
  a25 := Try.isAgg95,
  z25 := Try.sizeOf95,
  v25 := Try.zeroValue95,
  t39 := Try.underlying91,
  a39 := Try.isAgg91,
  z39 := Try.sizeOf91,
  v39 := Try.zeroValue91,
  t45 := Try.underlying105,
  a45 := Try.isAgg105,
  z45 := Try.sizeOf105,
  v45 := Try.zeroValue105,
  t46 := Try.underlying106,
  a46 := Try.isAgg106,
  z46 := Try.sizeOf106,
  v46 := Try.zeroValue106,
  t50 := Try.underlying28,
  a50 := Try.isAgg28,
  z50 := Try.sizeOf28,
  v50 := Try.zeroValue28,
  t53 := Try.underlying113,
  a53 := Try.isAgg113,
  z53 := Try.sizeOf113,
  v53 := Try.zeroValue113,
  t55 := Try.underlying73,
  a55 := Try.isAgg73,
  z55 := Try.sizeOf73,
  v55 := Try.zeroValue73,
  t66 := Try.underlying122,
  a66 := Try.isAgg122,
  z66 := Try.sizeOf122,
  v66 := Try.zeroValue122,
  t70 := Try.underlying126,
  a70 := Try.isAgg126,
  z70 := Try.sizeOf126,
  v70 := Try.zeroValue126,
  t76 := Try.underlying136,
  a76 := Try.isAgg136,
  z76 := Try.sizeOf136,
  v76 := Try.zeroValue136,
  t77 := Try.underlying137,
  a77 := Try.isAgg137,
  z77 := Try.sizeOf137,
  v77 := Try.zeroValue137 }

theorem slices_SortFunc_int_int.cmp_lex (l0 l1 : List Int) (h0 : l0.length ≤ 9223372036854775807) (h1 : l1.length ≤ 9223372036854775807) : ∀ k i, i ≤ l0.length → l0.length < k + i → slices_Compare_int_int.l0 k l0 l1 l0 (l0.length : Int) (i : Int) = some (lexI (l0.drop i) (l1.drop i))
  | 0, i, h, hk => by omega
  | k + 1, i, h, hk => by
    unfold slices_Compare_int_int.l0
    by_cases hi : i < l0.length
    · rw [if_pos (by omega), if_pos (by omega), if_pos (by omega), List.drop_eq_getElem_cons hi]
      by_cases hj : i < l1.length
      · rw [if_neg (by omega), if_pos (by omega), List.drop_eq_getElem_cons hj]
        have e0 : rd l0 (i : Int) = l0[i] := by simp [rd, List.getD_eq_getElem?_getD, hi]
        have e1 : rd l1 (i : Int) = l1[i] := by simp [rd, List.getD_eq_getElem?_getD, hj]
        have ew : wrap64 ((i : Int) + 1) = ((i + 1 : Nat) : Int) := by
          rw [show ((i : Int) + 1) = ((i + 1 : Nat) : Int) by omega]
          simp only [wrap64]
          omega
        rw [e0, e1, ew, slices_SortFunc_int_int.cmp_lex l0 l1 h0 h1 k (i + 1) (by omega) (by omega)]
        simp only [cmp_Compare_int.f, cmp_isNaN_int.f, lexI]
        by_cases c1 : l0[i] < l1[i]
        · simp [c1]
        · by_cases c2 : l1[i] < l0[i]
          · simp [c1, c2]
          · simp [c1, c2]
      · rw [if_pos (by omega), List.drop_eq_nil_of_le (show l1.length ≤ i by omega)]
        rfl
    · rw [if_neg (by omega), List.drop_eq_nil_of_le (by omega)]
      by_cases hj : l0.length < l1.length
      · rw [if_pos (by omega), List.drop_eq_getElem_cons (by omega)]
        rfl
      · rw [if_neg (by omega), List.drop_eq_nil_of_le (by omega)]
        rfl
def slices_SortFunc_int_int.g (xs : List (List Int)) : List (List Int) := sortLL xs
theorem slices_SortFunc_int_int.ev {w0 W : World} (base : Nat) (ok : Nat → Prop) (v : Value) (xs : List (List Int)) (h : xs.length < 4611686018427387904) (HO : Kd.S (Kd.slice 3 (Kd.int .i64)) 30 W base ok v xs) (HB : Below base w0 W) (hbase : base ≤ W.heap.size) :
    Calls Try.prog 104 #[v, .func (.func 105) #[] #[]] W fun e w' => e = .returned (.tuple #[]) ∧ Kd.S (Kd.slice 3 (Kd.int .i64)) 30 w' base ok v (slices_SortFunc_int_int.g xs) ∧ Below base w0 w' ∧ W.grownBy w' v.ownBlock := by
  have HO2 := HO
  obtain ⟨f, hok, inner, hown, hr⟩ := HO
  rw [List.length_zipIdx] at hown
  rcases hown.2 with ⟨hv, hnil⟩ | ⟨g, cap, cur, hv, hb0, hb, h1, h2, h3, h4⟩
  · subst hv
    have he : xs = [] := List.eq_nil_of_length_eq_zero hnil
    subst he
    have hc := AnyF.slices_SortFunc_none (L := { lays_SortFuncII with }) none 0 (.func (.func 105) #[] #[]) W
    change Calls Try.prog 104 #[.slice none 0 0, _] W _ at hc
    refine hc.mono ?_
    rintro e w' ⟨rfl, rfl⟩
    exact ⟨rfl, by simpa [slices_SortFunc_int_int.g, sortLL] using HO2, HB, World.grownBy.refl _ _⟩
  · subst hv
    have hlen : inner.length = xs.length := by have := hown.1; simpa [Kd.tag, Kd.slice] using this
    let enc : Nat → Value := fun j => inner.getD j (.slice none 0 0)
    let at_ : Nat → List Int := fun j => xs.getD j []
    let cf : Nat → Nat → Int := fun i j => lexI (at_ i) (at_ j)
    have hencs : (List.range xs.length).map enc = inner := by
      apply List.ext_getElem (by simp [hlen])
      intro i h1 h2
      simp [enc, List.getD_eq_getElem?_getD, h2]
    -- each element read in whatever world the sort passes through
    have hread : ∀ W1, W.grownBy W1 (some g) → ∀ x, ∃ A c, enc x = .slice A (at_ x).length c ∧ (at_ x).length ≤ c ∧ Kd.C (Kd.int .i64) W1 A (at_ x).length (at_ x) := by
      intro W1 hg x
      by_cases hx : x < xs.length
      · have h1 := hr.2 x (xs[x], x) (Kd.zip_at (List.getElem?_eq_getElem hx))
        change (Kd.slice 3 (Kd.int .i64)).M W base (fun k => (ok k ∧ some k ≠ (Value.slice (some ⟨g, 0, none⟩) xs.length cap).ownBlock) ∧ f k = x) xs[x] ((inner.drop (x * 1)).take 1) at h1
        have h2 := (Kd.slice 3 (Kd.int .i64)).M_move (w1 := W1) (fun k hk => hg.block k hk.2.2.1 hk.1.1.2) ((Kd.slice 3 (Kd.int .i64)).M_bound h1)
        obtain ⟨A, c, hcs, hle, hC⟩ := (Kd.slice 3 (Kd.int .i64)).K_of_M h2
        have hx' : x < inner.length := by omega
        rw [Nat.mul_one, List.drop_eq_getElem_cons hx'] at hcs
        simp only [List.take_succ_cons, List.take_zero, List.cons.injEq, and_true] at hcs
        have ha : at_ x = xs[x] := by simp [at_, List.getD_eq_getElem?_getD, hx]
        refine ⟨A, c, ?_, by rw [ha]; exact hle, by rw [ha]; exact hC⟩
        simp only [enc, List.getD_eq_getElem?_getD, List.getElem?_eq_getElem hx', Option.getD_some, ha]
        exact hcs
      · have ha : at_ x = [] := by simp [at_, List.getD_eq_getElem?_getD, List.getElem?_eq_none (Nat.le_of_not_lt hx)]
        refine ⟨none, 0, ?_, by simp [ha], ?_⟩
        · simp [enc, List.getD_eq_getElem?_getD, List.getElem?_eq_none (show inner.length ≤ x by omega), ha]
        · rw [ha]
          exact ⟨rfl, by simp, fun h => absurd h (by simp)⟩
    have hO : Go.Sort.SWO (ltOf cf) := by
      refine ⟨fun x => ?_, fun x y z h1 h2 => ?_, fun x y z h1 h2 => ?_⟩
      · simp [ltOf, cf, lexI_self]
      · simp only [ltOf, cf, decide_eq_true_eq] at h1 h2 ⊢
        have h3 := lexI_trans (at_ x) (at_ y) (at_ z) (by omega) (by omega)
        by_cases h4 : lexI (at_ x) (at_ z) = 0
        · have h5 := lexI_zero _ _ h4
          rw [h5] at h1
          have := lexI_neg (at_ y) (at_ z)
          omega
        · omega
      · simp only [ltOf, cf, decide_eq_false_iff_not] at h1 h2 ⊢
        have h3 := lexI_trans (at_ z) (at_ y) (at_ x) (by have := lexI_neg (at_ y) (at_ z); omega) (by have := lexI_neg (at_ x) (at_ y); omega)
        have := lexI_neg (at_ x) (at_ z)
        omega
    have hcmp : CmpLays1 Try.prog 105 #[] enc cf g 0 (List.range xs.length).toArray.size W := by
      intro m os dk hdk x y
      obtain ⟨A0, c0, he0, hc0, hC0⟩ := hread _ (cm_grown_sorted (enc := enc) (w := W) (g := g) (n := m) (os := os) dk) x
      obtain ⟨A1, c1, he1, hc1, hC1⟩ := hread _ (cm_grown_sorted (enc := enc) (w := W) (g := g) (n := m) (os := os) dk) y
      have hcc := slices_Compare_int_int.calls ((at_ x).length + 1) A0 c0 (at_ x) A1 c1 (at_ y) (cf x y) (sortWorld enc W g 0 m dk os) hC0 hc0 hC1 hc1 (by
        have := slices_SortFunc_int_int.cmp_lex (at_ x) (at_ y) hC0.2.1 hC1.2.1 ((at_ x).length + 1) 0 (Nat.zero_le _) (by omega)
        simpa [slices_Compare_int_int.f, cf] using this)
      rw [he0, he1]
      refine hcc.mono ?_
      rintro e w' ⟨rfl, q, rfl⟩
      exact ⟨rfl, q, #[], by rw [Go.Sort.grow_empty]⟩
    have hH := cm_holds (enc := enc) (d := (List.range xs.length).toArray) hb (by
      have h5 : cur.toList.take (xs.length * 1) = inner := h4
      rw [Nat.mul_one] at h5
      simpa [hencs] using h5)
    have h1c : OneCell enc := by
      intro x
      obtain ⟨A, c, he, _⟩ := hread W (World.grownBy.refl W _) x
      rw [he]
      rfl
    have hcon := Any.slices_SortFunc lays_SortFuncII enc h1c cf hO 105 #[] g 0 cap (List.range xs.length).toArray W (enters_ Try.func105 (by decide) (by rfl)) hcmp hH (Array.getElem?_eq_some_iff.1 hb).1 (by simpa using h)
    change Calls Try.prog 104 #[.slice (some ⟨g, 0, none⟩) (List.range xs.length).toArray.size cap, _] W _ at hcon
    rw [show (List.range xs.length).toArray.size = xs.length by simp] at hcon
    refine hcon.mono ?_
    rintro e w' ⟨rfl, d', n, os, hperm, hsort, rfl⟩
    have hp : d'.toList.Perm (List.range xs.length) := by
      have h6 := hperm.2.2
      have h7 := hperm.1
      simp only [List.size_toArray, List.length_range] at h6 h7
      rw [Array.extract_eq_self_of_le (by omega), Array.extract_eq_self_of_le (by simp)] at h6
      exact h6
    have hsz : d'.size = xs.length := by simpa using hperm.1
    have hg := cm_grown_sorted (enc := enc) (w := W) (g := g) (n := n) (os := os) d'
    have hj : ∀ j ∈ d'.toList, j < xs.length := fun j hm => by simpa using hp.mem_iff.1 hm
    have hown' := cm_owns_sorted (enc := enc) (w := W) (base := base) (g := g) (cap := cap) (n := n) (os := os) d' hsz hb0 hb h1 h2 h3
    have hS := cm_S_pick (d := Kd.slice 3 (Kd.int .i64)) (e := 30) (W := W) (W' := sortWorld enc W g 0 n d' os) (base := base) (ok := ok) (v := .slice (some ⟨g, 0, none⟩) xs.length cap) (v' := .slice (some ⟨g, 0, none⟩) xs.length cap) (xs := xs) (f := f) (inner := inner) (inner' := d'.toList.map enc) hok (fun _ hk => hk) hr d'.toList (hp.nodup_iff.2 List.nodup_range) [] hj
      (by rw [show d'.toList.length = xs.length by simp [hsz]]; exact hown')
      (fun q j hq => by
        obtain ⟨hql, hqe⟩ := List.getElem?_eq_some_iff.1 hq
        have hjl : j < inner.length := by rw [hlen]; exact hj j (List.mem_of_getElem? hq)
        show ((d'.toList.map enc).drop (q * 1)).take 1 = (inner.drop (j * 1)).take 1
        rw [Nat.mul_one, Nat.mul_one, List.drop_eq_getElem_cons (by simpa using hql), List.drop_eq_getElem_cons hjl]
        simp only [List.take_succ_cons, List.take_zero, List.getElem_map, hqe]
        simp [enc, List.getD_eq_getElem?_getD, hjl])
      (fun k hk hlt => hg.block k hlt hk)
    have heq : (d'.toList.map fun j => xs.getD j []) = slices_SortFunc_int_int.g xs := by
      refine sortLL_eq ?_ ?_
      · have h8 := hp.map (fun j => xs.getD j [])
        have h9 : (List.range xs.length).map (fun j => xs.getD j []) = xs := by
          apply List.ext_getElem (by simp)
          intro i h1 h2
          simp [List.getD_eq_getElem?_getD, h2]
        rwa [h9] at h8
      · rw [List.pairwise_map, List.pairwise_iff_getElem]
        intro i j hi hjl hij
        have h10 := hsort i j (Nat.zero_le _) hij (by simpa [hsz] using hjl)
        have hjl' : j < d'.size := by simpa using hjl
        have hi' : i < d'.size := by omega
        simp only [ltOf, cf, decide_eq_false_iff_not, getElem!_pos d' j hjl', getElem!_pos d' i hi'] at h10
        have := lexI_neg (at_ d'[i]) (at_ d'[j])
        simp only [Array.getElem_toList]
        show lexI (at_ d'[i]) (at_ d'[j]) ≤ 0
        omega
    rw [heq] at hS
    exact ⟨rfl, hS, HB.grown hg hbase (fun k hk => by cases hk; exact hb0), hg⟩

end Go.Proofs.Ytnnkjjacpbbigaa.PB
namespace Go.Proofs.Ytnnkjjacpbbigaa.PB
open Go.RowKit Go.Proofs.YtnnkjjacpbbigaaW.PrintWords Go.Proofs.YtnnkjjacpbbigaaW.PrintLast Go.Proofs.YtnnkjjacpbbigaaW.PrintMore
attribute [local go_sem] max2_int min2_int max_two min_two max_three min_three max_four min_four   -- for this text's walks alone

/-! ### impl_systems: function 77 -/
mutual
def impl_systems.l0 : Nat → Int → List (List Int) → Int → Int → Option ((List (List Int)))
  | 0, _, _, _, _ => none
  | k + 1, x0, x3, x14, x15 => if x15 < x14 then ((impl_systems.f k x15).bind fun t269 => (impl_systems.l1 k x0 x3 x15 x14 x15 t269 (t269.length : Int) 0)) else (if x3.length < 4611686018427387904 then (some (slices_SortFunc_int_int.g x3)) else (none))
def impl_systems.l1 : Nat → Int → List (List Int) → Int → Int → Int → List (List Int) → Int → Int → Option ((List (List Int)))
  | 0, _, _, _, _, _, _, _, _ => none
  | k + 1, x0, x3, x4, x14, x15, x19, x20, x21 => if x21 < x20 then (if 0 ≤ x21 then (if x21 < (x19.length : Int) then ((impl_systems.f k (wrap64 ((wrap64 (x0 - 1)) - x4))).bind fun t273 => (impl_systems.l2 k x0 x3 x4 (rd_L1 x19 x21) x14 x15 x19 x20 x21 t273 (t273.length : Int) 0)) else (none)) else (none)) else (impl_systems.l0 k x0 x3 x14 (wrap64 (x15 + 1)))
def impl_systems.l2 : Nat → Int → List (List Int) → Int → List Int → Int → Int → List (List Int) → Int → Int → List (List Int) → Int → Int → Option ((List (List Int)))
  | 0, _, _, _, _, _, _, _, _, _, _, _, _ => none
  | k + 1, x0, x3, x4, x6, x14, x15, x19, x20, x21, x29, x30, x31 => if x31 < x30 then (if 0 ≤ x31 then (if x31 < (x29.length : Int) then ((impl_covered.f k x6).bind fun t277 => ((impl_joined.f k t277 (rd_L1 x29 x31)).bind fun t280 => (if x3.length < 5864062014805 then (impl_systems.l2 k x0 (x3 ++ [t280]) x4 x6 x14 x15 x19 x20 x21 x29 x30 (wrap64 (x31 + 1))) else (none)))) else (none)) else (none)) else (impl_systems.l1 k x0 x3 x4 x14 x15 x19 x20 (wrap64 (x21 + 1)))
def impl_systems.f : Nat → Int → Option ((List (List Int)))
  | 0, _ => none
  | k + 1, a0 => if a0 = 0 then (some (([(([] : List Int))] : List (List Int)))) else (impl_systems.l0 k a0 (([] : List (List Int))) a0 0)
end
theorem impl_systems.mono_l : ∀ k, (∀ y0, LeO (impl_systems.f k y0) (impl_systems.f (k + 1) y0)) ∧ (∀ y0 y1 y2 y3, LeO (impl_systems.l0 k y0 y1 y2 y3) (impl_systems.l0 (k + 1) y0 y1 y2 y3)) ∧ (∀ y0 y1 y2 y3 y4 y5 y6 y7, LeO (impl_systems.l1 k y0 y1 y2 y3 y4 y5 y6 y7) (impl_systems.l1 (k + 1) y0 y1 y2 y3 y4 y5 y6 y7)) ∧ (∀ y0 y1 y2 y3 y4 y5 y6 y7 y8 y9 y10 y11, LeO (impl_systems.l2 k y0 y1 y2 y3 y4 y5 y6 y7 y8 y9 y10 y11) (impl_systems.l2 (k + 1) y0 y1 y2 y3 y4 y5 y6 y7 y8 y9 y10 y11))
  | 0 => ⟨fun _ r h => by simp [impl_systems.f] at h, fun _ _ _ _ r h => by simp [impl_systems.l0] at h, fun _ _ _ _ _ _ _ _ r h => by simp [impl_systems.l1] at h, fun _ _ _ _ _ _ _ _ _ _ _ _ r h => by simp [impl_systems.l2] at h⟩
  | k + 1 => by
    obtain ⟨ih0, ih1, ih2, ih3⟩ := impl_systems.mono_l k
    refine ⟨?_, ?_, ?_, ?_⟩
    · intro y0
      unfold impl_systems.f
      repeat' first
      | (with_reducible exact ih0 _)
      | (with_reducible exact ih1 _ _ _ _)
      | (with_reducible exact ih2 _ _ _ _ _ _ _ _)
      | (with_reducible exact ih3 _ _ _ _ _ _ _ _ _ _ _ _)
      | (with_reducible exact impl_covered.mono _ _)
      | (with_reducible exact impl_joined.mono _ _ _)
      | (with_reducible exact LeO.refl _)
      | (with_reducible exact LeO.none _)
      | (with_reducible refine LeO.ite ?_ ?_)
      | (with_reducible refine LeO.bind ?_ (fun _ => ?_))
      | exact ih0 _
      | exact ih1 _ _ _ _
      | exact ih2 _ _ _ _ _ _ _ _
      | exact ih3 _ _ _ _ _ _ _ _ _ _ _ _
      | exact impl_covered.mono _ _
      | exact impl_joined.mono _ _ _
      | exact LeO.none _
      | refine LeO.ite ?_ ?_
      | refine LeO.bind ?_ (fun _ => ?_)
    · intro y0 y1 y2 y3
      unfold impl_systems.l0
      repeat' first
      | (with_reducible exact ih0 _)
      | (with_reducible exact ih1 _ _ _ _)
      | (with_reducible exact ih2 _ _ _ _ _ _ _ _)
      | (with_reducible exact ih3 _ _ _ _ _ _ _ _ _ _ _ _)
      | (with_reducible exact impl_covered.mono _ _)
      | (with_reducible exact impl_joined.mono _ _ _)
      | (with_reducible exact LeO.refl _)
      | (with_reducible exact LeO.none _)
      | (with_reducible refine LeO.ite ?_ ?_)
      | (with_reducible refine LeO.bind ?_ (fun _ => ?_))
      | exact ih0 _
      | exact ih1 _ _ _ _
      | exact ih2 _ _ _ _ _ _ _ _
      | exact ih3 _ _ _ _ _ _ _ _ _ _ _ _
      | exact impl_covered.mono _ _
      | exact impl_joined.mono _ _ _
      | exact LeO.none _
      | refine LeO.ite ?_ ?_
      | refine LeO.bind ?_ (fun _ => ?_)
    · intro y0 y1 y2 y3 y4 y5 y6 y7
      unfold impl_systems.l1
      repeat' first
      | (with_reducible exact ih0 _)
      | (with_reducible exact ih1 _ _ _ _)
      | (with_reducible exact ih2 _ _ _ _ _ _ _ _)
      | (with_reducible exact ih3 _ _ _ _ _ _ _ _ _ _ _ _)
      | (with_reducible exact impl_covered.mono _ _)
      | (with_reducible exact impl_joined.mono _ _ _)
      | (with_reducible exact LeO.refl _)
      | (with_reducible exact LeO.none _)
      | (with_reducible refine LeO.ite ?_ ?_)
      | (with_reducible refine LeO.bind ?_ (fun _ => ?_))
      | exact ih0 _
      | exact ih1 _ _ _ _
      | exact ih2 _ _ _ _ _ _ _ _
      | exact ih3 _ _ _ _ _ _ _ _ _ _ _ _
      | exact impl_covered.mono _ _
      | exact impl_joined.mono _ _ _
      | exact LeO.none _
      | refine LeO.ite ?_ ?_
      | refine LeO.bind ?_ (fun _ => ?_)
    · intro y0 y1 y2 y3 y4 y5 y6 y7 y8 y9 y10 y11
      unfold impl_systems.l2
      repeat' first
      | (with_reducible exact ih0 _)
      | (with_reducible exact ih1 _ _ _ _)
      | (with_reducible exact ih2 _ _ _ _ _ _ _ _)
      | (with_reducible exact ih3 _ _ _ _ _ _ _ _ _ _ _ _)
      | (with_reducible exact impl_covered.mono _ _)
      | (with_reducible exact impl_joined.mono _ _ _)
      | (with_reducible exact LeO.refl _)
      | (with_reducible exact LeO.none _)
      | (with_reducible refine LeO.ite ?_ ?_)
      | (with_reducible refine LeO.bind ?_ (fun _ => ?_))
      | exact ih0 _
      | exact ih1 _ _ _ _
      | exact ih2 _ _ _ _ _ _ _ _
      | exact ih3 _ _ _ _ _ _ _ _ _ _ _ _
      | exact impl_covered.mono _ _
      | exact impl_joined.mono _ _ _
      | exact LeO.none _
      | refine LeO.ite ?_ ?_
      | refine LeO.bind ?_ (fun _ => ?_)
theorem impl_systems.mono : ∀ a0 k, LeO (impl_systems.f k a0) (impl_systems.f (k + 1) a0) := by
  intro a0 k
  obtain ⟨ih0, ih1, ih2, ih3⟩ := impl_systems.mono_l k
  exact ih0 a0
set_option maxHeartbeats 8000000 in
set_option maxRecDepth 100000 in
theorem impl_systems.calls (k : Nat) : ∀ (a0 : Int) (r : List (List Int)) (w : World) (h : impl_systems.f k a0 = some r),
    Calls Try.prog 77 #[.int .i64 a0] w fun e w' => ∃ v0_ : Value, e = .returned (v0_) ∧ Kd.S (Kd.slice 3 (Kd.int .i64)) 30 w' w.heap.size (fun _ => True) v0_ r ∧ Below w.heap.size w w' := by
  induction k using Nat.strongRecOn with
  | _ k ih =>
  intro a0 r w h
  cases k with
  | zero => exact absurd h (by simp [impl_systems.f])
  | succ k =>
  simp only [impl_systems.f] at h
  have HB := Aside0.mk (Below.refl w.heap.size w)
  have H : (if a0 = 0 then (some (([(([] : List Int))] : List (List Int)))) else (impl_systems.l0 k a0 (([] : List (List Int))) a0 0)) = some r := h
  clear h
  by_cases c2 : a0 = 0
  · rw [if_pos c2] at H
    have c2b0 : (a0 == 0) = true := beq_iff_eq.mpr c2
    have c2b1 : (a0 != 0) = false := bne_eq_false_iff_eq.mpr c2
    clear c2
    obtain ⟨y257, hy257⟩ : ∃ y_ : List Int, y_ = (([] : List Int)) := ⟨_, rfl⟩
    replace H : (some (([y257] : List (List Int)))) = some r := by first | (rw [hy257]; with_reducible exact H) | (have H2_ := (Option.bind_some _ _).symm.trans H; rw [hy257]; with_reducible exact H2_) | (have H2_ := (Option.bind_some _ _).symm.trans H; with_reducible exact H2_) | with_reducible exact H | (rw [hy257]; exact H) | exact H
    have Ny257 := Aside0.mk hy257
    clear hy257
    obtain ⟨y260, hy260⟩ : ∃ y_ : List (List Int), y_ = (([y257] : List (List Int))) := ⟨_, rfl⟩
    replace H : (some y260) = some r := by first | (rw [hy260]; with_reducible exact H) | (have H2_ := (Option.bind_some _ _).symm.trans H; rw [hy260]; with_reducible exact H2_) | (have H2_ := (Option.bind_some _ _).symm.trans H; with_reducible exact H2_) | with_reducible exact H | (rw [hy260]; exact H) | exact H
    have Ny260 := Aside0.mk hy260
    clear hy260
    obtain rfl := Option.some.inj H
    go_enter Try.func77, Try.ntmps77
    go_wp2_with (first | ((with_reducible refine gate_dst (N := 11) rfl ?_); refine Kd.R_lit (Kd.int .i64) _ 3 ?hg (N := 11) ?hd (xs := ([] : List Int)) (inner := []) (ok := fun _ => True) (okp := fun _ => True) ?hr ?hp (fun _ hk => hk) trivial (Below.refl _ _) (Nat.le_refl _) (by simp) ?_; (case hd => rfl); (case hg => rfl); (case hr => first | (go_simp; done) | (go_simp; rfl)); (case hp => exact (Reps.none _ _)); intro v258 w3 ho4 hb hg_ hnew_; clear hg_ hnew_; (first | rw [← Ny257.out] at ho4 | (simp only [Int.reduceToNat] at ho4; rw [← Ny257.out] at ho4)); have n0_ := Aside0.mk (Kd.R_lower ho4 (below_size (by repeat (first | (with_reducible first | exact HB.out | apply below_alloc | apply pw_below_drewN | apply below_drew1) | exact HB.out)))); have n1_ := Aside0.mk (below_step (by repeat (first | (with_reducible first | exact HB.out | apply below_alloc | apply pw_below_drewN | apply below_drew1) | exact HB.out)) hb); clear HB; have HO259 := n0_; have HB := n1_; clear n0_ n1_; clear hb ho4; obtain ⟨Ao5, co5, eo5⟩ := Kd.R_slice HO259.out; subst eo5) | ((with_reducible refine gate_dst (N := 12) rfl ?_); refine Kd.S_lits (Kd.slice 3 (Kd.int .i64)) w.heap.size 30 ?hg (N := 12) ?hd (xs := ([y257] : List (List Int))) (inner := [.slice Ao5 y257.length co5]) (ok := fun _ => True) (fun j_ _ => j_ = 0) ?hr rfl ?hp (fun _ _ _ h1_ h2_ => h1_.trans h2_.symm) (fun _ _ _ => trivial) trivial (by repeat (first | (with_reducible first | exact HB.out | apply below_alloc | apply pw_below_drewN | apply below_drew1) | exact HB.out)) (below_size (by repeat (first | (with_reducible first | exact HB.out | apply below_alloc | apply pw_below_drewN | apply below_drew1) | exact HB.out))) (by simp) ?_; (case hd => rfl); (case hg => rfl); (case hr => first | (go_simp; done) | (go_simp; rfl)); (case hp => (intro j_ x_ hx_; (rcases j_ with _ | j_); (cases hx_; exact Kd.M_row (Kd.R_mono (by (with_reducible repeat (first | apply Kd.R_alloc | apply Kd.R_drewN | apply Kd.R_drew)); exact HO259.out) (fun _ _ => rfl))); (cases hx_))); intro v261 w6 ho7 hb hg_ hnew_; clear hb; have hb := (⟨hg_.os, hg_.tape, hg_.output, hg_.size, fun i_ hi_ => hg_.block i_ hi_ (by simp)⟩ : Below (World.heap _).size _ w6); clear hg_ hnew_; (first | rw [← Ny260.out] at ho7 | (simp only [Int.reduceToNat] at ho7; rw [← Ny260.out] at ho7)); have n0_ := Aside0.mk (ho7); have n1_ := Aside0.mk (below_step (by repeat (first | (with_reducible first | exact HB.out | apply below_alloc | apply pw_below_drewN | apply below_drew1) | exact HB.out)) hb); clear HB; clear HO259; have HO262 := n0_; have HB := n1_; clear n0_ n1_; clear hb ho7))
    go_ret
    exact ⟨_, by first | rfl | (simp [errW_none, errW_some] <;> rfl) | (simp [*, errW_none, errW_some] <;> rfl), by (with_reducible repeat (first | apply Kd.S_alloc | apply Kd.S_drewN | apply Kd.S_drew)); exact HO262.out, by repeat (first | (with_reducible first | exact HB.out | apply below_alloc | apply pw_below_drewN | apply below_drew1) | exact HB.out)⟩
  · rw [if_neg c2] at H
    have c2b0 : (a0 == 0) = false := beq_eq_false_iff_ne.mpr c2
    have c2b1 : (a0 != 0) = true := bne_iff_ne.mpr c2
    obtain ⟨y263, hy263⟩ : ∃ y_ : List (List Int), y_ = (([] : List (List Int))) := ⟨_, rfl⟩
    replace H : (impl_systems.l0 k a0 y263 a0 0) = some r := by first | (rw [hy263]; with_reducible exact H) | (have H2_ := (Option.bind_some _ _).symm.trans H; rw [hy263]; with_reducible exact H2_) | (have H2_ := (Option.bind_some _ _).symm.trans H; with_reducible exact H2_) | with_reducible exact H | (rw [hy263]; exact H) | exact H
    have Ny263 := Aside0.mk hy263
    clear hy263
    have H' := Aside0.mk H
    clear H
    go_enter Try.func77, Try.ntmps77
    go_wp2_with (first | ((with_reducible refine gate_dst (N := 13) rfl ?_); refine Kd.S_lit (Kd.slice 3 (Kd.int .i64)) _ 30 ?hg (N := 13) ?hd (xs := ([] : List (List Int))) (inner := []) (ok := fun _ => True) (okp := fun _ => True) ?hr ?hp (fun _ hk => hk) trivial (Below.refl _ _) (Nat.le_refl _) (by simp) ?_; (case hd => rfl); (case hg => rfl); (case hr => first | (go_simp; done) | (go_simp; rfl)); (case hp => exact (Reps.none _ _)); intro v264 w8 ho9 hb hg_ hnew_; clear hg_ hnew_; (first | rw [← Ny263.out] at ho9 | (simp only [Int.reduceToNat] at ho9; rw [← Ny263.out] at ho9)); have n0_ := Aside0.mk (Kd.S_lower ho9 (below_size (by repeat (first | (with_reducible first | exact HB.out | apply below_alloc | apply pw_below_drewN | apply below_drew1) | exact HB.out)))); have n1_ := Aside0.mk (below_step (by repeat (first | (with_reducible first | exact HB.out | apply below_alloc | apply pw_below_drewN | apply below_drew1) | exact HB.out)) hb); clear HB; have HO265 := n0_; have HB := n1_; clear n0_ n1_; clear hb ho9))
    go_loopg [3, 15] k (fun kq v3 v15 w' => ∃ (x3_1 : List (List Int)) (x15_1 : Int), v15 = .int .i64 x15_1 ∧ Aside0 (impl_systems.l0 kq a0 x3_1 a0 x15_1 = some r) ∧ Aside0 (kq ≤ k) ∧ Aside0 (Kd.S (Kd.slice 3 (Kd.int .i64)) 30 w' w.heap.size (fun _ => True) v3 x3_1) ∧ Aside0 (Below w.heap.size w w'))
    case atStart => exact ⟨(y263), (0), (by first | rfl | (simp; done) | (simp [*]; done)), H', ⟨Nat.le_refl _⟩, ⟨by (with_reducible repeat (first | apply Kd.S_alloc | apply Kd.S_drewN | apply Kd.S_drew)); exact HO265.out⟩, ⟨by repeat (first | (with_reducible first | exact HB.out | apply below_alloc | apply pw_below_drewN | apply below_drew1) | exact HB.out)⟩⟩
    case round =>
      clear H'
      try clear c2
      try clear c2b0
      try clear c2b1
      try clear p2
      try clear c7
      obtain ⟨x3_1, x15_1, rfl, HA, HK1, HO_3, HB⟩ := hrel
      cases gk with
      | zero => exact absurd HA.out (by simp [impl_systems.l0])
      | succ k1 =>
        have H := HA.out
        clear HA
        simp only [impl_systems.l0] at H
        by_cases c10 : x15_1 < a0
        · rw [if_pos c10] at H
          have c10b0 : decide (x15_1 < a0) = true := decide_eq_true c10
          clear c10
          replace H := Option.bind_eq_some_iff.mp H
          obtain ⟨t269, A110, H⟩ := H
          replace H : (impl_systems.l1 k1 a0 x3_1 x15_1 a0 x15_1 t269 (t269.length : Int) 0) = some r := H
          have A11 := Aside0.mk A110
          clear A110
          have H' := Aside0.mk H
          clear H
          go_wp2_with (first | ((with_reducible refine gate_callee (f := 77) rfl ?_); refine goesL_ (some 19) rfl rfl Try.func77 (by kernel_rfl) rfl #[.int .i64 x15_1] rfl (by (try simp only [List.map_toArray, List.map_cons, List.map_nil]); first | done | rfl | (simp only [List.length_drop, List.length_take]; rfl)) ?_; (with_reducible refine (ih k1 (by have := HK1.out; omega) x15_1 t269 _ A11.out).mono ?_); rintro e w12 ⟨v270, rfl, ho0, hb⟩; refine ⟨_, rfl, ?_⟩; have n0_ := Aside0.mk (Kd.S_elder' (by (with_reducible repeat (first | apply Kd.S_alloc | apply Kd.S_drewN | apply Kd.S_drew)); exact HO_3.out) (Kd.S_base ho0) hb); have n1_ := Aside0.mk (Kd.S_lower (Kd.S_new' ho0 (Kd.S_lt (by (with_reducible repeat (first | apply Kd.S_alloc | apply Kd.S_drewN | apply Kd.S_drew)); exact HO_3.out))) (below_size (by repeat (first | (with_reducible first | exact HB.out | apply below_alloc | apply pw_below_drewN | apply below_drew1) | exact HB.out)))); have n2_ := Aside0.mk (below_step (by repeat (first | (with_reducible first | exact HB.out | apply below_alloc | apply pw_below_drewN | apply below_drew1) | exact HB.out)) hb); clear HO_3; clear HB; have HO_3 := n0_; have HO271 := n1_; have HB := n2_; clear n0_ n1_ n2_; (try clear hb); (try clear hb2); (try clear hk); (try clear hi); (try clear ho0); obtain ⟨Ao13, co13, eo13⟩ := Kd.S_slice HO271.out; subst eo13))
          go_loopg [3, 21] k1 (fun kq v3 v21 w' => ∃ (x3_2 : List (List Int)) (x21_2 : Int), v21 = .int .i64 x21_2 ∧ Aside0 (impl_systems.l1 kq a0 x3_2 x15_1 a0 x15_1 t269 (t269.length : Int) x21_2 = some r) ∧ Aside0 (kq ≤ k1) ∧ Aside0 (Kd.S (Kd.slice 3 (Kd.int .i64)) 30 w' w.heap.size (fun k_ => some k_ ≠ ((.slice Ao13 t269.length co13) : Value).ownBlock) v3 x3_2) ∧ Aside0 (Kd.S (Kd.slice 3 (Kd.int .i64)) 30 w' w.heap.size (fun k_ => some k_ ≠ (v3 : Value).ownBlock) (.slice Ao13 t269.length co13) t269) ∧ Aside0 (Below w.heap.size w w'))
          case atStart => exact ⟨(x3_1), (0), (by first | rfl | (simp; done) | (simp [*]; done)), H', ⟨Nat.le_refl _⟩, ⟨by (with_reducible repeat (first | apply Kd.S_alloc | apply Kd.S_drewN | apply Kd.S_drew)); exact Kd.S_mono HO_3.out (fun _ hk => hk.2)⟩, ⟨by (with_reducible repeat (first | apply Kd.S_alloc | apply Kd.S_drewN | apply Kd.S_drew)); exact Kd.S_mono HO271.out (fun _ hk => hk.2)⟩, ⟨by repeat (first | (with_reducible first | exact HB.out | apply below_alloc | apply pw_below_drewN | apply below_drew1) | exact HB.out)⟩⟩
          case round =>
            clear H'
            try clear c1
            try clear c2
            try clear c2b0
            try clear c2b1
            try clear p2
            try clear c7
            try clear c10
            try clear c10b0
            try clear p2
            obtain ⟨x3_2, x21_2, rfl, HA, HK2, HO_3, HO_19, HB⟩ := hrel
            cases gk with
            | zero => exact absurd HA.out (by simp [impl_systems.l1])
            | succ k2 =>
              have H := HA.out
              clear HA
              simp only [impl_systems.l1] at H
              by_cases c14 : x21_2 < (t269.length : Int)
              · rw [if_pos c14] at H
                have c14b0 : decide (x21_2 < (t269.length : Int)) = true := decide_eq_true c14
                clear c14
                by_cases c15 : 0 ≤ x21_2
                · rw [if_pos c15] at H
                  have c15b0 : decide (0 ≤ x21_2) = true := decide_eq_true c15
                  clear c15
                  by_cases c16 : x21_2 < (t269.length : Int)
                  · rw [if_pos c16] at H
                    have c16b0 : decide (x21_2 < (t269.length : Int)) = true := decide_eq_true c16
                    clear c16
                    replace H := Option.bind_eq_some_iff.mp H
                    obtain ⟨t273, A170, H⟩ := H
                    replace H : (impl_systems.l2 k2 a0 x3_2 x15_1 (rd_L1 t269 x21_2) a0 x15_1 t269 (t269.length : Int) x21_2 t273 (t273.length : Int) 0) = some r := H
                    have A17 := Aside0.mk A170
                    clear A170
                    have H' := Aside0.mk H
                    clear H
                    have p272 : 0 ≤ (x21_2 : Int) := of_decide_eq_true (by first | (with_reducible assumption) | assumption)
                    have q272 : x21_2 < (t269.length : Int) := of_decide_eq_true (by first | (with_reducible assumption) | assumption)
                    obtain ⟨ad272, A272_0, c272_0, e272, hx272_0, hl272_0, hi272_0⟩ := at_L1 (Kd.S_reads' HO_19.out).2.2 x21_2 p272 q272
                    cases e272
                    obtain ⟨ce272, hce272, hMe272, hcc272⟩ := Kd.S_get HO_19.out [] x21_2 p272 (by first | exact q272 | exact of_decide_eq_true (by first | (with_reducible assumption) | assumption) | (have e_ := (Kd.S_reads' HO_19.out).1; omega))
                    obtain ⟨ve272_0, rfl, ge272_0⟩ := hMe272
                    have hv272_0 := hcc272 0 _ rfl
                    rw [Nat.add_zero, show ((Kd.slice 3 (Kd.int .i64))).sz = 1 from rfl, Nat.mul_one] at hv272_0
                    replace hv272_0 := Option.some.inj (hv272_0.symm.trans hx272_0)
                    rw [hv272_0] at ge272_0
                    have HL272_0 := Aside0.mk (show Kd.R (Kd.int .i64) 3 _ _ _ _ (rd_L1 t269 x21_2) from ge272_0)
                    clear hv272_0 ge272_0
                    clear hcc272 hce272
                    have HR272_0 := Aside0.mk hi272_0
                    have HC272_0 := Aside0.mk hl272_0
                    clear hi272_0 hl272_0
                    replace p272 := eq_true p272
                    replace q272 := eq_true q272
                    go_wp2_with (first | ((with_reducible refine gate_callee (f := 77) rfl ?_); refine goesL_ (some 29) rfl rfl Try.func77 (by kernel_rfl) rfl #[.int .i64 (wrap64 ((wrap64 (a0 - 1)) - x15_1))] rfl (by (try simp only [List.map_toArray, List.map_cons, List.map_nil]); first | done | rfl | (simp only [List.length_drop, List.length_take]; rfl)) ?_; (with_reducible refine (ih k2 (by have := HK1.out; have := HK2.out; omega) (wrap64 ((wrap64 (a0 - 1)) - x15_1)) t273 _ A17.out).mono ?_); rintro e w18 ⟨v274, rfl, ho0, hb⟩; refine ⟨_, rfl, ?_⟩; have n0_ := Aside0.mk (Kd.S_elder' (by (with_reducible repeat (first | apply Kd.S_alloc | apply Kd.S_drewN | apply Kd.S_drew)); exact HO_3.out) (Kd.S_base ho0) hb); have n1_ := Aside0.mk (Kd.S_elder' (by (with_reducible repeat (first | apply Kd.S_alloc | apply Kd.S_drewN | apply Kd.S_drew)); exact HO_19.out) (Kd.S_base ho0) hb); have n2_ := Aside0.mk (Kd.R_below (by (with_reducible repeat (first | apply Kd.R_alloc | apply Kd.R_drewN | apply Kd.R_drew)); exact HL272_0.out) hb); have n3_ := Aside0.mk (Kd.S_lower (Kd.S_new' (Kd.S_new' (Kd.S_new' ho0 (Kd.S_lt (by (with_reducible repeat (first | apply Kd.S_alloc | apply Kd.S_drewN | apply Kd.S_drew)); exact HO_3.out))) (Kd.S_lt (by (with_reducible repeat (first | apply Kd.S_alloc | apply Kd.S_drewN | apply Kd.S_drew)); exact HO_19.out))) (Kd.R_lt (by (with_reducible repeat (first | apply Kd.R_alloc | apply Kd.R_drewN | apply Kd.R_drew)); exact HL272_0.out))) (below_size (by repeat (first | (with_reducible first | exact HB.out | apply below_alloc | apply pw_below_drewN | apply below_drew1) | exact HB.out)))); have n4_ := Aside0.mk (Kd.C_below (by repeat (first | (with_reducible exact HR272_0.out) | (with_reducible refine Kd.C_alloc ?_ _) | (with_reducible refine Kd.C_drewN ?_ _) | (with_reducible refine Kd.C_drew ?_) | exact HR272_0.out)) hb); have n5_ := Aside0.mk (below_step (by repeat (first | (with_reducible first | exact HB.out | apply below_alloc | apply pw_below_drewN | apply below_drew1) | exact HB.out)) hb); clear HO_3; clear HO_19; clear HL272_0; clear HR272_0; clear HB; have HO_3 := n0_; have HO_19 := n1_; have HL272_0 := n2_; have HO275 := n3_; have HR272_0 := n4_; have HB := n5_; clear n0_ n1_ n2_ n3_ n4_ n5_; (try clear hb); (try clear hb2); (try clear hk); (try clear hi); (try clear ho0); obtain ⟨Ao19, co19, eo19⟩ := Kd.S_slice HO275.out; subst eo19))
                    go_loopg [3, 31] k2 (fun kq v3 v31 w' => ∃ (x3_3 : List (List Int)) (x31_3 : Int), v31 = .int .i64 x31_3 ∧ Aside0 (impl_systems.l2 kq a0 x3_3 x15_1 (rd_L1 t269 x21_2) a0 x15_1 t269 (t269.length : Int) x21_2 t273 (t273.length : Int) x31_3 = some r) ∧ Aside0 (kq ≤ k2) ∧ Aside0 (Kd.S (Kd.slice 3 (Kd.int .i64)) 30 w' w.heap.size (fun k_ => some k_ ≠ ((.slice (some ad272) t269.length co13) : Value).ownBlock ∧ some k_ ≠ ((.slice Ao19 t273.length co19) : Value).ownBlock) v3 x3_3) ∧ Aside0 (Kd.S (Kd.slice 3 (Kd.int .i64)) 30 w' w.heap.size (fun k_ => some k_ ≠ (v3 : Value).ownBlock ∧ some k_ ≠ ((.slice Ao19 t273.length co19) : Value).ownBlock) (.slice (some ad272) t269.length co13) t269) ∧ Aside0 (Kd.S (Kd.slice 3 (Kd.int .i64)) 30 w' w.heap.size (fun k_ => some k_ ≠ (v3 : Value).ownBlock ∧ some k_ ≠ ((.slice (some ad272) t269.length co13) : Value).ownBlock) (.slice Ao19 t273.length co19) t273) ∧ Aside0 (Kd.R (Kd.int .i64) 3 w' w.heap.size (fun k_ => some k_ ≠ (v3 : Value).ownBlock ∧ some k_ ≠ ((.slice (some ad272) t269.length co13) : Value).ownBlock) (.slice A272_0 (rd_L1 t269 x21_2).length c272_0) (rd_L1 t269 x21_2)) ∧ Aside0 (Below w.heap.size w w'))
                    case atStart => exact ⟨(x3_2), (0), (by first | rfl | (simp; done) | (simp [*]; done)), H', ⟨Nat.le_refl _⟩, ⟨by (with_reducible repeat (first | apply Kd.S_alloc | apply Kd.S_drewN | apply Kd.S_drew)); exact HO_3.out⟩, ⟨by (with_reducible repeat (first | apply Kd.S_alloc | apply Kd.S_drewN | apply Kd.S_drew)); exact HO_19.out⟩, ⟨by (with_reducible repeat (first | apply Kd.S_alloc | apply Kd.S_drewN | apply Kd.S_drew)); exact Kd.S_mono HO275.out (fun _ hk => ⟨hk.1.1.2, hk.1.2⟩)⟩, ⟨by (with_reducible repeat (first | apply Kd.R_alloc | apply Kd.R_drewN | apply Kd.R_drew)); exact HL272_0.out⟩, ⟨by repeat (first | (with_reducible first | exact HB.out | apply below_alloc | apply pw_below_drewN | apply below_drew1) | exact HB.out)⟩⟩
                    case round =>
                      clear H'
                      try clear c1
                      try clear c2
                      try clear c2b0
                      try clear c2b1
                      try clear p2
                      try clear q2
                      try clear hx2
                      try clear p6
                      try clear c7
                      try clear c10
                      try clear c10b0
                      try clear c14
                      try clear c14b0
                      try clear c15
                      try clear c15b0
                      try clear c16
                      try clear c16b0
                      try clear hx272_0
                      try clear p2
                      try clear p272
                      try clear q272
                      obtain ⟨x3_3, x31_3, rfl, HA, HK3, HO_3, HO_19, HO_29, HL272_0, HB⟩ := hrel
                      have HR272_0 := Aside0.mk (Kd.R_reads' HL272_0.out).2.2
                      cases gk with
                      | zero => exact absurd HA.out (by simp [impl_systems.l2])
                      | succ k3 =>
                        have H := HA.out
                        clear HA
                        simp only [impl_systems.l2] at H
                        by_cases c20 : x31_3 < (t273.length : Int)
                        · rw [if_pos c20] at H
                          have c20b0 : decide (x31_3 < (t273.length : Int)) = true := decide_eq_true c20
                          clear c20
                          by_cases c21 : 0 ≤ x31_3
                          · rw [if_pos c21] at H
                            have c21b0 : decide (0 ≤ x31_3) = true := decide_eq_true c21
                            clear c21
                            by_cases c22 : x31_3 < (t273.length : Int)
                            · rw [if_pos c22] at H
                              have c22b0 : decide (x31_3 < (t273.length : Int)) = true := decide_eq_true c22
                              clear c22
                              replace H := Option.bind_eq_some_iff.mp H
                              obtain ⟨t277, A230, H⟩ := H
                              replace H : ((impl_joined.f k3 t277 (rd_L1 t273 x31_3)).bind fun t280 => (if x3_3.length < 5864062014805 then (impl_systems.l2 k3 a0 (x3_3 ++ [t280]) x15_1 (rd_L1 t269 x21_2) a0 x15_1 t269 (t269.length : Int) x21_2 t273 (t273.length : Int) (wrap64 (x31_3 + 1))) else (none))) = some r := H
                              have A23 := Aside0.mk A230
                              clear A230
                              replace H := Option.bind_eq_some_iff.mp H
                              obtain ⟨t280, A240, H⟩ := H
                              replace H : (if x3_3.length < 5864062014805 then (impl_systems.l2 k3 a0 (x3_3 ++ [t280]) x15_1 (rd_L1 t269 x21_2) a0 x15_1 t269 (t269.length : Int) x21_2 t273 (t273.length : Int) (wrap64 (x31_3 + 1))) else (none)) = some r := H
                              have A24 := Aside0.mk A240
                              clear A240
                              by_cases c25 : x3_3.length < 5864062014805
                              · rw [if_pos c25] at H
                                have LMc25 := Aside0.mk c25
                                clear c25
                                obtain ⟨y283, hy283⟩ : ∃ y_ : List (List Int), y_ = (x3_3 ++ [t280]) := ⟨_, rfl⟩
                                replace H : (impl_systems.l2 k3 a0 y283 x15_1 (rd_L1 t269 x21_2) a0 x15_1 t269 (t269.length : Int) x21_2 t273 (t273.length : Int) (wrap64 (x31_3 + 1))) = some r := by first | (rw [hy283]; with_reducible exact H) | (have H2_ := (Option.bind_some _ _).symm.trans H; rw [hy283]; with_reducible exact H2_) | (have H2_ := (Option.bind_some _ _).symm.trans H; with_reducible exact H2_) | with_reducible exact H | (rw [hy283]; exact H) | exact H
                                have Ny283 := Aside0.mk hy283
                                clear hy283
                                have H' := Aside0.mk H
                                clear H
                                have p276 : 0 ≤ (x31_3 : Int) := of_decide_eq_true (by first | (with_reducible assumption) | assumption)
                                have q276 : x31_3 < (t273.length : Int) := of_decide_eq_true (by first | (with_reducible assumption) | assumption)
                                obtain ⟨ad276, A276_0, c276_0, e276, hx276_0, hl276_0, hi276_0⟩ := at_L1 (Kd.S_reads' HO_29.out).2.2 x31_3 p276 q276
                                cases e276
                                obtain ⟨ce276, hce276, hMe276, hcc276⟩ := Kd.S_get HO_29.out [] x31_3 p276 (by first | exact q276 | exact of_decide_eq_true (by first | (with_reducible assumption) | assumption) | (have e_ := (Kd.S_reads' HO_29.out).1; omega))
                                obtain ⟨ve276_0, rfl, ge276_0⟩ := hMe276
                                have hv276_0 := hcc276 0 _ rfl
                                rw [Nat.add_zero, show ((Kd.slice 3 (Kd.int .i64))).sz = 1 from rfl, Nat.mul_one] at hv276_0
                                replace hv276_0 := Option.some.inj (hv276_0.symm.trans hx276_0)
                                rw [hv276_0] at ge276_0
                                have HL276_0 := Aside0.mk (show Kd.R (Kd.int .i64) 3 _ _ _ _ (rd_L1 t273 x31_3) from ge276_0)
                                clear hv276_0 ge276_0
                                clear hcc276 hce276
                                have HR276_0 := Aside0.mk hi276_0
                                have HC276_0 := Aside0.mk hl276_0
                                clear hi276_0 hl276_0
                                replace p276 := eq_true p276
                                replace q276 := eq_true q276
                                go_wp2_with (first | ((with_reducible refine gate_callee (f := 103) rfl ?_); refine goesL_ (some 37) rfl rfl Try.func103 (by kernel_rfl) rfl #[.slice A272_0 (rd_L1 t269 x21_2).length c272_0] rfl (by (try simp only [List.map_toArray, List.map_cons, List.map_nil]); first | done | rfl | (simp only [List.length_drop, List.length_take]; rfl)) ?_; (with_reducible refine (impl_covered.calls k3 _ _ (rd_L1 t269 x21_2) t277 _ ?side1 ?side2 A23.out).mono ?_); (case side1 => repeat (first | exact (by repeat (first | (with_reducible exact HR272_0.out) | (with_reducible refine Kd.C_alloc ?_ _) | (with_reducible refine Kd.C_drewN ?_ _) | (with_reducible refine Kd.C_drew ?_) | exact HR272_0.out)) | (with_reducible refine Kd.C_alloc ?_ _) | (with_reducible refine Kd.C_drewN ?_ _) | (with_reducible refine Kd.C_drew ?_))); (case side2 => exact HC272_0.out); rintro e w26 ⟨v278, rfl, ho0, hb⟩; refine ⟨_, rfl, ?_⟩; have n0_ := Aside0.mk (Kd.S_elder' (by (with_reducible repeat (first | apply Kd.S_alloc | apply Kd.S_drewN | apply Kd.S_drew)); exact HO_3.out) (Kd.R_base ho0) hb); have n1_ := Aside0.mk (Kd.S_elder' (by (with_reducible repeat (first | apply Kd.S_alloc | apply Kd.S_drewN | apply Kd.S_drew)); exact HO_19.out) (Kd.R_base ho0) hb); have n2_ := Aside0.mk (Kd.S_elder' (by (with_reducible repeat (first | apply Kd.S_alloc | apply Kd.S_drewN | apply Kd.S_drew)); exact HO_29.out) (Kd.R_base ho0) hb); have n3_ := Aside0.mk (Kd.R_elder' (by (with_reducible repeat (first | apply Kd.R_alloc | apply Kd.R_drewN | apply Kd.R_drew)); exact HL272_0.out) (Kd.R_base ho0) hb); have n4_ := Aside0.mk (Kd.R_elder' (by (with_reducible repeat (first | apply Kd.R_alloc | apply Kd.R_drewN | apply Kd.R_drew)); exact HL276_0.out) (Kd.R_base ho0) hb); have n5_ := Aside0.mk (Kd.R_lower (Kd.R_new' (Kd.R_new' ho0 (Kd.R_lt (by (with_reducible repeat (first | apply Kd.R_alloc | apply Kd.R_drewN | apply Kd.R_drew)); exact HL272_0.out))) (Kd.R_lt (by (with_reducible repeat (first | apply Kd.R_alloc | apply Kd.R_drewN | apply Kd.R_drew)); exact HL276_0.out))) (below_size (by repeat (first | (with_reducible first | exact HB.out | apply below_alloc | apply pw_below_drewN | apply below_drew1) | exact HB.out)))); have n6_ := Aside0.mk (Kd.C_below (by repeat (first | (with_reducible exact HR272_0.out) | (with_reducible refine Kd.C_alloc ?_ _) | (with_reducible refine Kd.C_drewN ?_ _) | (with_reducible refine Kd.C_drew ?_) | exact HR272_0.out)) hb); have n7_ := Aside0.mk (Kd.C_below (by repeat (first | (with_reducible exact HR276_0.out) | (with_reducible refine Kd.C_alloc ?_ _) | (with_reducible refine Kd.C_drewN ?_ _) | (with_reducible refine Kd.C_drew ?_) | exact HR276_0.out)) hb); have n8_ := Aside0.mk (below_step (by repeat (first | (with_reducible first | exact HB.out | apply below_alloc | apply pw_below_drewN | apply below_drew1) | exact HB.out)) hb); clear HO_3; clear HO_19; clear HO_29; clear HL272_0; clear HL276_0; clear HR272_0; clear HR276_0; clear HB; have HO_3 := n0_; have HO_19 := n1_; have HO_29 := n2_; have HL272_0 := n3_; have HL276_0 := n4_; have HO279 := n5_; have HR272_0 := n6_; have HR276_0 := n7_; have HB := n8_; clear n0_ n1_ n2_ n3_ n4_ n5_ n6_ n7_ n8_; (try clear hb); (try clear hb2); (try clear hk); (try clear hi); (try clear ho0); obtain ⟨Ao27, co27, eo27⟩ := Kd.R_slice HO279.out; subst eo27) | ((with_reducible refine gate_callee (f := 102) rfl ?_); refine goesL_ (some 39) rfl rfl Try.func102 (by kernel_rfl) rfl #[.slice Ao27 t277.length co27, .slice A276_0 (rd_L1 t273 x31_3).length c276_0] rfl (by (try simp only [List.map_toArray, List.map_cons, List.map_nil]); first | done | rfl | (simp only [List.length_drop, List.length_take]; rfl)) ?_; (with_reducible refine (impl_joined.calls k3 _ _ t277 _ _ (rd_L1 t273 x31_3) t280 _ ?side1 ?side2 ?side3 ?side4 A24.out).mono ?_); (case side1 => repeat (first | exact (Kd.R_reads' HO279.out).2.2 | (with_reducible refine Kd.C_alloc ?_ _) | (with_reducible refine Kd.C_drewN ?_ _) | (with_reducible refine Kd.C_drew ?_))); (case side2 => exact (Kd.R_reads' HO279.out).2.1); (case side3 => repeat (first | exact (by repeat (first | (with_reducible exact HR276_0.out) | (with_reducible refine Kd.C_alloc ?_ _) | (with_reducible refine Kd.C_drewN ?_ _) | (with_reducible refine Kd.C_drew ?_) | exact HR276_0.out)) | (with_reducible refine Kd.C_alloc ?_ _) | (with_reducible refine Kd.C_drewN ?_ _) | (with_reducible refine Kd.C_drew ?_))); (case side4 => exact HC276_0.out); rintro e w28 ⟨v281, rfl, ho0, hb⟩; refine ⟨_, rfl, ?_⟩; have n0_ := Aside0.mk (Kd.S_elder' (by (with_reducible repeat (first | apply Kd.S_alloc | apply Kd.S_drewN | apply Kd.S_drew)); exact HO_3.out) (Kd.R_base ho0) hb); have n1_ := Aside0.mk (Kd.S_elder' (by (with_reducible repeat (first | apply Kd.S_alloc | apply Kd.S_drewN | apply Kd.S_drew)); exact HO_19.out) (Kd.R_base ho0) hb); have n2_ := Aside0.mk (Kd.S_elder' (by (with_reducible repeat (first | apply Kd.S_alloc | apply Kd.S_drewN | apply Kd.S_drew)); exact HO_29.out) (Kd.R_base ho0) hb); have n3_ := Aside0.mk (Kd.R_elder' (by (with_reducible repeat (first | apply Kd.R_alloc | apply Kd.R_drewN | apply Kd.R_drew)); exact HL272_0.out) (Kd.R_base ho0) hb); have n4_ := Aside0.mk (Kd.R_elder' (by (with_reducible repeat (first | apply Kd.R_alloc | apply Kd.R_drewN | apply Kd.R_drew)); exact HL276_0.out) (Kd.R_base ho0) hb); have n5_ := Aside0.mk (Kd.R_elder' (by (with_reducible repeat (first | apply Kd.R_alloc | apply Kd.R_drewN | apply Kd.R_drew)); exact HO279.out) (Kd.R_base ho0) hb); have n6_ := Aside0.mk (Kd.R_lower (Kd.R_new' (Kd.R_new' (Kd.R_new' ho0 (Kd.R_lt (by (with_reducible repeat (first | apply Kd.R_alloc | apply Kd.R_drewN | apply Kd.R_drew)); exact HL272_0.out))) (Kd.R_lt (by (with_reducible repeat (first | apply Kd.R_alloc | apply Kd.R_drewN | apply Kd.R_drew)); exact HL276_0.out))) (Kd.R_lt (by (with_reducible repeat (first | apply Kd.R_alloc | apply Kd.R_drewN | apply Kd.R_drew)); exact HO279.out))) (below_size (by repeat (first | (with_reducible first | exact HB.out | apply below_alloc | apply pw_below_drewN | apply below_drew1) | exact HB.out)))); have n7_ := Aside0.mk (Kd.C_below (by repeat (first | (with_reducible exact HR272_0.out) | (with_reducible refine Kd.C_alloc ?_ _) | (with_reducible refine Kd.C_drewN ?_ _) | (with_reducible refine Kd.C_drew ?_) | exact HR272_0.out)) hb); have n8_ := Aside0.mk (Kd.C_below (by repeat (first | (with_reducible exact HR276_0.out) | (with_reducible refine Kd.C_alloc ?_ _) | (with_reducible refine Kd.C_drewN ?_ _) | (with_reducible refine Kd.C_drew ?_) | exact HR276_0.out)) hb); have n9_ := Aside0.mk (below_step (by repeat (first | (with_reducible first | exact HB.out | apply below_alloc | apply pw_below_drewN | apply below_drew1) | exact HB.out)) hb); clear HO_3; clear HO_19; clear HO_29; clear HL272_0; clear HL276_0; clear HO279; clear HR272_0; clear HR276_0; clear HB; have HO_3 := n0_; have HO_19 := n1_; have HO_29 := n2_; have HL272_0 := n3_; have HL276_0 := n4_; have HO279 := n5_; have HO282 := n6_; have HR272_0 := n7_; have HR276_0 := n8_; have HB := n9_; clear n0_ n1_ n2_ n3_ n4_ n5_ n6_ n7_ n8_ n9_; (try clear hb); (try clear hb2); (try clear hk); (try clear hi); (try clear ho0); obtain ⟨Ao30, co30, eo30⟩ := Kd.R_slice HO282.out; subst eo30) | ((with_reducible refine gate_builtin (b := .append) (xs := #[.tmp 35, .tmp 40]) rfl ?_); at_builtin; refine Kd.S_append (Kd.slice 3 (Kd.int .i64)) (w0 := w) w.heap.size rfl (.tmp 35) (.tmp 40) 76 30 (.slice none 0 0) 24 rfl Try.underlying76 info30 rfl (by decide) (by omega) u3 x3_3 t280 [.slice Ao30 t280.length co30] (fun k_ => some k_ ≠ (.slice (some ad272) t269.length co13 : Value).ownBlock ∧ some k_ ≠ (.slice (some ad276) t273.length co19 : Value).ownBlock ∧ some k_ ≠ (.slice Ao27 t277.length co27 : Value).ownBlock) (fun k_ => some k_ = (.slice Ao30 t280.length co30 : Value).ownBlock) rfl rfl ?aP (fun k_ hk_ => ((Kd.R_mono (ok' := fun k_ => ((fun k_ => some k_ ≠ (.slice (some ad272) t269.length co13 : Value).ownBlock ∧ some k_ ≠ (.slice (some ad276) t273.length co19 : Value).ownBlock ∧ some k_ ≠ (.slice Ao27 t277.length co27 : Value).ownBlock)) k_ ∧ some k_ ≠ (u3 : Value).ownBlock) (Kd.R_apart' (Kd.R_apart' (Kd.R_apart' (HO282.out) (Kd.S_typed HO_19.out) (by decide)) (Kd.S_typed HO_29.out) (by decide)) (Kd.S_typed HO_3.out) (by decide)) (fun k_ hk => ⟨⟨hk.1.1.2, ⟨hk.1.2, hk.1.1.1.2⟩⟩, hk.2⟩))).1 k_ hk_.symm) ?aF ?aO ?aB ?aS ?aL ?_; (case aP => exact Kd.M_row (Kd.R_mono (Kd.R_tight rfl (Kd.R_mono (ok' := fun k_ => ((fun k_ => some k_ ≠ (.slice (some ad272) t269.length co13 : Value).ownBlock ∧ some k_ ≠ (.slice (some ad276) t273.length co19 : Value).ownBlock ∧ some k_ ≠ (.slice Ao27 t277.length co27 : Value).ownBlock)) k_ ∧ some k_ ≠ (u3 : Value).ownBlock) (Kd.R_apart' (Kd.R_apart' (Kd.R_apart' (HO282.out) (Kd.S_typed HO_19.out) (by decide)) (Kd.S_typed HO_29.out) (by decide)) (Kd.S_typed HO_3.out) (by decide)) (fun k_ hk => ⟨⟨hk.1.1.2, ⟨hk.1.2, hk.1.1.1.2⟩⟩, hk.2⟩))) (fun _ h_ => h_))); (case aB => exact (by repeat (first | (with_reducible first | exact HB.out | apply below_alloc | apply pw_below_drewN | apply below_drew1) | exact HB.out))); (case aF => exact (fun k_ hk => ⟨Kd.fresh' (Kd.S_lt (by (with_reducible repeat (first | apply Kd.S_alloc | apply Kd.S_drewN | apply Kd.S_drew)); exact HO_19.out)) k_ hk, Kd.fresh' (Kd.S_lt (by (with_reducible repeat (first | apply Kd.S_alloc | apply Kd.S_drewN | apply Kd.S_drew)); exact HO_29.out)) k_ hk, Kd.fresh' (Kd.R_lt (by (with_reducible repeat (first | apply Kd.R_alloc | apply Kd.R_drewN | apply Kd.R_drew)); exact HO279.out)) k_ hk⟩)); (case aO => exact (by (with_reducible repeat (first | apply Kd.S_alloc | apply Kd.S_drewN | apply Kd.S_drew)); exact Kd.S_mono HO_3.out (fun k_ hk => ⟨⟨hk.1.1.1, ⟨hk.1.1.2, hk.1.2⟩⟩, fun e_ => hk.2 e_⟩))); (case aS => exact (below_size (by repeat (first | (with_reducible first | exact HB.out | apply below_alloc | apply pw_below_drewN | apply below_drew1) | exact HB.out)))); (case aL => have := LMc25.out; omega); intro v284 w29 ho hb hg hat; rw [← Ny283.out] at ho; have n0_ := Aside0.mk (Kd.S_after (ok := (fun k_ => some k_ ≠ (.slice (some ad276) t273.length co19 : Value).ownBlock ∧ some k_ ≠ (.slice Ao27 t277.length co27 : Value).ownBlock ∧ some k_ ≠ (.slice Ao30 t280.length co30 : Value).ownBlock)) (by (with_reducible repeat (first | apply Kd.S_alloc | apply Kd.S_drewN | apply Kd.S_drew)); exact Kd.S_mono HO_19.out (fun _ hk => ⟨⟨hk.1.1.2, ⟨hk.1.2, hk.2⟩⟩, hk.1.1.1⟩)) hg hat); have n1_ := Aside0.mk (Kd.S_after (ok := (fun k_ => some k_ ≠ (.slice (some ad272) t269.length co13 : Value).ownBlock ∧ some k_ ≠ (.slice Ao27 t277.length co27 : Value).ownBlock ∧ some k_ ≠ (.slice Ao30 t280.length co30 : Value).ownBlock)) (by (with_reducible repeat (first | apply Kd.S_alloc | apply Kd.S_drewN | apply Kd.S_drew)); exact Kd.S_mono HO_29.out (fun _ hk => ⟨⟨hk.1.1.2, ⟨hk.1.2, hk.2⟩⟩, hk.1.1.1⟩)) hg hat); have n2_ := Aside0.mk (Kd.R_after (ok := (fun k_ => some k_ ≠ (.slice (some ad272) t269.length co13 : Value).ownBlock ∧ some k_ ≠ (.slice Ao27 t277.length co27 : Value).ownBlock ∧ some k_ ≠ (.slice Ao30 t280.length co30 : Value).ownBlock)) (by (with_reducible repeat (first | apply Kd.R_alloc | apply Kd.R_drewN | apply Kd.R_drew)); exact Kd.R_mono HL272_0.out (fun _ hk => ⟨⟨hk.1.1.2, ⟨hk.1.2, hk.2⟩⟩, hk.1.1.1⟩)) hg hat); have n3_ := Aside0.mk (Kd.R_after (ok := (fun k_ => some k_ ≠ (.slice (some ad272) t269.length co13 : Value).ownBlock ∧ some k_ ≠ (.slice (some ad276) t273.length co19 : Value).ownBlock ∧ some k_ ≠ (.slice Ao27 t277.length co27 : Value).ownBlock ∧ some k_ ≠ (.slice Ao30 t280.length co30 : Value).ownBlock)) (by (with_reducible repeat (first | apply Kd.R_alloc | apply Kd.R_drewN | apply Kd.R_drew)); exact Kd.R_mono HL276_0.out (fun _ hk => ⟨⟨hk.1.1.1.2, ⟨hk.1.1.2, ⟨hk.1.2, hk.2⟩⟩⟩, hk.1.1.1.1⟩)) hg hat); have n4_ := Aside0.mk (Kd.R_over' (by (with_reducible repeat (first | apply Kd.R_alloc | apply Kd.R_drewN | apply Kd.R_drew)); exact HO279.out) (Kd.S_typed (by (with_reducible repeat (first | apply Kd.S_alloc | apply Kd.S_drewN | apply Kd.S_drew)); exact HO_3.out)) (by decide) hg); have n5_ := Aside0.mk (hb); have n6_ := Aside0.mk (ho); clear HO_19; clear HO_29; clear HL272_0; clear HL276_0; clear HO279; clear HB; clear HO_3; clear HO282; have HO_19 := n0_; have HO_29 := n1_; have HL272_0 := n2_; have HL276_0 := n3_; have HO279 := n4_; have HB := n5_; have HO285 := n6_; clear n0_ n1_ n2_ n3_ n4_ n5_ n6_; clear ho hb hg hat))
                                go_roundg k3
                                case measure => have := HK1.out; have := HK2.out; have := HK3.out; omega
                                case rel => exact ⟨(y283), (wrap64 (x31_3 + 1)), (by first | rfl | (simp; done) | (simp [*]; done)), H', ⟨by have := HK1.out; have := HK2.out; have := HK3.out; omega⟩, ⟨by (with_reducible repeat (first | apply Kd.S_alloc | apply Kd.S_drewN | apply Kd.S_drew)); exact Kd.S_mono HO285.out (fun _ hk => ⟨hk.1, hk.2.1⟩)⟩, ⟨by (with_reducible repeat (first | apply Kd.S_alloc | apply Kd.S_drewN | apply Kd.S_drew)); exact Kd.S_mono HO_19.out (fun _ hk => ⟨hk.2, hk.1.1⟩)⟩, ⟨by (with_reducible repeat (first | apply Kd.S_alloc | apply Kd.S_drewN | apply Kd.S_drew)); exact Kd.S_mono HO_29.out (fun _ hk => ⟨hk.2, hk.1.1⟩)⟩, ⟨by (with_reducible repeat (first | apply Kd.R_alloc | apply Kd.R_drewN | apply Kd.R_drew)); exact Kd.R_mono HL272_0.out (fun _ hk => ⟨hk.2, hk.1.1⟩)⟩, ⟨by repeat (first | (with_reducible first | exact HB.out | apply below_alloc | apply pw_below_drewN | apply below_drew1) | exact HB.out)⟩⟩
                              · rw [if_neg c25] at H
                                exact absurd H (by simp)
                            · rw [if_neg c22] at H
                              exact absurd H (by simp)
                          · rw [if_neg c21] at H
                            exact absurd H (by simp)
                        · rw [if_neg c20] at H
                          have c20b0 : decide (x31_3 < (t273.length : Int)) = false := decide_eq_false c20
                          clear c20
                          have H' := Aside0.mk H
                          clear H
                          go_wp2
                          go_roundg k3
                          case measure => have := HK1.out; have := HK2.out; have := HK3.out; omega
                          case rel => exact ⟨(x3_3), (wrap64 (x21_2 + 1)), (by first | rfl | (simp; done) | (simp [*]; done)), H', ⟨by have := HK1.out; have := HK2.out; have := HK3.out; omega⟩, ⟨by (with_reducible repeat (first | apply Kd.S_alloc | apply Kd.S_drewN | apply Kd.S_drew)); exact Kd.S_mono HO_3.out (fun _ hk => hk.1)⟩, ⟨by (with_reducible repeat (first | apply Kd.S_alloc | apply Kd.S_drewN | apply Kd.S_drew)); exact Kd.S_mono HO_19.out (fun _ hk => hk.1)⟩, ⟨by repeat (first | (with_reducible first | exact HB.out | apply below_alloc | apply pw_below_drewN | apply below_drew1) | exact HB.out)⟩⟩
                  · rw [if_neg c16] at H
                    exact absurd H (by simp)
                · rw [if_neg c15] at H
                  exact absurd H (by simp)
              · rw [if_neg c14] at H
                have c14b0 : decide (x21_2 < (t269.length : Int)) = false := decide_eq_false c14
                clear c14
                have H' := Aside0.mk H
                clear H
                go_wp2
                go_roundg k2
                case measure => have := HK1.out; have := HK2.out; omega
                case rel => exact ⟨(x3_2), (wrap64 (x15_1 + 1)), (by first | rfl | (simp; done) | (simp [*]; done)), H', ⟨by have := HK1.out; have := HK2.out; omega⟩, ⟨by (with_reducible repeat (first | apply Kd.S_alloc | apply Kd.S_drewN | apply Kd.S_drew)); exact Kd.S_mono HO_3.out (fun _ hk => trivial)⟩, ⟨by repeat (first | (with_reducible first | exact HB.out | apply below_alloc | apply pw_below_drewN | apply below_drew1) | exact HB.out)⟩⟩
        · rw [if_neg c10] at H
          have c10b0 : decide (x15_1 < a0) = false := decide_eq_false c10
          clear c10
          by_cases c31 : x3_1.length < 4611686018427387904
          · rw [if_pos c31] at H
            have LMc31 := Aside0.mk c31
            clear c31
            obtain ⟨y266, hy266⟩ : ∃ y_ : List (List Int), y_ = (slices_SortFunc_int_int.g x3_1) := ⟨_, rfl⟩
            replace H : (some y266) = some r := by first | (rw [hy266]; with_reducible exact H) | (have H2_ := (Option.bind_some _ _).symm.trans H; rw [hy266]; with_reducible exact H2_) | (have H2_ := (Option.bind_some _ _).symm.trans H; with_reducible exact H2_) | with_reducible exact H | (rw [hy266]; exact H) | exact H
            have Ny266 := Aside0.mk hy266
            clear hy266
            obtain rfl := Option.some.inj H
            go_wp2_with (first | ((with_reducible refine gate_callee (f := 104) rfl ?_); refine goesL_ (some 46) rfl rfl Try.func104 (by kernel_rfl) rfl #[u3, .func (.func 105) #[] #[]] rfl (by (try simp only [List.map_toArray, List.map_cons, List.map_nil]); first | done | rfl) ?_; refine (slices_SortFunc_int_int.ev (w0 := w) w.heap.size _ u3 x3_1 (by have := LMc31.out; omega) (by (with_reducible repeat (first | apply Kd.S_alloc | apply Kd.S_drewN | apply Kd.S_drew)); exact HO_3.out) (by repeat (first | (with_reducible first | exact HB.out | apply below_alloc | apply pw_below_drewN | apply below_drew1) | exact HB.out)) (below_size (by repeat (first | (with_reducible first | exact HB.out | apply below_alloc | apply pw_below_drewN | apply below_drew1) | exact HB.out)))).mono ?_; rintro e_ w32 ⟨rfl, ho, hb, hg⟩; refine ⟨_, rfl, ?_⟩; rw [← Ny266.out] at ho; skip; have n0_ := Aside0.mk (ho); have n1_ := Aside0.mk (hb); clear HO_3; clear HB; have HO_3 := n0_; have HB := n1_; clear n0_ n1_; clear ho hb hg))
            go_ret
            exact ⟨_, by first | rfl | (simp [errW_none, errW_some] <;> rfl) | (simp [*, errW_none, errW_some] <;> rfl), by (with_reducible repeat (first | apply Kd.S_alloc | apply Kd.S_drewN | apply Kd.S_drew)); exact HO_3.out, by repeat (first | (with_reducible first | exact HB.out | apply below_alloc | apply pw_below_drewN | apply below_drew1) | exact HB.out)⟩
          · rw [if_neg c31] at H
            exact absurd H (by simp)

end Go.Proofs.Ytnnkjjacpbbigaa.PB
