/- MassSizes: the sets that a small table has rise, are of the sizes that have a weight above 0, and are all of these, in order; for every table and every k; no condition beyond the statement's own. -/
import Derived.Shelf.Abstract
import Derived.Shelf.RegionOpen
import Derived.TacticsInMore
import Derived.LoopNIn
import Derived.LoopIn
import Derived.Laws.MakeOwn
import Derived.Maps.OwnSet
import Derived.Maps.OwnIn
import Derived.Maps.RangeWalk
import Derived.Lib.SlKeysI
import Derived.Shelf.SlIterI.Sorted
import Derived.Shelf.SlIterI.Stops
import Derived.Shelf.SortM.Plain
import Derived.Shelf.SortM.SortNone
import Derived.Test.YtjeepapdaciieaaGreatProg
import Derived.Deep.RegionLaw
import Derived.Deep.RegionHeldLaw
import Derived.IntWalk
import Derived.Test.YtjeepapdaciieaaGreatRows
import Derived.Test.YtjeepapdaciieaaGreatXFactsMassSizes
import Derived.WalkKit
import Derived.ProofKit
import Derived.OpenShut
import Derived.ShutString
import Derived.ChangeOld
import Derived.Below
import Derived.SizedLaws
import Derived.Test.YtjeepapdaciieaaGreatMMassSizes0
import Derived.Test.YtjeepapdaciieaaGreatMMassSizes1
import Derived.Test.YtjeepapdaciieaaGreatMMassSizes2
import Derived.Test.YtjeepapdaciieaaGreatMMassSizes3
import Derived.Test.YtjeepapdaciieaaGreatMMassSizes4
namespace Go.Proofs.YtjeepapdaciieaaGreat.X
open Go.RowKit Go.Proofs.YtjeepapdaciieaaGreatW.PrintWords Go.Proofs.YtjeepapdaciieaaGreatW.PrintLast Go.Proofs.YtjeepapdaciieaaGreatW.PrintMore
attribute [local go_sem] max2_int min2_int max_two min_two max_three min_three max_four min_four
set_option linter.unusedVariables false
set_option linter.unusedSimpArgs false
section
open Go.Shelf
attribute [local go_sem] Oper.semAt_some
def mass_sum.step (k : Nat) (want : List (List Int) → Option Bool) (l : List S150) (s : S44) (x : List Int) : Option S44 :=
  (want (x.map fun i => (rd_T150 l i).f0)).bind fun b => if b = true then (ratio_Mul.f k (x.map fun i => (rd_T150 l i).f1)).bind fun m => (ratio_Add.f k [s, ⟨⟨m.1, m.2.1⟩, m.2.2.1⟩]).bind fun t => some ⟨⟨t.1, t.2.1⟩, t.2.2.1⟩ else some s
def mass_sum.go (k : Nat) (want : List (List Int) → Option Bool) (l : List S150) : S44 → List (List Int) → Option S44
  | s, [] => some s
  | s, x :: r => (mass_sum.step k want l s x).bind fun t => mass_sum.go k want l t r
def mass_sum.f (k : Nat) (want : List (List Int) → Option Bool) (l : List S150) (n : Int) : Option (S44 × Int) :=
  if l.length ≤ 4096 then (mass_few.f k (l.length : Int) n).bind fun b => if b = true then (if 1 ≤ l.length ∧ 0 ≤ n ∧ n ≤ 4096 then (ratio_Pair.f k 0 1).bind fun t => (mass_sum.go k want l ⟨⟨t.1, t.2.1⟩, t.2.2.1⟩ (Tup.all l.length n.toNat)).bind fun r => some (r, 0) else none) else some (z44, 4) else some (z44, 4)
theorem mass_sum.go_append (k : Nat) (want : List (List Int) → Option Bool) (l : List S150) : ∀ (a b : List (List Int)) (s : S44), mass_sum.go k want l s (a ++ b) = (mass_sum.go k want l s a).bind fun t => mass_sum.go k want l t b
  | [], _, _ => rfl
  | x :: a, b, s => by
    rw [List.cons_append, mass_sum.go, mass_sum.go]
    cases h : mass_sum.step k want l s x with
    | none => rfl
    | some t => exact mass_sum.go_append k want l a b t
set_option maxRecDepth 100000 in
set_option maxHeartbeats 4000000 in
theorem mass_sum.add (k : Nat) (bo : Nat) (s x t : S44) (e : Int) (A1 : Option Addr) (c1 : Nat) (A2 : Option Addr) (c2 : Nat) (B1 : Option Addr) (d1 : Nat) (B2 : Option Addr) (d2 : Nat) (w : World)
    (hbo : w.heap[bo]? = some (.cells #[.bool s.f0.f0, .slice A1 s.f0.f1.length c1, .slice A2 s.f1.length c2] 44 (0, 0)))
    (k1 : s.f0.f1.length ≤ c1) (f1 : Kd.C (Kd.int .u64) w A1 s.f0.f1.length s.f0.f1) (k2 : s.f1.length ≤ c2) (f2 : Kd.C (Kd.int .u64) w A2 s.f1.length s.f1)
    (g1 : x.f0.f1.length ≤ d1) (h1 : Kd.C (Kd.int .u64) w B1 x.f0.f1.length x.f0.f1) (g2 : x.f1.length ≤ d2) (h2 : Kd.C (Kd.int .u64) w B2 x.f1.length x.f1)
    (h : ratio_Add.f k [s, x] = some (t.f0.f0, t.f0.f1, t.f1, e)) :
    Calls Tryz.prog 133 #[.agg #[.bool x.f0.f0, .slice B1 x.f0.f1.length d1, .slice B2 x.f1.length d2], .pointer (some ⟨bo, 0, none⟩)] w fun en w' => en = .returned (.tuple #[]) ∧ w.grownBy w' (some bo) ∧
      ∃ X1 y1 X2 y2, w'.heap[bo]? = some (.cells #[.bool t.f0.f0, .slice X1 t.f0.f1.length y1, .slice X2 t.f1.length y2] 44 (0, 0)) ∧ t.f0.f1.length ≤ y1 ∧ Kd.F (Kd.int .u64) w' (fun i => w.heap.size ≤ i) X1 t.f0.f1.length t.f0.f1 ∧ t.f1.length ≤ y2 ∧ Kd.F (Kd.int .u64) w' (fun i => w.heap.size ≤ i) X2 t.f1.length t.f1 := by
  have hu44 := Tryz.underlying44
  have hu42 := Tryz.underlying42
  have hb0 : w.cell? ⟨bo, 0, none⟩ = some (.bool s.f0.f0) := by simp [World.cell?, hbo]
  have hb1 : w.cell? ⟨bo, 1, none⟩ = some (.slice A1 s.f0.f1.length c1) := by simp [World.cell?, hbo]
  have hb2 : w.cell? ⟨bo, 2, none⟩ = some (.slice A2 s.f1.length c2) := by simp [World.cell?, hbo]
  have HBO := Aside0.mk hbo
  have HS := Aside0.mk (And.intro k1 (And.intro f1 (And.intro k2 f2)))
  have HX := Aside0.mk (And.intro g1 (And.intro h1 (And.intro g2 h2)))
  have H := Aside0.mk h
  have q0 := q_old (.cells #[.bool x.f0.f0, .slice B1 x.f0.f1.length d1, .slice B2 x.f1.length d2] 44) hb0
  have q1 := q_old (.cells #[.bool x.f0.f0, .slice B1 x.f0.f1.length d1, .slice B2 x.f1.length d2] 44) hb1
  have q2 := q_old (.cells #[.bool x.f0.f0, .slice B1 x.f0.f1.length d1, .slice B2 x.f1.length d2] 44) hb2
  clear hb0 hb1 hb2 hbo k1 f1 k2 f2 g1 h1 g2 h2 h
  go_enter Tryz.func133, Tryz.ntmps133
  go_wp2_with fail
  have hb2 : Below w.heap.size w ((w.alloc (.cells #[.bool x.f0.f0, .slice B1 x.f0.f1.length d1, .slice B2 x.f1.length d2] 44)).alloc (.cells #[.bool s.f0.f0, .slice A1 s.f0.f1.length c1, .slice A2 s.f1.length c2, .bool x.f0.f0, .slice B1 x.f0.f1.length d1, .slice B2 x.f1.length d2] 44)) := below_alloc (below_alloc (Below.refl _ _) _) _
  have hC : Kd.C k44 ((w.alloc (.cells #[.bool x.f0.f0, .slice B1 x.f0.f1.length d1, .slice B2 x.f1.length d2] 44)).alloc (.cells #[.bool s.f0.f0, .slice A1 s.f0.f1.length c1, .slice A2 s.f1.length c2, .bool x.f0.f0, .slice B1 x.f0.f1.length d1, .slice B2 x.f1.length d2] 44)) (some ⟨w.heap.size + 1, 0, none⟩) [s, x].length [s, x] := by
    have hr : Reps (k44.K ((w.alloc (.cells #[.bool x.f0.f0, .slice B1 x.f0.f1.length d1, .slice B2 x.f1.length d2] 44)).alloc (.cells #[.bool s.f0.f0, .slice A1 s.f0.f1.length c1, .slice A2 s.f1.length c2, .bool x.f0.f0, .slice B1 x.f0.f1.length d1, .slice B2 x.f1.length d2] 44))) 3 [s, x] [.bool s.f0.f0, .slice A1 s.f0.f1.length c1, .slice A2 s.f1.length c2, .bool x.f0.f0, .slice B1 x.f0.f1.length d1, .slice B2 x.f1.length d2] :=
      ((Reps.none _ _).snoc (k44_mk _ s HS.out.1 (Kd.C_below HS.out.2.1 hb2) HS.out.2.2.1 (Kd.C_below HS.out.2.2.2 hb2)) rfl).snoc (k44_mk _ x HX.out.1 (Kd.C_below HX.out.2.1 hb2) HX.out.2.2.1 (Kd.C_below HX.out.2.2.2 hb2)) rfl
    obtain ⟨A, c, he, _, hrow⟩ := OwnRow.reads (OwnRow.lit (e := 44) (size := 3) (w.alloc (.cells #[.bool x.f0.f0, .slice B1 x.f0.f1.length d1, .slice B2 x.f1.length d2] 44)) 0 hr (Nat.zero_le _) (by simp))
    injection he with h1 h2 h3
    rw [World.size_alloc] at h1
    rw [h1]
    exact hrow
  have hc := ratio_Add.calls k (some ⟨w.heap.size + 1, 0, none⟩) 2 [s, x] t.f0.f0 t.f0.f1 t.f1 e _ hC (Nat.le_refl _) H.out
  simp only [List.length_cons, List.length_nil, Nat.zero_add, Nat.reduceAdd] at hc
  have HB2 := Aside0.mk hb2
  have HC := Aside0.mk hc
  clear hC hc hb2
  refine HC.out.mono ?_
  rintro en w3 ⟨v1, v2, rfl, ⟨X1, y1, rfl, k1, f1⟩, ⟨X2, y2, rfl, k2, f2⟩, hb⟩
  have hb3 : Below w.heap.size w w3 := HB2.out.trans (hb.mono HB2.out.size)
  have hbk := blk_below' HBO.out hb3
  have hlt := blk_lt' HBO.out
  have p0 := cells_at (i := 0) hbk rfl
  have p1 := cells_at (i := 1) hbk rfl
  have p2 := cells_at (i := 2) hbk rfl
  have r0 := cells_frozen hbk 0
  have r1 := cells_frozen hbk 1
  have r2 := cells_frozen hbk 2
  have HBK := Aside0.mk hbk
  have HB3 := Aside0.mk hb3
  have HV := Aside0.mk (And.intro k1 (And.intro f1 (And.intro k2 f2)))
  have HSZ := Aside0.mk (Nat.le_trans HB2.out.size hb.size)
  have HLT := Aside0.mk hlt
  have z0 := q_setne (b := bo) (i := 1) (b' := bo) (i' := 0) (v := .bool t.f0.f0) (.inr (by decide)) p1
  have z1 := q_setne (b := bo) (i := 2) (b' := bo) (i' := 1) (v := .slice X1 t.f0.f1.length y1) (.inr (by decide)) (q_setne (b := bo) (i := 2) (b' := bo) (i' := 0) (v := .bool t.f0.f0) (.inr (by decide)) p2)
  clear hbk hb3 hb k1 f1 k2 f2 hlt q0 q1 q2
  go_wp2
  go_end0
  refine ⟨rfl, ?_, X1, y1, X2, y2, ?_, HV.out.1, ?_, HV.out.2.2.1, ?_⟩
  · exact grownBy_trans (grownBy_of_below HB3.out _) (grownBy_trans (grownBy_setCell _ ⟨bo, 0, none⟩ _) (grownBy_trans (grownBy_setCell _ ⟨bo, 1, none⟩ _) (grownBy_setCell _ ⟨bo, 2, none⟩ _)))
  · exact cells_set (cells_set (cells_set HBK.out 0 _) 1 _) 2 _
  · exact Kd.F_mono (Kd.F_far (p := ⟨bo, 2, none⟩) (Kd.F_far (p := ⟨bo, 1, none⟩) (Kd.F_far (p := ⟨bo, 0, none⟩) (Kd.F_mono (ok' := fun i => w.heap.size ≤ i) HV.out.2.1 (fun i hi => by have := HB2.out.size; omega)) (fun i hi => by have := HLT.out; show i ≠ bo; omega) _) (fun i hi => by have := HLT.out; show i ≠ bo; omega) _) (fun i hi => by have := HLT.out; show i ≠ bo; omega) _) (fun _ h => h)
  · exact Kd.F_mono (Kd.F_far (p := ⟨bo, 2, none⟩) (Kd.F_far (p := ⟨bo, 1, none⟩) (Kd.F_far (p := ⟨bo, 0, none⟩) (Kd.F_mono (ok' := fun i => w.heap.size ≤ i) HV.out.2.2.2 (fun i hi => by have := HB2.out.size; omega)) (fun i hi => by have := HLT.out; show i ≠ bo; omega) _) (fun i hi => by have := HLT.out; show i ≠ bo; omega) _) (fun i hi => by have := HLT.out; show i ≠ bo; omega) _) (fun _ h => h)
def mass_sum.Out (bo : Nat) (W : World) (ok : Nat → Prop) (s : S44) : Prop := ∃ A1 c1 A2 c2, W.heap[bo]? = some (.cells #[.bool s.f0.f0, .slice A1 s.f0.f1.length c1, .slice A2 s.f1.length c2] 44 (0, 0)) ∧ s.f0.f1.length ≤ c1 ∧ Kd.F (Kd.int .u64) W ok A1 s.f0.f1.length s.f0.f1 ∧ s.f1.length ≤ c2 ∧ Kd.F (Kd.int .u64) W ok A2 s.f1.length s.f1
theorem mass_sum.Out.step {bo : Nat} {W W' : World} {ok ok' : Nat → Prop} {s : S44} (h : mass_sum.Out bo W ok s) (hb : W'.heap[bo]? = W.heap[bo]?) (hk : ∀ k, ok k → k < W.heap.size → W'.heap[k]? = W.heap[k]?) (hok : ∀ k, ok k → k < W.heap.size → ok' k) : mass_sum.Out bo W' ok' s := by
  obtain ⟨A1, c1, A2, c2, h0, h1, h2, h3, h4⟩ := h
  exact ⟨A1, c1, A2, c2, hb.trans h0, h1, Kd.F_mono (Kd.F_step (Kd.F_bound h2) (fun k hk' hl => hk k hk'.1 hl)) (fun k h => hok k h.1 h.2), h3, Kd.F_mono (Kd.F_step (Kd.F_bound h4) (fun k hk' hl => hk k hk'.1 hl)) (fun k h => hok k h.1 h.2)⟩
structure mass_sum.Has (base : Nat) (W4 : World) (bo : Nat) (k : Nat) (want : List (List Int) → Option Bool) (l : List S150) (s0 : S44) (O : Nat → Prop) (pre : List (List Int × Value)) (W : World) : Prop where
  g : W4.grownBy W (some bo)
  hO : ∀ i, O i → W4.heap.size ≤ i
  val : ∃ s, mass_sum.go k want l s0 (pre.map (·.1)) = some s ∧ mass_sum.Out bo W (fun i => base ≤ i ∧ ¬ O i ∧ i ≠ bo) s
theorem mass_sum.Has.turns {base : Nat} {W4 : World} {bo k : Nat} {want : List (List Int) → Option Bool} {l : List S150} {s0 : S44} {O O' : Nat → Prop} {pre : List (List Int × Value)} {W W' : World} (hlt : bo < W4.heap.size) (h : mass_sum.Has base W4 bo k want l s0 O pre W) (ht : Turns O W W') (hg : ∀ i, O' i → O i ∨ W.heap.size ≤ i) : mass_sum.Has base W4 bo k want l s0 O' pre W' := by
  obtain ⟨g, hO, s, hs, hv⟩ := h
  have key : ∀ i, i < W4.heap.size → ¬ O i := fun i hi ho => by have := hO i ho; omega
  refine ⟨⟨ht.os.trans g.os, ht.tape.trans g.tape, ht.output.trans g.output, Nat.le_trans g.size ht.size, fun i hi hne => (ht.block i (Nat.lt_of_lt_of_le hi g.size) (key i hi)).trans (g.block i hi hne)⟩, fun i hi => ?_, s, hs, hv.step (ht.block bo (Nat.lt_of_lt_of_le hlt g.size) (key bo hlt)) (fun i hi hl => ht.block i hl hi.2.1) (fun i hi hl => ⟨hi.1, fun ho => (hg i ho).elim hi.2.1 (fun h => by omega), hi.2.2⟩)⟩
  rcases hg i hi with h | h
  · exact hO i h
  · have := g.size; omega
theorem mass_sum.Has.stable {base : Nat} {W4 : World} {bo k : Nat} {want : List (List Int) → Option Bool} {l : List S150} {s0 : S44} (hlt : bo < W4.heap.size) : Stable (mass_sum.Has base W4 bo k want l s0) := fun _ _ _ _ _ h ht hg => h.turns hlt ht hg
theorem mass_sum.res {tm : Array Value} {W : World} (b : Nat) (e : Int) (u0 u1 u2 : Value) (h8 : tm[8]? = some (.pointer (some ⟨b, 0, none⟩))) (h9 : tm[9]? = some (.int .i64 e)) (hb : W.heap[b]? = some (.cells #[u0, u1, u2] 44 (0, 0))) :
    (results Tryz.f64 tm).run Tryz.prog W = .ok (.tuple #[.agg #[u0, u1, u2], .int .i64 e]) W := by
  have hu44 := Tryz.underlying44
  have hu42 := Tryz.underlying42
  have z0 := cells_at (i := 0) hb rfl
  have z1 := cells_at (i := 1) hb rfl
  have z2 := cells_at (i := 2) hb rfl
  have e8 : tm.getD 8 undef = .pointer (some ⟨b, 0, none⟩) := by rw [Array.getD_eq_getD_getElem?, h8]; rfl
  have e9 : tm.getD 9 undef = .int .i64 e := by rw [Array.getD_eq_getD_getElem?, h9]; rfl
  simp [results, Tryz.f64, go_sem, h8, h9, e8, e9, z0, z1, z2, hu44, hu42]
theorem mass_sum.box3 (w : World) (A B C D : Obj) : (((((w.alloc A).alloc B).alloc C).alloc D).heap[w.heap.size + 1 + 1 + 1]? = some D) := by
  have := World.alloc_heap_new (((w.alloc A).alloc B).alloc C) D
  simpa only [World.size_alloc] using this
set_option maxRecDepth 100000 in
set_option maxHeartbeats 8000000 in
theorem mass_sum.calls (g : FuncId) (eg : ∀ args w, (callFunc g args).run Tryz.prog w = .ok (.enter g args) w) (kk : Int) (want : List (List Int) → Option Bool)
    (hwant : ∀ (A : Option Addr) (c : Nat) (sets : List (List Int)) (b : Bool) (w : World), Kd.C (Kd.slice 3 (Kd.int .i64)) w A sets.length sets → sets.length ≤ c → want sets = some b → Calls Tryz.prog g #[.int .i64 kk, .slice A sets.length c] w fun e w' => e = .returned (.bool b) ∧ Below w.heap.size w w')
    (k : Nat) (A0 : Option Addr) (c0 : Nat) (l0 : List S150) (n : Int) (z : S44) (e : Int) (w : World) (hr0 : Kd.C k150 w A0 l0.length l0) (h : mass_sum.f k want l0 n = some (z, e)) :
    Calls Tryz.prog 64 #[.slice A0 l0.length c0, .int .i64 kk, .int .i64 n, .func (.func g) #[] #[]] w fun en w' => ∃ v1 v2 : Value, en = .returned (.tuple #[.agg #[.bool z.f0.f0, v1, v2], .int .i64 e]) ∧ Kd.V (Kd.int .u64) 112 w' w.heap.size (fun i => w.heap.size ≤ i) v1 z.f0.f1 ∧ Kd.V (Kd.int .u64) 112 w' w.heap.size (fun i => w.heap.size ≤ i) v2 z.f1 ∧ Below w.heap.size w w' := by
  have hu44 := Tryz.underlying44
  have hu42 := Tryz.underlying42
  have hu150 := Tryz.underlying150
  have hm0 : l0.length ≤ 9223372036854775807 := hr0.2.1
  have HR0 := Aside0.mk hr0
  have HW := Aside0.mk hwant
  have H := Aside0.mk h
  clear hr0 hwant h
  refine (callsIn_wide (n := 3)).1 ?_
  by_cases hl : l0.length ≤ 4096
  · have h := H.out
    rw [mass_sum.f, if_pos hl] at h
    obtain ⟨bf, hf, h⟩ := Option.bind_eq_some_iff.1 h
    have HF := Aside0.mk hf
    have H1 := Aside0.mk h
    have hdl : decide (4096 < (l0.length : Int)) = false := by simp; omega
    clear h hf H
    cases bf with
    | false =>
      have h1 := H1.out
      rw [if_neg (by decide)] at h1
      obtain ⟨rfl, rfl⟩ := Prod.mk.inj (Option.some.inj h1)
      clear h1 H1
      refine callsIn_of_wp Tryz.func64 rfl trivial ?_ rfl
      simp only [Tryz.ntmps64, List.size_toArray, List.length_cons, List.length_nil, Nat.reduceAdd, Nat.reduceSub, Array.replicate_succ, Array.replicate_zero, List.push_toArray, List.append_toArray, List.nil_append, List.cons_append]
      gi_wp2_with (refine ⟨trivial, ?_⟩; gi_at_call 132; (with_reducible refine (callsIn_wide.2 (mass_few.calls k (l0.length : Int) n false _ HF.out)).mono ?_); rintro e w5 ⟨rfl, ⟨nd, rfl⟩⟩)
      refine bodyPost_ret (v := .tuple #[.agg #[.bool false, .slice none 0 0, .slice none 0 0], .int .i64 4]) (by exact mass_sum.res (w.heap.size + 1 + 1 + 1) 4 _ _ _ rfl rfl (cells_set (cells_set (cells_set (mass_sum.box3 w _ _ _ _) 0 _) 1 _) 2 _)) rfl ?_
      exact ⟨_, _, rfl, ⟨none, 0, rfl, Nat.le_refl _, Kd.F_nil _ _ _⟩, ⟨none, 0, rfl, Nat.le_refl _, Kd.F_nil _ _ _⟩, (((pw_below_drewN (below_alloc (below_alloc (below_alloc (below_alloc (Below.refl _ _) _) _) _) _) nd).setCell (p := ⟨w.heap.size + 1 + 1 + 1, 0, none⟩) (by show w.heap.size ≤ w.heap.size + 1 + 1 + 1; omega) _).setCell (p := ⟨w.heap.size + 1 + 1 + 1, 1, none⟩) (by show w.heap.size ≤ w.heap.size + 1 + 1 + 1; omega) _).setCell (p := ⟨w.heap.size + 1 + 1 + 1, 2, none⟩) (by show w.heap.size ≤ w.heap.size + 1 + 1 + 1; omega) _⟩
    | true =>
      have h1 := H1.out
      rw [if_pos rfl] at h1
      have hgd : 1 ≤ l0.length ∧ 0 ≤ n ∧ n ≤ 4096 := by
        rcases Classical.em (1 ≤ l0.length ∧ 0 ≤ n ∧ n ≤ 4096) with h | h
        · exact h
        · rw [if_neg h] at h1; cases h1
      rw [if_pos hgd] at h1
      obtain ⟨⟨p1, p2, p3, p4⟩, hp, h1⟩ := Option.bind_eq_some_iff.1 h1
      dsimp only at h1
      obtain ⟨zz, hz0, h1⟩ := Option.bind_eq_some_iff.1 h1
      obtain ⟨rfl, rfl⟩ := Prod.mk.inj (Option.some.inj h1)
      have HP := Aside0.mk hp
      clear hp h1 H1
      obtain ⟨hl1, hn0, hn1⟩ := hgd
      obtain ⟨nn, rfl⟩ := Int.eq_ofNat_of_zero_le hn0
      rw [Int.toNat_natCast] at hz0
      have HZ := Aside0.mk hz0
      clear hz0
      refine callsIn_of_wp_marks Tryz.func64 rfl trivial ?_ rfl
      simp only [Tryz.ntmps64, List.size_toArray, List.length_cons, List.length_nil, Nat.reduceAdd, Nat.reduceSub, Array.replicate_succ, Array.replicate_zero, List.push_toArray, List.append_toArray, List.nil_append, List.cons_append]
      gi_wp2_with (refine ⟨trivial, ?_⟩; gi_at_call 132; (with_reducible refine (callsIn_wide.2 (mass_few.calls k (l0.length : Int) (nn : Int) true _ HF.out)).mono ?_); rintro e w5 ⟨rfl, ⟨nd, rfl⟩⟩)
      refine ⟨trivial, ?_⟩
      (with_reducible refine (callsIn_wide.2 (ratio_Pair.calls k 0 1 p1 p2 p3 p4 _ HP.out)).mono ?_)
      rintro e w1 ⟨u1, u2, rfl, hu1, hu2, hb1⟩
      obtain ⟨Y1, y1, rfl, k1, f1⟩ := Kd.R_V (base' := 0) (Kd.R_bound hu1)
      obtain ⟨Y2, y2, rfl, k2, f2⟩ := Kd.R_V (base' := 0) (Kd.R_bound hu2)
      obtain ⟨Wd, hWd⟩ : ∃ Wd, Wd = World.drewN ((((w.alloc (.cells #[.slice A0 l0.length c0] 80)).alloc (.cells #[.int .i64 kk] 3)).alloc (.cells #[.func (.func g) #[] #[]] 84)).alloc (.cells #[.bool false, .slice none 0 0, .slice none 0 0] 44)) nd := ⟨_, rfl⟩
      rw [← hWd] at hb1 f1 f2
      have hb01 : Below w.heap.size w Wd := by rw [hWd]; exact pw_below_drewN (below_alloc (below_alloc (below_alloc (below_alloc (Below.refl _ _) _) _) _) _) nd
      have d0 : Wd.heap[w.heap.size]? = some (.cells #[.slice A0 l0.length c0] 80) := by rw [hWd]; exact blk_alloc' (blk_alloc' (blk_alloc' (World.alloc_heap_new w _) _) _) _
      have d1 : Wd.heap[w.heap.size + 1]? = some (.cells #[.int .i64 kk] 3) := by rw [hWd]; exact blk_alloc' (blk_alloc' (by have := World.alloc_heap_new (w.alloc (.cells #[.slice A0 l0.length c0] 80)) (.cells #[.int .i64 kk] 3); simpa only [World.size_alloc] using this) _) _
      have d2 : Wd.heap[w.heap.size + 1 + 1]? = some (.cells #[.func (.func g) #[] #[]] 84) := by rw [hWd]; exact blk_alloc' (by have := World.alloc_heap_new ((w.alloc (.cells #[.slice A0 l0.length c0] 80)).alloc (.cells #[.int .i64 kk] 3)) (.cells #[.func (.func g) #[] #[]] 84); simpa only [World.size_alloc] using this) _
      have d3 : Wd.heap[w.heap.size + 1 + 1 + 1]? = some (.cells #[.bool false, .slice none 0 0, .slice none 0 0] 44) := by rw [hWd]; exact mass_sum.box3 w _ _ _ _
      have e0 := blk_below' d0 hb1
      have e1 := blk_below' d1 hb1
      have e2 := blk_below' d2 hb1
      have e3 := blk_below' d3 hb1
      have hb := hb01.trans (hb1.mono hb01.size)
      have hsz : w.heap.size + 1 + 1 + 1 < Wd.heap.size := blk_lt' d3
      have HE := Aside0.mk (And.intro e0 (And.intro e1 (And.intro e2 (And.intro e3 (And.intro hb (And.intro hsz hb1.size))))))
      have HU := Aside0.mk (And.intro k1 (And.intro f1 (And.intro k2 f2)))
      have c0' := q_old (.cells #[.func (.func 133) #[] #[.pointer (some ⟨w1.heap.size, 0, none⟩)]] 73) (q_old (.cells #[.bool p1, .slice Y1 p2.length y1, .slice Y2 p3.length y2] 44) (mass_Sets.cell e0))
      clear hWd d0 d1 d2 d3 e0 e1 e2 e3 hb hb01 hb1 hsz k1 f1 k2 f2 hu1 hu2
      gi_wp2_with (refine ⟨trivial, ?_⟩; gi_at_call 134; (with_reducible refine (callsIn_wide.2 (mass_tuples.make (l0.length : Int) (nn : Int) _)).mono ?_); rintro e w5 ⟨rfl, rfl⟩)
      have hs4 : ((w1.alloc (.cells #[.bool p1, .slice Y1 p2.length y1, .slice Y2 p3.length y2] 44)).alloc (.cells #[.func (.func 133) #[] #[.pointer (some ⟨w1.heap.size, 0, none⟩)]] 73)).heap.size = w1.heap.size + 1 + 1 := by simp
      have hb4 : Below w1.heap.size w1 ((w1.alloc (.cells #[.bool p1, .slice Y1 p2.length y1, .slice Y2 p3.length y2] 44)).alloc (.cells #[.func (.func 133) #[] #[.pointer (some ⟨w1.heap.size, 0, none⟩)]] 73)) := below_alloc (below_alloc (Below.refl _ _) _) _
      have hbo : ((w1.alloc (.cells #[.bool p1, .slice Y1 p2.length y1, .slice Y2 p3.length y2] 44)).alloc (.cells #[.func (.func 133) #[] #[.pointer (some ⟨w1.heap.size, 0, none⟩)]] 73)).heap[w1.heap.size]? = some (.cells #[.bool p1, .slice Y1 p2.length y1, .slice Y2 p3.length y2] 44) := blk_alloc' (World.alloc_heap_new w1 _) _
      have hcl : ((w1.alloc (.cells #[.bool p1, .slice Y1 p2.length y1, .slice Y2 p3.length y2] 44)).alloc (.cells #[.func (.func 133) #[] #[.pointer (some ⟨w1.heap.size, 0, none⟩)]] 73)).heap[w1.heap.size + 1]? = some (.cells #[.func (.func 133) #[] #[.pointer (some ⟨w1.heap.size, 0, none⟩)]] 73) := by have := World.alloc_heap_new (w1.alloc (.cells #[.bool p1, .slice Y1 p2.length y1, .slice Y2 p3.length y2] 44)) (.cells #[.func (.func 133) #[] #[.pointer (some ⟨w1.heap.size, 0, none⟩)]] 73); rwa [World.size_alloc] at this
      generalize ((w1.alloc (.cells #[.bool p1, .slice Y1 p2.length y1, .slice Y2 p3.length y2] 44)).alloc (.cells #[.func (.func 133) #[] #[.pointer (some ⟨w1.heap.size, 0, none⟩)]] 73)) = W4 at *
      have hbm : ((W4.alloc (.cells #[.int .i64 (l0.length : Int)] 3)).alloc (.cells #[.int .i64 (nn : Int)] 3)).heap[w1.heap.size + 1 + 1]? = some (.cells #[.int .i64 (l0.length : Int)] 3 (0, 0)) := by rw [← hs4]; exact blk_alloc' (World.alloc_heap_new W4 _) _
      have hbn : ((W4.alloc (.cells #[.int .i64 (l0.length : Int)] 3)).alloc (.cells #[.int .i64 (nn : Int)] 3)).heap[w1.heap.size + 1 + 1 + 1]? = some (.cells #[.int .i64 (nn : Int)] 3 (0, 0)) := by have := World.alloc_heap_new (W4.alloc (.cells #[.int .i64 (l0.length : Int)] 3)) (.cells #[.int .i64 (nn : Int)] 3); rwa [World.size_alloc, hs4] at this
      have hb5 : Below W4.heap.size W4 ((W4.alloc (.cells #[.int .i64 (l0.length : Int)] 3)).alloc (.cells #[.int .i64 (nn : Int)] 3)) := below_alloc (below_alloc (Below.refl _ _) _) _
      have hs5 : ((W4.alloc (.cells #[.int .i64 (l0.length : Int)] 3)).alloc (.cells #[.int .i64 (nn : Int)] 3)).heap.size = w1.heap.size + 1 + 1 + 1 + 1 := by simp [hs4]
      have hlt : w1.heap.size < W4.heap.size := by omega
      have H4 := Aside0.mk (And.intro hb4 (And.intro hbo (And.intro hcl (And.intro hb5 (And.intro hs5 hs4)))))
      have HBM := Aside0.mk hbm
      have HBN := Aside0.mk hbn
      clear hb4 hbo hcl hb5 hs5 hbm hbn c0'
      generalize (W4.alloc (.cells #[.int .i64 (l0.length : Int)] 3)).alloc (.cells #[.int .i64 (nn : Int)] 3) = w5 at *
      refine wpIn_rangeFunc_W (P := Tryz.prog) (gf := 191) (lb := #[.pointer (some ⟨w1.heap.size + 1 + 1 + 1, 0, none⟩), .pointer (some ⟨w1.heap.size + 1 + 1, 0, none⟩)]) rfl (enters_of Tryz.func191 (by kernel_rfl) rfl)
        (mass_tuples.seq l0.length nn (w1.heap.size + 1 + 1) hl1 (by omega) (by omega) w5 HBM.out HBN.out)
        (mass_tuples.G_local _ _) (Keeps.refl _ _) (Nat.le_refl _) (fun i hi => by rcases hi with hi | hi; exact hi.elim; have := H4.out.2.2.2.2.1; omega) (fun _ => rfl)
        (mass_sum.Has Wd.heap.size W4 w1.heap.size k want l0 ⟨⟨p1, p2⟩, p3⟩) (fun _ _ _ _ => False) (mass_sum.Has.stable hlt) (fun _ _ _ _ _ _ h _ _ => h) ?_ (fun x => { tmps := ((.slice A0 l0.length c0 : Value) :: .int .i64 kk :: .int .i64 (nn : Int) :: .func (.func g) #[] #[] :: .pointer (some ⟨w.heap.size, 0, none⟩) :: .pointer (some ⟨w.heap.size + 1, 0, none⟩) :: undef :: .pointer (some ⟨w.heap.size + 1 + 1, 0, none⟩) :: .pointer (some ⟨w.heap.size + 1 + 1 + 1, 0, none⟩) :: .int .i64 0 :: .pointer (some ⟨w1.heap.size, 0, none⟩) :: .int .i64 p4 :: .pointer (some ⟨w1.heap.size + 1, 0, none⟩) :: x.2 :: undef :: undef :: undef :: undef :: undef :: undef :: .slice A0 l0.length c0 :: .int .i64 (l0.length : Int) :: .bool false :: .bool false :: .slice A0 l0.length c0 :: .int .i64 (l0.length : Int) :: .int .i64 (nn : Int) :: .bool true :: .bool false :: .bool false :: undef :: .tuple #[.agg #[.bool p1, .slice Y1 p2.length y1, .slice Y2 p3.length y2], .int .i64 p4] :: .tuple #[.agg #[.bool p1, .slice Y1 p2.length y1, .slice Y2 p3.length y2], .int .i64 p4] :: .agg #[.bool p1, .slice Y1 p2.length y1, .slice Y2 p3.length y2] :: .int .i64 p4 :: .func (.func 133) #[] #[.pointer (some ⟨w1.heap.size, 0, none⟩)] :: .slice A0 l0.length c0 :: .int .i64 (l0.length : Int) :: .int .i64 (nn : Int) :: .func (.func 191) #[] #[.pointer (some ⟨w1.heap.size + 1 + 1 + 1, 0, none⟩), .pointer (some ⟨w1.heap.size + 1 + 1, 0, none⟩)] :: x.2 :: undef :: undef :: undef :: undef :: undef :: undef :: undef :: undef :: undef :: undef :: undef :: undef :: undef :: undef :: undef :: undef :: undef :: undef :: undef :: undef :: undef :: undef :: undef :: undef :: undef :: undef :: undef :: undef :: undef :: undef :: undef :: undef :: undef :: undef :: undef :: undef :: []).toArray, defers := [] }) ?_ ?_ ?_ ?_
      · refine ⟨grownBy_of_below H4.out.2.2.2.1 _, fun i hi => by have := H4.out.2.2.2.2.2; omega, _, rfl, Y1, y1, Y2, y2, blk_below' H4.out.2.1 H4.out.2.2.2.1, HU.out.1, ?_, HU.out.2.2.1, ?_⟩
        · exact Kd.F_mono (Kd.F_bound (Kd.F_below (Kd.F_below (Kd.F_bound HU.out.2.1) H4.out.1) H4.out.2.2.2.1)) (fun i hi => by have h1 := hi.1.2; have h2 := H4.out.2.2.2.2.2; have h3 := hi.1.1.2.1; show _ ∧ ¬ _ ∧ _; omega)
        · exact Kd.F_mono (Kd.F_bound (Kd.F_below (Kd.F_below (Kd.F_bound HU.out.2.2.2) H4.out.1) H4.out.2.2.2.1)) (fun i hi => by have h1 := hi.1.2; have h2 := H4.out.2.2.2.2.2; have h3 := hi.1.1.2.1; show _ ∧ ¬ _ ∧ _; omega)
      · intro l' x W3 K3 hK3
        gi_wp2
        exact hK3
      · intro l' O₁ pre x W0 W hn1 hO0 hOb hBk hI0 hT hGx
        have hI := hI0.turns (O' := fun i => O₁ i ∨ Book w5 i) hlt hT (fun i h => .inl h)
        obtain ⟨hpre, hxl, hxr, gg, hx2, hgO, hrow⟩ := hGx
        obtain ⟨xl, xv⟩ := x
        dsimp only at hpre hxl hxr hx2 hrow
        subst hx2
        obtain ⟨s, hs, hOut⟩ := hI.val
        obtain ⟨t, hst⟩ : ∃ t, mass_sum.step k want l0 s xl = some t := by
          obtain ⟨r, hr⟩ := hpre
          have h1 := HZ.out
          rw [← hr, List.append_assoc, mass_sum.go_append, hs] at h1
          obtain ⟨t, ht, _⟩ := Option.bind_eq_some_iff.1 (show (mass_sum.step k want l0 s xl).bind _ = some zz from h1)
          exact ⟨t, ht⟩
        have hgo : mass_sum.go k want l0 ⟨⟨p1, p2⟩, p3⟩ ((pre ++ [(xl, Value.slice (some ⟨gg, 0, none⟩) nn nn)]).map (·.1)) = some t := by
          rw [List.map_append, mass_sum.go_append, hs]
          show (mass_sum.step k want l0 s xl).bind _ = _
          rw [hst]
          rfl
        have hblk : ∀ i, i < w1.heap.size → W.heap[i]? = w1.heap[i]? := fun i hi => (hI.g.block i (by have := H4.out.2.2.2.2.2; omega) (by intro e; injection e; omega)).trans (H4.out.1.block i hi)
        have hbw : Below w.heap.size w W := (HE.out.2.2.2.2.1.trans (H4.out.1.mono HE.out.2.2.2.2.1.size)).grown hI.g (by have := HE.out.2.2.2.2.1.size; omega) (fun j hj => by injection hj with hj; have := HE.out.2.2.2.2.1.size; omega)
        have b4 : W.heap[w.heap.size]? = some (.cells #[.slice A0 l0.length c0] 80) := (hblk _ (blk_lt' HE.out.1)).trans HE.out.1
        have b5 : W.heap[w.heap.size + 1]? = some (.cells #[.int .i64 kk] 3) := (hblk _ (blk_lt' HE.out.2.1)).trans HE.out.2.1
        have b7 : W.heap[w.heap.size + 1 + 1]? = some (.cells #[.func (.func g) #[] #[]] 84) := (hblk _ (blk_lt' HE.out.2.2.1)).trans HE.out.2.2.1
        have b12 : W.heap[w1.heap.size + 1]? = some (.cells #[.func (.func 133) #[] #[.pointer (some ⟨w1.heap.size, 0, none⟩)]] 73) := (hI.g.block _ (by have := H4.out.2.2.2.2.2; omega) (by intro e; injection e; omega)).trans H4.out.2.2.1
        have HI := Aside0.mk hI
        have HBW := Aside0.mk hbw
        have HO := Aside0.mk hOut
        have HST := Aside0.mk (And.intro hst hgo)
        have HROW := Aside0.mk hrow
        have HB := Aside0.mk (And.intro b4 (And.intro b5 (And.intro b7 b12)))
        have HX := Aside0.mk (And.intro hxl hxr)
        have HN := Aside0.mk (And.intro hn1 (And.intro hO0 (And.intro hOb (And.intro hBk (And.intro hT.size hgO)))))
        clear hI hbw hOut hst hgo hrow b4 b5 b7 b12 hxl hxr hn1 hO0 hOb hBk hT hgO hI0 hpre hs hblk
        gi_wp2
        gi_loopw [14, 15, 43] (fun v14 v15 v43 wr => ∃ (j : Nat) (xsA xsB : List Value), j ≤ nn ∧ v43 = .int .i64 (j : Int) ∧ Aside0 (wr.ownsRow W.heap.size 22 1 v14 j xsA) ∧ Aside0 (Reps ((Kd.slice 3 (Kd.int .i64)).K W) 1 ((xl.take j).map fun i => (rd_T150 l0 i).f0) xsA) ∧ Aside0 (wr.ownsRow W.heap.size 44 3 v15 j xsB) ∧ Aside0 (Reps (k44.K W) 3 ((xl.take j).map fun i => (rd_T150 l0 i).f1) xsB) ∧ Aside0 (Below W.heap.size W wr)) (fun _ _ v43 _ => nn - (intOf v43).toNat)
        case atStart => exact ⟨0, [], [], Nat.zero_le _, rfl, ⟨World.ownsRow_nil _ _ _ _⟩, ⟨Reps.none _ _⟩, ⟨World.ownsRow_nil _ _ _ _⟩, ⟨Reps.none _ _⟩, ⟨Below.refl _ _⟩⟩
        case round =>
          obtain ⟨j, xsA, xsB, hj, rfl, HA, HRA, HBB, HRB, HK⟩ := hrel
          by_cases hltj : j < nn
          · have hxj : j < xl.length := by rw [HX.out.1]; exact hltj
            obtain ⟨i, hi⟩ : ∃ i, xl[j] = i := ⟨_, rfl⟩
            obtain ⟨hi0, hi1⟩ := HX.out.2 xl[j] (List.getElem_mem hxj)
            have hcj := (blk_below' HROW.out HK.out)
            have hcx := RowAt.cell (show RowAt wr gg .i64 3 xl from hcj) j hxj
            rw [hi] at hi0 hi1 hcx
            have HII := Aside0.mk hi
            clear hi hcj
            have hjb : (j : Int) ≤ 4096 := by omega
            gi_wp2
            obtain ⟨ad, S0, s0, M2, m2, M3, m3, e1, x0, x1, x2, x3, g0, g0', g2, g2', g3, g3'⟩ := at_T150 (Kd.C_below HR0.out HBW.out) i hi0 hi1
            subst e1
            obtain ⟨it, hit⟩ : ∃ it, rd_T150 l0 i = it := ⟨_, rfl⟩
            rw [hit] at x0 x1 x2 x3 g0 g0' g2 g2' g3 g3'
            have HIT := Aside0.mk hit
            have HG := Aside0.mk (And.intro g0 (And.intro g0' (And.intro g2 (And.intro g2' (And.intro g3 g3')))))
            have p48 := eq_true hi0
            have q48 := eq_true hi1
            have hmix : Tryz.prog.follows .mixedOrders = true := by kernel_rfl
            obtain ⟨WR, hWR⟩ : ∃ WR, WR = wr.drew := ⟨_, rfl⟩
            have stA : Stage WR WR W.heap.size 22 1 u14 j xsA [.slice S0 it.f0.length s0] 0 0 undef := by rw [hWR]; exact HA.out
            have stB : Stage WR WR W.heap.size 44 3 u15 j xsB [.bool it.f1.f0.f0, .slice M2 it.f1.f0.f1.length m2, .slice M3 it.f1.f1.length m3] 0 0 undef := by rw [hWR]; exact HBB.out
            have tw0 : Two WR WR u14.ownBlock u15.ownBlock := Two.refl _ _ _
            have hkW : Below W.heap.size W WR := by rw [hWR]; exact HK.out.drew
            have hbase : W.heap.size ≤ WR.heap.size := hkW.size
            have HKW := Aside0.mk hkW
            have hcell : ∀ w', Two WR w' u14.ownBlock u15.ownBlock → ∀ (a : Addr) (v : Value), W.cell? a = some v → w'.cell? a = some v := by
              intro w' tw a v h
              have hl := World.block_lt_of_cell? W a h
              have hb : w'.heap[a.block]? = W.heap[a.block]? := (tw.block _ (Nat.lt_of_lt_of_le hl hbase) (fun e => by have := own_base HA.out _ e.symm; omega) (fun e => by have := own_base HBB.out _ e.symm; omega)).trans (hkW.block _ hl)
              unfold World.cell? at h ⊢
              rw [hb]
              exact h
            have y0 := cells_at (i := 0) HB.out.1 rfl
            have hS : ∀ w', Two WR w' u14.ownBlock u15.ownBlock → (w'.cell? ⟨w.heap.size, 0, none⟩ = some (.slice (some ad) l0.length c0) ∧ w'.cell? (ad.add (i.toNat * 4)) = some (.slice S0 it.f0.length s0) ∧ w'.cell? ⟨(ad.add (i.toNat * 4)).block, (ad.add (i.toNat * 4)).off + 1, none⟩ = some (.bool it.f1.f0.f0) ∧ w'.cell? ⟨(ad.add (i.toNat * 4)).block, (ad.add (i.toNat * 4)).off + 2, none⟩ = some (.slice M2 it.f1.f0.f1.length m2) ∧ w'.cell? ⟨(ad.add (i.toNat * 4)).block, (ad.add (i.toNat * 4)).off + 3, none⟩ = some (.slice M3 it.f1.f1.length m3)) := fun w' tw => ⟨hcell w' tw _ _ y0, hcell w' tw _ _ x0, hcell w' tw _ _ x1, hcell w' tw _ _ x2, hcell w' tw _ _ x3⟩
            have hsv : ∀ u ∈ ([.slice S0 it.f0.length s0] : List Value), u.oneCell' = true := by simp [Value.oneCell']
            have hmv : ∀ u ∈ ([.bool it.f1.f0.f0, .slice M2 it.f1.f0.f1.length m2, .slice M3 it.f1.f1.length m3] : List Value), u.oneCell' = true := by simp [Value.oneCell']
            have hbA : (j + 1) * 24 ≤ 140737488355328 := by omega
            have hbB : (j + 1) * 56 ≤ 140737488355328 := by omega
            have hjm : j + 1 ≤ maxLen := by simp only [maxLen]; omega
            have HS := Aside0.mk hS
            clear hit hi0 hi1 g0 g0' g2 g2' g3 g3' x0 x1 x2 x3 y0 hcell hkW
            refine startR_ (n := 18) (S := fun w' => (w'.cell? ⟨w.heap.size, 0, none⟩ = some (.slice (some ad) l0.length c0) ∧ w'.cell? (ad.add (i.toNat * 4)) = some (.slice S0 it.f0.length s0) ∧ w'.cell? ⟨(ad.add (i.toNat * 4)).block, (ad.add (i.toNat * 4)).off + 1, none⟩ = some (.bool it.f1.f0.f0) ∧ w'.cell? ⟨(ad.add (i.toNat * 4)).block, (ad.add (i.toNat * 4)).off + 2, none⟩ = some (.slice M2 it.f1.f0.f1.length m2) ∧ w'.cell? ⟨(ad.add (i.toNat * 4)).block, (ad.add (i.toNat * 4)).off + 3, none⟩ = some (.slice M3 it.f1.f1.length m3))) (ds := []) #[false, false, false, false, false, false, false, false, false, false, false, false, false, false, false, false, false, false] hmix rfl rfl (by kernel_rfl) (by rw [← hWR]; exact HS.out _ tw0) (by rintro ⟨_, _, h⟩; exact h) (fun hHeld => ?_)
            rw [← hWR] at hHeld ⊢
            clear hWR hS
            have hS := HS.out
            clear HS
            refine pure_ (i := 0) (N := some 47) (v := ?_) (a' := ?_) #[true, false, false, false, false, false, false, false, false, false, false, false, false, false, false, false, false, false] rfl rfl (by kernel_rfl) (fun _ _ _ h => h) (Or.inl ⟨by rfl, ?_⟩) ?_ ?_
            rotate_left
            · intro w'
              go_simp
              with_reducible rfl
            rotate_left
            · simp only [Act.put, List.setIfInBounds_toArray, List.set_cons_zero, List.set_cons_succ]
              rfl
            refine pure_ (i := 2) (N := some 49) (v := ?_) (a' := ?_) #[true, false, true, false, false, false, false, false, false, false, false, false, false, false, false, false, false, false] rfl rfl (by kernel_rfl) (fun _ _ _ h => h) (Or.inl ⟨by rfl, ?_⟩) ?_ ?_
            rotate_left
            · intro w'
              go_simp
              with_reducible rfl
            rotate_left
            · simp only [Act.put, List.setIfInBounds_toArray, List.set_cons_zero, List.set_cons_succ]
              rfl
            refine pure_ (i := 8) (N := some 55) (v := ?_) (a' := ?_) #[true, false, true, false, false, false, false, false, true, false, false, false, false, false, false, false, false, false] rfl rfl (by kernel_rfl) (fun _ _ _ h => h) (Or.inl ⟨by rfl, ?_⟩) ?_ ?_
            rotate_left
            · intro w'
              go_simp
              with_reducible rfl
            rotate_left
            · simp only [Act.put, List.setIfInBounds_toArray, List.set_cons_zero, List.set_cons_succ]
              rfl
            refine pure_ (i := 10) (N := some 57) (v := ?_) (a' := ?_) #[true, false, true, false, false, false, false, false, true, false, true, false, false, false, false, false, false, false] rfl rfl (by kernel_rfl) (fun _ _ _ h => h) (Or.inl ⟨by rfl, ?_⟩) ?_ ?_
            rotate_left
            · intro w'
              go_simp
              with_reducible rfl
            rotate_left
            · simp only [Act.put, List.setIfInBounds_toArray, List.set_cons_zero, List.set_cons_succ]
              rfl
            refine take_ (i := 1) (N := some 48) (v := ?_) (a' := ?_) #[true, true, true, false, false, false, false, false, true, false, true, false, false, false, false, false, false, false] rfl rfl (by kernel_rfl) (fun _ _ _ h => h) (Or.inl ⟨by rfl, ?_⟩) hHeld ?_ ?_
            rotate_left
            · intro w' s0
              obtain ⟨s0_, s1_, s2_, s3_, s4_⟩ := s0
              go_simp
              with_reducible rfl
            rotate_left
            · simp only [Act.put, List.setIfInBounds_toArray, List.set_cons_zero, List.set_cons_succ]
              rfl
            refine pure_ (i := 3) (N := some 50) (v := ?_) (a' := ?_) #[true, true, true, true, false, false, false, false, true, false, true, false, false, false, false, false, false, false] rfl rfl (by kernel_rfl) (fun _ _ _ h => h) (Or.inl ⟨by rfl, ?_⟩) ?_ ?_
            rotate_left
            · intro w'
              go_simp
              with_reducible rfl
            rotate_left
            · simp only [Act.put, List.setIfInBounds_toArray, List.set_cons_zero, List.set_cons_succ]
              rfl
            refine pure_ (i := 4) (N := some 51) (v := ?_) (a' := ?_) #[true, true, true, true, true, false, false, false, true, false, true, false, false, false, false, false, false, false] rfl rfl (by kernel_rfl) (fun _ _ _ h => h) (Or.inl ⟨by rfl, ?_⟩) ?_ ?_
            rotate_left
            · intro w'
              go_simp
              with_reducible rfl
            rotate_left
            · simp only [Act.put, List.setIfInBounds_toArray, List.set_cons_zero, List.set_cons_succ]
              rfl
            refine take_ (i := 5) (N := some 52) (v := ?_) (a' := ?_) #[true, true, true, true, true, true, false, false, true, false, true, false, false, false, false, false, false, false] rfl rfl (by kernel_rfl) (fun _ _ _ h => h) (Or.inl ⟨by rfl, ?_⟩) hHeld ?_ ?_
            rotate_left
            · intro w' s0
              obtain ⟨s0_, s1_, s2_, s3_, s4_⟩ := s0
              go_simp
              with_reducible rfl
            rotate_left
            · simp only [Act.put, List.setIfInBounds_toArray, List.set_cons_zero, List.set_cons_succ]
              rfl
            refine take_ (i := 9) (N := some 56) (v := ?_) (a' := ?_) #[true, true, true, true, true, true, false, false, true, true, true, false, false, false, false, false, false, false] rfl rfl (by kernel_rfl) (fun _ _ _ h => h) (Or.inl ⟨by rfl, ?_⟩) hHeld ?_ ?_
            rotate_left
            · intro w' s0
              obtain ⟨s0_, s1_, s2_, s3_, s4_⟩ := s0
              go_simp
              with_reducible rfl
            rotate_left
            · simp only [Act.put, List.setIfInBounds_toArray, List.set_cons_zero, List.set_cons_succ]
              rfl
            refine pure_ (i := 11) (N := some 58) (v := ?_) (a' := ?_) #[true, true, true, true, true, true, false, false, true, true, true, true, false, false, false, false, false, false] rfl rfl (by kernel_rfl) (fun _ _ _ h => h) (Or.inl ⟨by rfl, ?_⟩) ?_ ?_
            rotate_left
            · intro w'
              go_simp
              with_reducible rfl
            rotate_left
            · simp only [Act.put, List.setIfInBounds_toArray, List.set_cons_zero, List.set_cons_succ]
              rfl
            refine pure_ (i := 12) (N := some 59) (v := ?_) (a' := ?_) #[true, true, true, true, true, true, false, false, true, true, true, true, true, false, false, false, false, false] rfl rfl (by kernel_rfl) (fun _ _ _ h => h) (Or.inl ⟨by rfl, ?_⟩) ?_ ?_
            rotate_left
            · intro w'
              go_simp
              with_reducible rfl
            rotate_left
            · simp only [Act.put, List.setIfInBounds_toArray, List.set_cons_zero, List.set_cons_succ]
              rfl
            refine take_ (i := 13) (N := some 60) (v := ?_) (a' := ?_) #[true, true, true, true, true, true, false, false, true, true, true, true, true, true, false, false, false, false] rfl rfl (by kernel_rfl) (fun _ _ _ h => h) (Or.inl ⟨by rfl, ?_⟩) hHeld ?_ ?_
            rotate_left
            · intro w' s0
              obtain ⟨s0_, s1_, s2_, s3_, s4_⟩ := s0
              go_simp
              with_reducible rfl
            rotate_left
            · simp only [Act.put, List.setIfInBounds_toArray, List.set_cons_zero, List.set_cons_succ]
              rfl
            refine join_ (σ := Value × Value × Nat × Nat) 2 #[true, true, true, true, true, true, true, true, true, true, true, true, true, true, true, true, false, false] (fun s_ => [(53, .slice (some ⟨s_.2.2.1, 0, none⟩) 1 1), (54, s_.1), (61, .slice (some ⟨s_.2.2.2, 0, none⟩) 1 1), (62, s_.2.1)]) (fun s_ w' => Stage WR w' W.heap.size 22 1 u14 j xsA [.slice S0 it.f0.length s0] 2 0 s_.1 ∧ Stage WR w' W.heap.size 44 3 u15 j xsB [.bool it.f1.f0.f0, .slice M2 it.f1.f0.f1.length m2, .slice M3 it.f1.f1.length m3] 2 0 s_.2.1 ∧ Two WR w' u14.ownBlock u15.ownBlock) ?_ ?_
            rotate_left
            · intro hCont
              refine two_ (i := 6) (j := 14) (Ni := some 53) (Nj := some 61) #[true, true, true, true, true, true, true, false, true, true, true, true, true, true, false, false, false, false] #[true, true, true, true, true, true, false, false, true, true, true, true, true, true, true, false, false, false] rfl rfl rfl rfl (by kernel_rfl) (by decide) (by decide) (fun K hK => ?_) (fun K hK => ?_)
              · skip
                go_simp
                have hz1 : WR.heap.size ≤ WR.heap.size := (tw0).size
                have sa1 := Stage.built (v'' := undef) (stA) hz1
                have sb1 := Stage.alloc (stB) (.cells #[.slice S0 it.f0.length s0] 22)
                have tw1 := Two.alloc (tw0) (.cells #[.slice S0 it.f0.length s0] 22)
                refine hK.out _ _ (hS _ tw1) (fun _ => ?_)
                clear hK K
                generalize hw1 : WR.alloc _ = w1 at sa1 sb1 tw1 ⊢
                clear hw1
                obtain ⟨ga1, hga1⟩ : ∃ ga1, ga1 = WR.heap.size := ⟨_, rfl⟩; rw [← hga1] at sa1 ⊢; clear hga1
                refine two_ (i := 7) (j := 14) (Ni := some 54) (Nj := some 61) #[true, true, true, true, true, true, true, true, true, true, true, true, true, true, false, false, false, false] #[true, true, true, true, true, true, true, false, true, true, true, true, true, true, true, false, false, false] rfl rfl rfl rfl (by kernel_rfl) (by decide) (by decide) (fun K hK => ?_) (fun K hK => ?_)
                · skip
                  refine step_append_stage W.heap.size (by rfl) (.tmp 47) (.tmp 53) 26 22 (.slice none 0 0) 1 24 rfl Tryz.underlying26 info22 rfl (by decide) u14 j xsA [.slice S0 it.f0.length s0] ga1 undef sa1 rfl rfl rfl hsv hbA hjm hbase (tw1).size ?_
                  intro va2 w2 sa2 hg hty
                  have sb2 := Stage.grown (sb1) hg hty (by decide)
                  have tw2 := Two.grown (tw1) hg (.inl rfl)
                  clear hg hty
                  refine hK.out _ _ (hS _ tw2) (fun _ => ?_)
                  clear hK K
                  refine norm_ (a' := ?_) ?_ ?_
                  rotate_left
                  · show Act.put _ (some 54) _ = _
                    simp only [Act.put, List.setIfInBounds_toArray, List.set_cons_zero, List.set_cons_succ]
                    rfl
                  refine one_ (i := 14) (N := some 61) #[true, true, true, true, true, true, true, true, true, true, true, true, true, true, true, false, false, false] rfl rfl (by kernel_rfl) (by decide) (fun K hK => ?_)
                  go_simp
                  have hz3 : WR.heap.size ≤ w2.heap.size := (tw2).size
                  have sb3 := Stage.built (v'' := undef) (sb2) hz3
                  have sa3 := Stage.alloc (sa2) (.cells #[.bool it.f1.f0.f0, .slice M2 it.f1.f0.f1.length m2, .slice M3 it.f1.f1.length m3] 44)
                  have tw3 := Two.alloc (tw2) (.cells #[.bool it.f1.f0.f0, .slice M2 it.f1.f0.f1.length m2, .slice M3 it.f1.f1.length m3] 44)
                  refine hK.out _ _ (hS _ tw3) (fun _ => ?_)
                  clear hK K
                  generalize hw3 : w2.alloc _ = w3 at sa3 sb3 tw3 ⊢
                  clear hw3
                  obtain ⟨gb3, hgb3⟩ : ∃ gb3, gb3 = w2.heap.size := ⟨_, rfl⟩; rw [← hgb3] at sb3 ⊢; clear hgb3
                  refine one_ (i := 15) (N := some 62) #[true, true, true, true, true, true, true, true, true, true, true, true, true, true, true, true, false, false] rfl rfl (by kernel_rfl) (by decide) (fun K hK => ?_)
                  refine step_append_stage W.heap.size (by rfl) (.tmp 55) (.tmp 61) 56 44 (.agg #[.bool false, .slice none 0 0, .slice none 0 0]) 3 56 rfl Tryz.underlying56 info44 rfl (by decide) u15 j xsB [.bool it.f1.f0.f0, .slice M2 it.f1.f0.f1.length m2, .slice M3 it.f1.f1.length m3] gb3 undef sb3 rfl rfl rfl hmv hbB hjm hbase (tw3).size ?_
                  intro vb4 w4 sb4 hg hty
                  have sa4 := Stage.grown (sa3) hg hty (by decide)
                  have tw4 := Two.grown (tw3) hg (.inr rfl)
                  clear hg hty
                  refine hK.out _ _ (hS _ tw4) (fun _ => ?_)
                  clear hK K
                  refine norm_ (a' := ?_) ?_ ?_
                  rotate_left
                  · show Act.put _ (some 62) _ = _
                    simp only [Act.put, List.setIfInBounds_toArray, List.set_cons_zero, List.set_cons_succ]
                    rfl
                  exact hCont (va2, vb4, ga1, gb3) _ ⟨sa4, sb4, tw4⟩
                · skip
                  go_simp
                  have hz5 : WR.heap.size ≤ w1.heap.size := (tw1).size
                  have sb5 := Stage.built (v'' := undef) (sb1) hz5
                  have sa5 := Stage.alloc (sa1) (.cells #[.bool it.f1.f0.f0, .slice M2 it.f1.f0.f1.length m2, .slice M3 it.f1.f1.length m3] 44)
                  have tw5 := Two.alloc (tw1) (.cells #[.bool it.f1.f0.f0, .slice M2 it.f1.f0.f1.length m2, .slice M3 it.f1.f1.length m3] 44)
                  refine hK.out _ _ (hS _ tw5) (fun _ => ?_)
                  clear hK K
                  generalize hw5 : w1.alloc _ = w5 at sa5 sb5 tw5 ⊢
                  clear hw5
                  obtain ⟨gb5, hgb5⟩ : ∃ gb5, gb5 = w1.heap.size := ⟨_, rfl⟩; rw [← hgb5] at sb5 ⊢; clear hgb5
                  refine one_ (i := 7) (N := some 54) #[true, true, true, true, true, true, true, true, true, true, true, true, true, true, true, false, false, false] rfl rfl (by kernel_rfl) (by decide) (fun K hK => ?_)
                  refine step_append_stage W.heap.size (by rfl) (.tmp 47) (.tmp 53) 26 22 (.slice none 0 0) 1 24 rfl Tryz.underlying26 info22 rfl (by decide) u14 j xsA [.slice S0 it.f0.length s0] ga1 undef sa5 rfl rfl rfl hsv hbA hjm hbase (tw5).size ?_
                  intro va6 w6 sa6 hg hty
                  have sb6 := Stage.grown (sb5) hg hty (by decide)
                  have tw6 := Two.grown (tw5) hg (.inl rfl)
                  clear hg hty
                  refine hK.out _ _ (hS _ tw6) (fun _ => ?_)
                  clear hK K
                  refine norm_ (a' := ?_) ?_ ?_
                  rotate_left
                  · show Act.put _ (some 54) _ = _
                    simp only [Act.put, List.setIfInBounds_toArray, List.set_cons_zero, List.set_cons_succ]
                    rfl
                  refine one_ (i := 15) (N := some 62) #[true, true, true, true, true, true, true, true, true, true, true, true, true, true, true, true, false, false] rfl rfl (by kernel_rfl) (by decide) (fun K hK => ?_)
                  refine step_append_stage W.heap.size (by rfl) (.tmp 55) (.tmp 61) 56 44 (.agg #[.bool false, .slice none 0 0, .slice none 0 0]) 3 56 rfl Tryz.underlying56 info44 rfl (by decide) u15 j xsB [.bool it.f1.f0.f0, .slice M2 it.f1.f0.f1.length m2, .slice M3 it.f1.f1.length m3] gb5 undef sb6 rfl rfl rfl hmv hbB hjm hbase (tw6).size ?_
                  intro vb7 w7 sb7 hg hty
                  have sa7 := Stage.grown (sa6) hg hty (by decide)
                  have tw7 := Two.grown (tw6) hg (.inr rfl)
                  clear hg hty
                  refine hK.out _ _ (hS _ tw7) (fun _ => ?_)
                  clear hK K
                  refine norm_ (a' := ?_) ?_ ?_
                  rotate_left
                  · show Act.put _ (some 62) _ = _
                    simp only [Act.put, List.setIfInBounds_toArray, List.set_cons_zero, List.set_cons_succ]
                    rfl
                  exact hCont (va6, vb7, ga1, gb5) _ ⟨sa7, sb7, tw7⟩
              · skip
                go_simp
                have hz8 : WR.heap.size ≤ WR.heap.size := (tw0).size
                have sb8 := Stage.built (v'' := undef) (stB) hz8
                have sa8 := Stage.alloc (stA) (.cells #[.bool it.f1.f0.f0, .slice M2 it.f1.f0.f1.length m2, .slice M3 it.f1.f1.length m3] 44)
                have tw8 := Two.alloc (tw0) (.cells #[.bool it.f1.f0.f0, .slice M2 it.f1.f0.f1.length m2, .slice M3 it.f1.f1.length m3] 44)
                refine hK.out _ _ (hS _ tw8) (fun _ => ?_)
                clear hK K
                generalize hw8 : WR.alloc _ = w8 at sa8 sb8 tw8 ⊢
                clear hw8
                obtain ⟨gb8, hgb8⟩ : ∃ gb8, gb8 = WR.heap.size := ⟨_, rfl⟩; rw [← hgb8] at sb8 ⊢; clear hgb8
                refine one_ (i := 6) (N := some 53) #[true, true, true, true, true, true, true, false, true, true, true, true, true, true, true, false, false, false] rfl rfl (by kernel_rfl) (by decide) (fun K hK => ?_)
                go_simp
                have hz9 : WR.heap.size ≤ w8.heap.size := (tw8).size
                have sa9 := Stage.built (v'' := undef) (sa8) hz9
                have sb9 := Stage.alloc (sb8) (.cells #[.slice S0 it.f0.length s0] 22)
                have tw9 := Two.alloc (tw8) (.cells #[.slice S0 it.f0.length s0] 22)
                refine hK.out _ _ (hS _ tw9) (fun _ => ?_)
                clear hK K
                generalize hw9 : w8.alloc _ = w9 at sa9 sb9 tw9 ⊢
                clear hw9
                obtain ⟨ga9, hga9⟩ : ∃ ga9, ga9 = w8.heap.size := ⟨_, rfl⟩; rw [← hga9] at sa9 ⊢; clear hga9
                refine one_ (i := 7) (N := some 54) #[true, true, true, true, true, true, true, true, true, true, true, true, true, true, true, false, false, false] rfl rfl (by kernel_rfl) (by decide) (fun K hK => ?_)
                refine step_append_stage W.heap.size (by rfl) (.tmp 47) (.tmp 53) 26 22 (.slice none 0 0) 1 24 rfl Tryz.underlying26 info22 rfl (by decide) u14 j xsA [.slice S0 it.f0.length s0] ga9 undef sa9 rfl rfl rfl hsv hbA hjm hbase (tw9).size ?_
                intro va10 w10 sa10 hg hty
                have sb10 := Stage.grown (sb9) hg hty (by decide)
                have tw10 := Two.grown (tw9) hg (.inl rfl)
                clear hg hty
                refine hK.out _ _ (hS _ tw10) (fun _ => ?_)
                clear hK K
                refine norm_ (a' := ?_) ?_ ?_
                rotate_left
                · show Act.put _ (some 54) _ = _
                  simp only [Act.put, List.setIfInBounds_toArray, List.set_cons_zero, List.set_cons_succ]
                  rfl
                refine one_ (i := 15) (N := some 62) #[true, true, true, true, true, true, true, true, true, true, true, true, true, true, true, true, false, false] rfl rfl (by kernel_rfl) (by decide) (fun K hK => ?_)
                refine step_append_stage W.heap.size (by rfl) (.tmp 55) (.tmp 61) 56 44 (.agg #[.bool false, .slice none 0 0, .slice none 0 0]) 3 56 rfl Tryz.underlying56 info44 rfl (by decide) u15 j xsB [.bool it.f1.f0.f0, .slice M2 it.f1.f0.f1.length m2, .slice M3 it.f1.f1.length m3] gb8 undef sb10 rfl rfl rfl hmv hbB hjm hbase (tw10).size ?_
                intro vb11 w11 sb11 hg hty
                have sa11 := Stage.grown (sa10) hg hty (by decide)
                have tw11 := Two.grown (tw10) hg (.inr rfl)
                clear hg hty
                refine hK.out _ _ (hS _ tw11) (fun _ => ?_)
                clear hK K
                refine norm_ (a' := ?_) ?_ ?_
                rotate_left
                · show Act.put _ (some 62) _ = _
                  simp only [Act.put, List.setIfInBounds_toArray, List.set_cons_zero, List.set_cons_succ]
                  rfl
                exact hCont (va10, vb11, ga9, gb8) _ ⟨sa11, sb11, tw11⟩
            rintro ⟨vA', vB', ga, gb⟩ w9 ⟨hA9, hB9, hT9⟩
            dsimp only at hA9 hB9
            have HA9 := Aside0.mk hA9
            have HB9 := Aside0.mk hB9
            have HT9 := Aside0.mk hT9
            have hS9 := hS _ hT9
            have hK9 : Below W.heap.size W w9 := ⟨hT9.os.trans HKW.out.os, hT9.tape.trans HKW.out.tape, hT9.output.trans HKW.out.output, Nat.le_trans hbase hT9.size, fun b hb => (hT9.block b (Nat.lt_of_lt_of_le hb hbase) (fun e => by have := own_base HA.out _ e.symm; omega) (fun e => by have := own_base HBB.out _ e.symm; omega)).trans (HKW.out.block b hb)⟩
            have HK9 := Aside0.mk hK9
            clear hA9 hB9 hT9 hS tw0 stA stB hHeld hK9
            refine norm_ (a' := ?_) ?_ ?_
            rotate_left
            · simp only [putAll, Act.put, List.setIfInBounds_toArray, List.set_cons_zero, List.set_cons_succ]
              rfl
            refine one_ (i := 16) (N := some 14) #[true, true, true, true, true, true, true, true, true, true, true, true, true, true, true, true, true, false] rfl rfl (by kernel_rfl) (by decide) (fun K hK => ?_)
            go_simp
            refine hK.out _ _ hS9 (fun _ => ?_)
            clear hK K
            refine one_ (i := 17) (N := some 15) #[true, true, true, true, true, true, true, true, true, true, true, true, true, true, true, true, true, true] rfl rfl (by kernel_rfl) (by decide) (fun K hK => ?_)
            go_simp
            refine hK.out _ _ hS9 (fun _ => ?_)
            clear hK K hS9
            refine done_ (by kernel_rfl) ?_
            gi_wp2
            go_roundw
            case rel =>
              refine ⟨j + 1, xsA ++ [.slice S0 it.f0.length s0], xsB ++ [.bool it.f1.f0.f0, .slice M2 it.f1.f0.f1.length m2, .slice M3 it.f1.f1.length m3], hltj, by go_num, ⟨HA9.out.1⟩, ⟨?_⟩, ⟨HB9.out.1⟩, ⟨?_⟩, HK9⟩
              · rw [List.take_succ_eq_append_getElem hxj, List.map_append, List.map_singleton, HII.out, HIT.out]
                exact HRA.out.snoc ⟨S0, s0, rfl, HG.out.1, HG.out.2.1⟩ rfl
              · rw [List.take_succ_eq_append_getElem hxj, List.map_append, List.map_singleton, HII.out, HIT.out]
                exact HRB.out.snoc (k44_mk W it.f1 HG.out.2.2.1 HG.out.2.2.2.1 HG.out.2.2.2.2.1 HG.out.2.2.2.2.2) rfl
            case measure => simp [intOf]; omega
          · obtain rfl : j = nn := by omega
            have hxn : xl.take j = xl := List.take_of_length_le (by rw [HX.out.1]; exact Nat.le_refl _)
            have hRA := HRA.out
            have hRB := HRB.out
            rw [hxn] at hRA hRB
            obtain ⟨LA, hLA⟩ : ∃ LA, (xl.map fun i => (rd_T150 l0 i).f0) = LA := ⟨_, rfl⟩
            obtain ⟨LB, hLB⟩ : ∃ LB, (xl.map fun i => (rd_T150 l0 i).f1) = LB := ⟨_, rfl⟩
            have hnA : LA.length = j := by rw [← hLA, List.length_map, HX.out.1]
            have hnB : LB.length = j := by rw [← hLB, List.length_map, HX.out.1]
            rw [hLA] at hRA
            rw [hLB] at hRB
            obtain ⟨SA, sa, rfl, lA, cA⟩ := OwnRow.reads (show OwnRow ((Kd.slice 3 (Kd.int .i64)).K wr) 22 1 wr W.heap.size u14 LA from ⟨xsA, by rw [hnA]; exact HA.out, hRA.imp_ (fun _ _ hp => (Kd.slice 3 (Kd.int .i64)).K_below HK.out hp)⟩)
            obtain ⟨SB, sb, rfl, lB, cB⟩ := OwnRow.reads (show OwnRow (k44.K wr) 44 3 wr W.heap.size u15 LB from ⟨xsB, by rw [hnB]; exact HBB.out, hRB.imp_ (fun _ _ hp => k44.K_below HK.out hp)⟩)
            obtain ⟨b, hb, h2⟩ := Option.bind_eq_some_iff.1 HST.out.1
            rw [hLA] at hb
            have y7 := mass_Sets.cell (blk_below' HB.out.2.2.1 HK.out)
            have y5 := mass_Sets.cell (blk_below' HB.out.2.1 HK.out)
            have HCA := Aside0.mk (And.intro cA lA)
            have HCB := Aside0.mk (And.intro cB lB)
            have HWB := Aside0.mk hb
            have H2 := Aside0.mk h2
            have HLB := Aside0.mk hLB
            have hfin : ∀ (w9 : World), W.grownBy w9 (some w1.heap.size) → mass_sum.Out w1.heap.size w9 (fun i => Wd.heap.size ≤ i ∧ ¬ (O₁ i ∨ Book w5 i) ∧ i ≠ w1.heap.size) t → Keeps (fun i => False ∨ O₁ i ∨ Book w5 i) W w9 ∧ mass_sum.Has Wd.heap.size W4 w1.heap.size k want l0 ⟨⟨p1, p2⟩, p3⟩ (fun i => O₁ i ∨ Book w5 i) (pre ++ [(xl, .slice (some ⟨gg, 0, none⟩) j j)]) w9 := fun w9 hg ho =>
              ⟨⟨hg.size, fun i hi hl => hg.block i hl (fun e => by injection e with e; rcases hi with hi | hi; exact hi.elim; have := HI.out.hO i hi; omega)⟩, ⟨grownBy_trans HI.out.g hg, HI.out.hO, t, HST.out.2, ho⟩⟩
            have HFIN := Aside0.mk hfin
            clear hxn hRA hRB cA lA cB lB hb h2 hLA hLB hnA hnB hfin
            gi_wp2_with fail
            refine ⟨trivial, ?_⟩
            refine (CallsIn.inRound l' (callsIn_wide.2 (HW.out SA sa LA b wr HCA.out.1 HCA.out.2 HWB.out))).mono ?_
            rintro e w6 ⟨rfl, hb6⟩
            have hb6' : Below W.heap.size W w6 := HK.out.trans (hb6.mono HK.out.size)
            have HB6 := Aside0.mk (And.intro hb6 hb6')
            clear hb6 hb6' y7 y5
            cases b with
            | false =>
              have h2 := H2.out
              rw [if_neg (by decide)] at h2
              obtain rfl := Option.some.inj h2
              clear h2 H2
              gi_wp2
              exact HFIN.out _ (grownBy_of_below HB6.out.2 _) (HO.out.step (HB6.out.2.block _ (by have := hlt; have := HI.out.g.size; omega)) (fun i hi hl => HB6.out.2.block i hl) (fun i hi _ => hi))
            | true =>
              have h2 := H2.out
              rw [if_pos rfl, HLB.out] at h2
              obtain ⟨⟨m1, m2, m3, m4⟩, hm, h3⟩ := Option.bind_eq_some_iff.1 h2
              obtain ⟨⟨t1, t2, t3, t4⟩, ha, h4⟩ := Option.bind_eq_some_iff.1 h3
              obtain rfl := Option.some.inj h4
              have HM := Aside0.mk hm
              have HAD := Aside0.mk ha
              have z12 := blk_below' HB.out.2.2.2 HB6.out.2
              have Z12 := Aside0.mk z12
              clear h2 hm h3 ha h4 H2 z12
              gi_wp2_with fail
              refine ⟨trivial, ?_⟩
              refine (CallsIn.inRound l' (callsIn_wide.2 (ratio_Mul.calls k SB sb LB m1 m2 m3 m4 w6 (Kd.C_below HCB.out.1 HB6.out.1) HCB.out.2 HM.out))).mono ?_
              rintro e w7 ⟨v1, v2, rfl, ⟨X1, x1, rfl, k1, f1⟩, ⟨X2, x2, rfl, k2, f2⟩, hb7⟩
              have q12 := q_old (.cells #[.bool m1, .slice X1 m2.length x1, .slice X2 m3.length x2] 44) (mass_Sets.cell (blk_below' Z12.out hb7))
              have HV := Aside0.mk (And.intro k1 (And.intro f1 (And.intro k2 (And.intro f2 hb7))))
              clear k1 f1 k2 f2 hb7
              gi_wp2_with fail
              have hb8 : Below W.heap.size W (w7.alloc (.cells #[.bool m1, .slice X1 m2.length x1, .slice X2 m3.length x2] 44)) := below_alloc (HB6.out.2.trans (HV.out.2.2.2.2.mono HB6.out.2.size)) _
              obtain ⟨A1, a1, A2, a2, ob, ol1, of1, ol2, of2⟩ := HO.out
              have hbo8 := blk_below' ob hb8
              have hadd := mass_sum.add k w1.heap.size s ⟨⟨m1, m2⟩, m3⟩ ⟨⟨t1, t2⟩, t3⟩ t4 A1 a1 A2 a2 X1 x1 X2 x2 _ hbo8 ol1 (Kd.C_below (Kd.F_now of1) hb8) ol2 (Kd.C_below (Kd.F_now of2) hb8) HV.out.1 (Kd.F_now (Kd.F_alloc HV.out.2.1 _)) HV.out.2.2.1 (Kd.F_now (Kd.F_alloc HV.out.2.2.2.1 _)) HAD.out
              have HADD := Aside0.mk hadd
              have HB8 := Aside0.mk hb8
              clear hadd hb8 hbo8 ob ol1 of1 ol2 of2
              refine ⟨trivial, ?_⟩
              refine (CallsIn.inRound l' (callsIn_wide.2 HADD.out)).mono ?_
              rintro e w9 ⟨rfl, hg9, D1, d1, D2, d2, hbk, j1, h1, j2, h2⟩
              have HG9 := Aside0.mk (And.intro hg9 (And.intro hbk (And.intro j1 (And.intro h1 (And.intro j2 h2)))))
              clear hg9 hbk j1 h1 j2 h2 q12
              gi_wp2
              have h8 := HB8.out.size
              refine HFIN.out _ (grownBy_trans (grownBy_of_below HB8.out _) HG9.out.1) ⟨D1, d1, D2, d2, HG9.out.2.1, HG9.out.2.2.1, Kd.F_mono HG9.out.2.2.2.1 ?_, HG9.out.2.2.2.2.1, Kd.F_mono HG9.out.2.2.2.2.2 ?_⟩
              · intro i hi
                have h1 := HI.out.g.size
                have h2 := HE.out.2.2.2.2.2.2
                refine ⟨by omega, fun ho => ?_, by omega⟩
                have := HN.out.2.2.1 i ho
                have := HN.out.2.2.2.2.1
                omega
              · intro i hi
                have h1 := HI.out.g.size
                have h2 := HE.out.2.2.2.2.2.2
                refine ⟨by omega, fun ho => ?_, by omega⟩
                have := HN.out.2.2.1 i ho
                have := HN.out.2.2.2.2.1
                omega
      · intro O xs W6 hO0 hS hI hD
        obtain ⟨s, hs, A1, x1, A2, x2, hbk, l1, f1, l2, f2⟩ := hI.val
        have hgz : s = zz := by
          have h1 : xs.map (·.1) = Tup.all l0.length nn := hS
          rw [h1, HZ.out] at hs
          exact (Option.some.inj hs).symm
        subst hgz
        have hblk : ∀ i, i < w1.heap.size → W6.heap[i]? = w1.heap[i]? := fun i hi => (hI.g.block i (by have := H4.out.2.2.2.2.2; omega) (by intro e; injection e; omega)).trans (H4.out.1.block i hi)
        have h3 : W6.heap[w.heap.size + 1 + 1 + 1]? = some (.cells #[.bool false, .slice none 0 0, .slice none 0 0] 44) := (hblk _ (blk_lt' HE.out.2.2.2.1)).trans HE.out.2.2.2.1
        have hlt3 := blk_lt' HE.out.2.2.2.1
        have p0 := cells_at (i := 0) hbk rfl
        have p1' := cells_at (i := 1) hbk rfl
        have p2' := cells_at (i := 2) hbk rfl
        have q0 := cells_at (i := 0) h3 rfl
        have q1 := cells_at (i := 1) h3 rfl
        have q2 := cells_at (i := 2) h3 rfl
        have r0 := cells_frozen h3 0
        have r1 := cells_frozen h3 1
        have r2 := cells_frozen h3 2
        have z0 := q_setne (b := w.heap.size + 1 + 1 + 1) (i := 1) (b' := w.heap.size + 1 + 1 + 1) (i' := 0) (v := .bool s.f0.f0) (.inr (by decide)) q1
        have z1 := q_setne (b := w.heap.size + 1 + 1 + 1) (i := 2) (b' := w.heap.size + 1 + 1 + 1) (i' := 1) (v := .slice A1 s.f0.f1.length x1) (.inr (by decide)) (q_setne (b := w.heap.size + 1 + 1 + 1) (i := 2) (b' := w.heap.size + 1 + 1 + 1) (i' := 0) (v := .bool s.f0.f0) (.inr (by decide)) q2)
        have HI := Aside0.mk hI
        have HV := Aside0.mk (And.intro l1 (And.intro f1 (And.intro l2 f2)))
        have HD := Aside0.mk hD
        have HB := Aside0.mk hblk
        have H3 := Aside0.mk h3
        clear hI l1 f1 l2 f2 hD hblk hs hS hO0 h3
        gi_wp2
        have hne : w.heap.size + 1 + 1 + 1 ≠ w5.heap.size := by have := H4.out.2.2.2.2.1; omega
        have H3' := cells_set (cells_set (cells_set H3.out 0 (.bool s.f0.f0)) 1 (.slice A1 s.f0.f1.length x1)) 2 (.slice A2 s.f1.length x2)
        have hD' := blk_far (a := ⟨w.heap.size + 1 + 1 + 1, 2, none⟩) (blk_far (a := ⟨w.heap.size + 1 + 1 + 1, 1, none⟩) (blk_far (a := ⟨w.heap.size + 1 + 1 + 1, 0, none⟩) HD.out hne.symm (.bool s.f0.f0)) hne.symm (.slice A1 s.f0.f1.length x1)) hne.symm (.slice A2 s.f1.length x2)
        have hbE : Below w.heap.size w (((W6.setCell ⟨w.heap.size + 1 + 1 + 1, 0, none⟩ (.bool s.f0.f0)).setCell ⟨w.heap.size + 1 + 1 + 1, 1, none⟩ (.slice A1 s.f0.f1.length x1)).setCell ⟨w.heap.size + 1 + 1 + 1, 2, none⟩ (.slice A2 s.f1.length x2)) := by
          refine (((?_ : Below w.heap.size w W6).setCell (p := ⟨w.heap.size + 1 + 1 + 1, 0, none⟩) (by show w.heap.size ≤ w.heap.size + 1 + 1 + 1; omega) _).setCell (p := ⟨w.heap.size + 1 + 1 + 1, 1, none⟩) (by show w.heap.size ≤ w.heap.size + 1 + 1 + 1; omega) _).setCell (p := ⟨w.heap.size + 1 + 1 + 1, 2, none⟩) (by show w.heap.size ≤ w.heap.size + 1 + 1 + 1; omega) _
          exact (HE.out.2.2.2.2.1.trans (H4.out.1.mono HE.out.2.2.2.2.1.size)).grown HI.out.g (by have := HE.out.2.2.2.2.1.size; omega) (fun j hj => by injection hj with hj; have := HE.out.2.2.2.2.1.size; omega)
        have hF : ∀ {A : Option Addr} {xs : List Int}, Kd.F (Kd.int .u64) W6 (fun i => Wd.heap.size ≤ i ∧ ¬ (O i ∨ Book w5 i) ∧ i ≠ w1.heap.size) A xs.length xs → Kd.F (Kd.int .u64) (((W6.setCell ⟨w.heap.size + 1 + 1 + 1, 0, none⟩ (.bool s.f0.f0)).setCell ⟨w.heap.size + 1 + 1 + 1, 1, none⟩ (.slice A1 s.f0.f1.length x1)).setCell ⟨w.heap.size + 1 + 1 + 1, 2, none⟩ (.slice A2 s.f1.length x2)) (fun i => Wd.heap.size ≤ i ∧ ¬ (O i ∨ Book w5 i) ∧ i ≠ w1.heap.size) A xs.length xs := fun {A xs} hf =>
          Kd.F_far (p := ⟨w.heap.size + 1 + 1 + 1, 2, none⟩) (Kd.F_far (p := ⟨w.heap.size + 1 + 1 + 1, 1, none⟩) (Kd.F_far (p := ⟨w.heap.size + 1 + 1 + 1, 0, none⟩) hf (fun i hi => by have h1 := hi.1; have h2 := HE.out.2.2.2.2.2.1; show i ≠ w.heap.size + 1 + 1 + 1; omega) _) (fun i hi => by have h1 := hi.1; have h2 := HE.out.2.2.2.2.2.1; show i ≠ w.heap.size + 1 + 1 + 1; omega) _) (fun i hi => by have h1 := hi.1; have h2 := HE.out.2.2.2.2.2.1; show i ≠ w.heap.size + 1 + 1 + 1; omega) _
        have g1 := hF HV.out.2.1
        have g2 := hF HV.out.2.2.2
        clear hF
        generalize ((W6.setCell ⟨w.heap.size + 1 + 1 + 1, 0, none⟩ (.bool s.f0.f0)).setCell ⟨w.heap.size + 1 + 1 + 1, 1, none⟩ (.slice A1 s.f0.f1.length x1)).setCell ⟨w.heap.size + 1 + 1 + 1, 2, none⟩ (.slice A2 s.f1.length x2) = WE at *
        refine leaves_collected (O := fun D => D = w5.heap.size) 3 [w5.heap.size] WE (fun D hD => by rw [List.mem_singleton] at hD; subst hD; exact ⟨rfl, hD'⟩) (List.nodup_cons.2 ⟨by simp, List.nodup_nil⟩) (fun W' ht => ?_)
        refine ⟨.tuple #[.agg #[.bool s.f0.f0, .slice A1 s.f0.f1.length x1, .slice A2 s.f1.length x2], .int .i64 0], mass_sum.res (w.heap.size + 1 + 1 + 1) 0 _ _ _ rfl rfl ((ht.block _ (blk_lt' H3') hne).trans H3'), _, _, rfl, ⟨A1, x1, rfl, HV.out.1, ?_⟩, ⟨A2, x2, rfl, HV.out.2.2.1, ?_⟩, hbE.trans (ht.below (fun i hi => by subst hi; have := H4.out.2.2.2.2.1; have := HE.out.2.2.2.2.1.size; omega) hbE.size)⟩
        · exact Kd.F_mono (Kd.F_step g1 (fun i hi hl => ht.block i hl (fun e => hi.2.1 (.inr (.inl e))))) (fun i hi => by have h1 := hi.1; have h2 := HE.out.2.2.2.2.2.1; show w.heap.size ≤ i; omega)
        · exact Kd.F_mono (Kd.F_step g2 (fun i hi hl => ht.block i hl (fun e => hi.2.1 (.inr (.inl e))))) (fun i hi => by have h1 := hi.1; have h2 := HE.out.2.2.2.2.2.1; show w.heap.size ≤ i; omega)
      · intro O c5 pre W6 _ _ hF _
        exact hF.elim
  · have h := H.out
    rw [mass_sum.f, if_neg hl] at h
    obtain ⟨rfl, rfl⟩ := Prod.mk.inj (Option.some.inj h)
    have hdl : decide (4096 < (l0.length : Int)) = true := by simp; omega
    clear h H
    refine callsIn_of_wp Tryz.func64 rfl trivial ?_ rfl
    simp only [Tryz.ntmps64, List.size_toArray, List.length_cons, List.length_nil, Nat.reduceAdd, Nat.reduceSub, Array.replicate_succ, Array.replicate_zero, List.push_toArray, List.append_toArray, List.nil_append, List.cons_append]
    gi_wp2
    refine ⟨trivial, ?_⟩
    gi_wp2
    refine bodyPost_ret (v := .tuple #[.agg #[.bool false, .slice none 0 0, .slice none 0 0], .int .i64 4]) (by exact mass_sum.res (w.heap.size + 1 + 1 + 1) 4 _ _ _ rfl rfl (mass_sum.box3 w _ _ _ _)) rfl ?_
    exact ⟨_, _, rfl, ⟨none, 0, rfl, Nat.le_refl _, Kd.F_nil _ _ _⟩, ⟨none, 0, rfl, Nat.le_refl _, Kd.F_nil _ _ _⟩, below_alloc (below_alloc (below_alloc (below_alloc (Below.refl _ _) _) _) _) _⟩
end
end Go.Proofs.YtjeepapdaciieaaGreat.X
namespace Go.Proofs.YtjeepapdaciieaaGreat.X
open Go.RowKit Go.Proofs.YtjeepapdaciieaaGreatW.PrintWords Go.Proofs.YtjeepapdaciieaaGreatW.PrintLast Go.Proofs.YtjeepapdaciieaaGreatW.PrintMore Go.Maps
section
namespace Peel
def raw (v : Value) : Option (DataW Value × List MemPlace) := some (.held v, [])
abbrev key (s : Int) : Lit := .int .i64 s
theorem law : Keyed Tryz.prog 3 := int_keyed Tryz.underlying3
theorem wf {s : Int} (h0 : 0 ≤ s) (h1 : s ≤ 65536) : (Lit.int .i64 s).wf = true := by
  simp [Lit.wf, IntKind.min, IntKind.max, IntKind.signed, IntKind.bits]
  omega
theorem keyed {s : Int} (h0 : 0 ≤ s) (h1 : s ≤ 65536) : keyOf Tryz.prog 3 (.int .i64 s) = some (key s) := Maps.keyOf_int_mk Tryz.underlying3 (wf h0 h1)
theorem isKey (s : Int) : WideAt.IsKeyLit (key s) := by simp [WideAt.IsKeyLit]
def MapAt (W : World) (b n : Nat) (L : Int → Bool) (V : Int → Value) : Prop :=
  ∃ D : DataW Value, W.ownsMap Tryz.prog 3 raw b n D ∧ ∀ s, has D (key s) = L s ∧ (L s = true → ∀ z, D.atKey (key s) z = .held (.agg #[V s]))
section
variable {W W' : World} {b n : Nat} {L : Int → Bool} {V : Int → Value} {s : Int}
theorem MapAt.made (W : World) (V : Int → Value) : MapAt (W.alloc (.map #[] 0)) W.heap.size 0 (fun _ => false) V := ⟨.map [], W.ownsMap_made _ _ _, fun _ => ⟨rfl, by simp⟩⟩
theorem MapAt.kept {row : Option Nat} (h : MapAt W b n L V) (hg : W.grownBy W' row) (hne : some b ≠ row) : MapAt W' b n L V := by obtain ⟨D, h, k⟩ := h; exact ⟨D, h.kept hg hne, k⟩
theorem MapAt.same (h : MapAt W b n L V) (he : W'.heap[b]? = W.heap[b]?) : MapAt W' b n L V := by
  obtain ⟨D, ⟨es, c, hb, r⟩, k⟩ := h
  exact ⟨D, ⟨es, c, he.trans hb, r⟩, k⟩
theorem tighten {m : Nat} {D : DataW Value} (h : W.ownsMap Tryz.prog 3 raw b m D) (hs : size D ≤ n) : W.ownsMap Tryz.prog 3 raw b n D := by
  obtain ⟨es, c, hb, F, _, rfl⟩ := h
  exact ⟨es, c, hb, F, by simpa [Maps.size, length_sorted] using hs, rfl⟩
theorem turned_size {b : Nat} (h : W.mapTurned W' b) : W'.heap.size = W.heap.size := by
  obtain ⟨es, c, es', c', _, rfl⟩ := h
  simp [ChangeMaps.setBlock]
theorem MapAt.put (h : MapAt W b n L V) (hn : n < maxLen) (h0 : 0 ≤ s) (h1 : s ≤ 65536) (v : Value) :
    ∃ W', (Instr.mapUpdate 189 (.map (some b)) (.int .i64 s) (.agg #[v])).run Tryz.prog W = .ok () W' ∧ MapAt W' b (if L s = true then n else n + 1) (fun x => L x || decide (x = s)) (fun x => if x = s then v else V x) ∧ W.mapTurned W' b := by
  obtain ⟨D, hD, hk⟩ := h
  obtain ⟨W', hrun, hown, hg⟩ := hD.store law Tryz.underlying189 hn (keyed h0 h1) (val := .agg #[v]) (d := .held (.agg #[v])) (ps := []) rfl
  refine ⟨W', hrun, ⟨_, tighten hown ?_, fun x => ?_⟩, hg⟩
  · rw [size_put (hD.tidy law), (hk s).1]
    have := hD.size_le
    split <;> omega
  · by_cases hx : x = s
    · subst hx
      exact ⟨by rw [has_put_same hD.isMap (isKey _)]; simp, fun _ z => by rw [atKey_put_same hD.isMap (isKey _)]; simp⟩
    · have hne : key x ≠ key s := fun e => hx (by injection e)
      exact ⟨by rw [has_put_other hne, (hk x).1]; simp [hx], fun hl z => by rw [atKey_put_other hne, (hk x).2 (by simpa [hx] using hl)]; simp [hx]⟩
theorem MapAt.set (h : MapAt W b n L V) (hn : n < maxLen) (h0 : 0 ≤ s) (h1 : s ≤ 65536) (hl : L s = true) (v : Value) :
    ∃ W', (Instr.mapUpdate 189 (.map (some b)) (.int .i64 s) (.agg #[v])).run Tryz.prog W = .ok () W' ∧ MapAt W' b n L (fun x => if x = s then v else V x) ∧ W.grownBy W' (some b) := by
  obtain ⟨W', hr, hm, hg⟩ := h.put hn h0 h1 v
  rw [if_pos hl, show (fun x => L x || decide (x = s)) = L from funext fun x => by by_cases hx : x = s <;> simp [hx, hl]] at hm
  exact ⟨W', hr, hm, hg.grown⟩
theorem makes (K : Int) (W : World) : (Instr.makeMap 189 (some (.int .i64 K))).run Tryz.prog W = .ok (.map (some W.heap.size)) (W.alloc (.map #[] 0)) := by
  simp [Instr.makeMap, run_underlying Tryz.underlying189, asInt, asIntOf, Result.andThen]
theorem MapAt.keys (h : MapAt W b n L V) {l : List Int} (hn : l.Nodup) (hl : ∀ x, x ∈ l ↔ L x = true) (hs : l.Pairwise (· < ·)) : ∃ D : DataW Value, W.ownsMap Tryz.prog 3 raw b n D ∧ ∀ ss : List Int, ss.Perm (intKeys D) → ss.mergeSort (fun x y => decide (x ≤ y)) = l ∧ ss.length = l.length := by
  obtain ⟨D, hD, hk⟩ := h
  have hc : CollectedI D (fun _ => false) l := ⟨hn, fun x => by rw [hl x, (hk x).1]; simp⟩
  have hp := hc.perm hD law Tryz.underlying3 (fun _ => rfl)
  refine ⟨D, hD, fun ss h => ⟨?_, (h.trans hp.symm).length_eq⟩⟩
  have h1 : ss.mergeSort leI = l.mergeSort leI := mergeSort_of_perm_i (h.trans hp.symm)
  have h2 : l.mergeSort leI = l := List.mergeSort_of_pairwise (hs.imp fun h => by simp only [leI, decide_eq_true_eq]; omega)
  exact h1.trans h2
theorem field191 (W : World) (v : Value) : (Instr.field 191 (.agg #[v]) 0).run Tryz.prog W = .ok v W := by
  simp [Instr.field, run_underlying Tryz.underlying191, asAgg, part, Tryz.isAgg22, Result.andThen]
theorem zero191 (W : World) : (zeroValue 191).run Tryz.prog W = .ok (.agg #[.slice none 0 0]) W := Tryz.zeroValue191 W
theorem MapAt.look (h : MapAt W b n L V) (h0 : 0 ≤ s) (h1 : s ≤ 65536) (hl : L s = true) : (Instr.lookup 189 (.map (some b)) (.int .i64 s) false).run Tryz.prog W = .ok (.agg #[V s]) W := by
  obtain ⟨D, hD, hk⟩ := h
  obtain ⟨v, ps, hrun, hv⟩ := hD.lookup law Tryz.underlying189 (zero191 W) rfl (keyed h0 h1)
  rw [(hk s).2 hl] at hv
  simp only [raw, Option.some.injEq, Prod.mk.injEq, DataW.held.injEq] at hv
  rw [hrun, hv.1]
theorem MapAt.look_ok (h : MapAt W b n L V) (h0 : 0 ≤ s) (h1 : s ≤ 65536) : (Instr.lookup 189 (.map (some b)) (.int .i64 s) true).run Tryz.prog W = .ok (.tuple #[.agg #[if L s = true then V s else .slice none 0 0], .bool (L s)]) W := by
  obtain ⟨D, hD, hk⟩ := h
  obtain ⟨v, ps, hrun, hv⟩ := hD.look_ok law Tryz.underlying189 (zero191 W) rfl (keyed h0 h1)
  rw [hrun, (hk s).1]
  by_cases hl : L s = true
  · rw [(hk s).2 hl] at hv
    simp only [raw, Option.some.injEq, Prod.mk.injEq, DataW.held.injEq] at hv
    rw [if_pos hl, hv.1]
  · rw [atKey_of_not_has (by rw [(hk s).1]; simpa using hl)] at hv
    simp only [raw, Option.some.injEq, Prod.mk.injEq, DataW.held.injEq] at hv
    rw [if_neg hl, hv.1]
theorem MapAt.drop (h : MapAt W b n L V) (h0 : 0 ≤ s) (h1 : s ≤ 65536) (ty : TypeId) :
    ∃ W', (Builtin.delete_ #[189, 3] ty #[.map (some b), .int .i64 s]).run Tryz.prog W = .ok (.tuple #[]) W' ∧ MapAt W' b n (fun x => L x && !(x == s)) V ∧ W.grownBy W' (some b) := by
  obtain ⟨D, hD, hk⟩ := h
  obtain ⟨W', hrun, hown, ht⟩ := hD.drop law Tryz.underlying189 (keyed h0 h1) ty
  refine ⟨W', hrun, ⟨_, hown, fun x => ?_⟩, ht.grown⟩
  by_cases hx : x = s
  · subst hx
    exact ⟨by rw [has_del_same]; simp, fun hl => by simp at hl⟩
  · have hne : key x ≠ key s := fun e => hx (by injection e)
    exact ⟨by rw [has_del_other hne, (hk x).1]; simp [hx], fun hl z => by rw [atKey_del_other hne, (hk x).2 (by simpa [hx] using hl)]⟩
end
def ins (ps : List (Int × Int)) (s : Int) : List Int := (ps.filter fun p => p.1 == s).map (·.2)
theorem ins_snoc (ps : List (Int × Int)) (s i x : Int) : ins (ps ++ [(s, i)]) x = if x = s then ins ps s ++ [i] else ins ps x := by
  unfold ins
  rw [List.filter_append, List.map_append]
  by_cases h : x = s
  · subst h; simp
  · have h2 : (s == x) = false := by simpa using fun e => h e.symm
    simp [h, h2]
theorem ins_len (ps : List (Int × Int)) (s : Int) : (ins ps s).length ≤ ps.length := by unfold ins; rw [List.length_map]; exact List.length_filter_le _ _
def lone (sets : List (List Int)) (L : Int → Bool) (many q : List Int) (i : Int) : List Int := if rd many i = 1 then q ++ (rd_L1 sets i).filter L else q
theorem lone_len (sets : List (List Int)) (L : Int → Bool) (many q : List Int) (i : Int) : q.length ≤ (lone sets L many q i).length := by
  unfold lone
  split
  · simp
  · exact Nat.le_refl _
def less (sets : List (List Int)) (L : Int → Bool) : List Int → List Int → List Int → List Int × List Int
  | [], many, q => (many, q)
  | i :: r, many, q => less sets L r (many.set i.toNat (wrap64 (rd many i - 1))) (lone sets L (many.set i.toNat (wrap64 (rd many i - 1))) q i)
theorem less_len (sets : List (List Int)) (L : Int → Bool) : ∀ l many q, q.length ≤ (less sets L l many q).2.length
  | [], _, _ => Nat.le_refl _
  | _ :: r, _, _ => Nat.le_trans (lone_len _ _ _ _ _) (less_len sets L r _ _)
def go (sets : List (List Int)) (ps : List (Int × Int)) : Nat → (Int → Bool) → List Int → List Int → Option (Int → Bool)
  | 0, _, _, _ => none
  | _ + 1, L, _, [] => some L
  | n + 1, L, many, s :: q => if L s = true then (if (less sets (fun x => L x && !(x == s)) (ins ps s) many q).2.length ≤ 1099511627776 then go sets ps n (fun x => L x && !(x == s)) (less sets (fun x => L x && !(x == s)) (ins ps s) many q).1 (less sets (fun x => L x && !(x == s)) (ins ps s) many q).2 else none) else go sets ps n L many q
def first (sets : List (List Int)) (L : Int → Bool) (many : List Int) : Nat → List Int
  | 0 => []
  | n + 1 => lone sets L many (first sets L many n) (n : Int)
theorem first_len (sets : List (List Int)) (L : Int → Bool) (many : List Int) : ∀ n m, (first sets L many n).length ≤ (first sets L many (n + m)).length
  | _, 0 => Nat.le_refl _
  | n, m + 1 => Nat.le_trans (first_len sets L many n m) (lone_len _ _ _ _ _)
def pairs (sets : List (List Int)) : List (Int × Int) := sets.zipIdx.flatMap fun x => x.1.map fun s => (s, (x.2 : Int))
theorem pairs_snoc (sets : List (List Int)) (x : List Int) : pairs (sets ++ [x]) = pairs sets ++ x.map fun s => (s, (sets.length : Int)) := by
  unfold pairs
  rw [List.zipIdx_append, List.flatMap_append]
  simp
theorem pairs_take (sets : List (List Int)) (i : Nat) : (pairs (sets.take i)).length ≤ (pairs sets).length := by
  have h : pairs sets = pairs (sets.take i ++ sets.drop i) := by rw [List.take_append_drop]
  rw [h]
  unfold pairs
  rw [List.zipIdx_append, List.flatMap_append, List.length_append]
  exact Nat.le_add_right _ _
def start (kk : Int) (x : Int) : Bool := decide (0 ≤ x) && decide (x < kk)
def lens (sets : List (List Int)) : List Int := sets.map fun l => (l.length : Int)
def lensTo (sets : List (List Int)) (i : Nat) : List Int := lens (sets.take i) ++ List.replicate (sets.length - i) 0
theorem lensTo_zero (sets : List (List Int)) : lensTo sets 0 = List.replicate sets.length 0 := by simp [lensTo, lens]
theorem lensTo_all (sets : List (List Int)) : lensTo sets sets.length = lens sets := by simp [lensTo]
theorem lensTo_len (sets : List (List Int)) (i : Nat) (hi : i ≤ sets.length) : (lensTo sets i).length = sets.length := by simp [lensTo, lens]; omega
theorem lensTo_step (sets : List (List Int)) (i : Nat) (hi : i < sets.length) : (lensTo sets i).set i (sets[i].length : Int) = lensTo sets (i + 1) := by
  have h1 : (lens (sets.take i)).length = i := by simp [lens]; omega
  unfold lensTo
  rw [List.set_append, if_neg (by omega), h1, Nat.sub_self, show sets.length - i = (sets.length - (i + 1)) + 1 by omega, List.replicate_succ, List.set_cons_zero, List.take_succ_eq_append_getElem hi]
  simp only [lens, List.map_append, List.map_cons, List.map_nil, List.append_assoc, List.cons_append, List.nil_append]
theorem pairs_mem {sets : List (List Int)} {p : Int × Int} (h : p ∈ pairs sets) : 0 ≤ p.2 ∧ p.2 < sets.length := by
  unfold pairs at h
  rw [List.mem_flatMap] at h
  obtain ⟨x, hx, hp⟩ := h
  rw [List.mem_map] at hp
  obtain ⟨s, _, rfl⟩ := hp
  have := List.snd_lt_of_mem_zipIdx hx
  simp only
  omega
theorem ins_mem {sets : List (List Int)} {s i : Int} (h : i ∈ ins (pairs sets) s) : 0 ≤ i ∧ i < sets.length := by
  unfold ins at h
  rw [List.mem_map] at h
  obtain ⟨p, hp, rfl⟩ := h
  exact pairs_mem (List.mem_filter.1 hp).1
def Small (q : List Int) : Prop := ∀ s ∈ q, 0 ≤ s ∧ s ≤ 65536
theorem lone_small {sets : List (List Int)} {L : Int → Bool} {many q : List Int} {i : Int} (h : ∀ l ∈ sets, Small l) (hq : Small q) : Small (lone sets L many q i) := by
  unfold lone
  split
  · intro s hs
    rcases List.mem_append.1 hs with hs | hs
    · exact hq s hs
    · have hm := (List.mem_filter.1 hs).1
      unfold rd_L1 at hm
      rw [List.getD_eq_getElem?_getD] at hm
      cases hx : sets[i.toNat]? with
      | none => rw [hx] at hm; simp at hm
      | some l => rw [hx] at hm; exact h l (List.mem_of_getElem? hx) s hm
  · exact hq
theorem first_small {sets : List (List Int)} {L : Int → Bool} {many : List Int} (h : ∀ l ∈ sets, Small l) : ∀ n, Small (first sets L many n)
  | 0 => fun _ hs => by cases hs
  | n + 1 => lone_small h (first_small h n)
theorem go_sub (sets : List (List Int)) (ps : List (Int × Int)) : ∀ (n : Nat) (L : Int → Bool) (many q : List Int) (R : Int → Bool), go sets ps n L many q = some R → ∀ x, R x = true → L x = true
  | 0, _, _, _, _, h, _, _ => by rw [go] at h; cases h
  | n + 1, L, many, [], R, h, x, hx => by rw [go] at h; cases h; exact hx
  | n + 1, L, many, s :: q, R, h, x, hx => by
    rw [go] at h
    by_cases hs : L s = true
    · rw [if_pos hs] at h
      by_cases hl : (less sets (fun x => L x && !(x == s)) (ins ps s) many q).2.length ≤ 1099511627776
      · rw [if_pos hl] at h
        have := go_sub sets ps n _ _ _ R h x hx
        simp only [Bool.and_eq_true] at this
        exact this.1
      · rw [if_neg hl] at h; cases h
    · rw [if_neg hs] at h
      exact go_sub sets ps n _ _ _ R h x hx
def list (kk : Int) (L : Int → Bool) : List Int := ((List.range kk.toNat).map fun (i : Nat) => (i : Int)).filter L
theorem list_mem {K : Nat} {L : Int → Bool} {x : Int} : x ∈ list K L ↔ (0 ≤ x ∧ x < K) ∧ L x = true := by
  unfold list
  rw [List.mem_filter, List.mem_map]
  refine and_congr ⟨?_, fun h => ⟨x.toNat, List.mem_range.2 (by simp; omega), by omega⟩⟩ Iff.rfl
  rintro ⟨i, hi, rfl⟩
  have := List.mem_range.1 hi
  simp at this
  omega
theorem list_rises (K : Nat) (L : Int → Bool) : (list K L).Pairwise (· < ·) := by
  unfold list
  refine List.Pairwise.filter _ (List.pairwise_map.2 (List.pairwise_lt_range.imp fun h => ?_))
  omega
theorem list_nodup (K : Nat) (L : Int → Bool) : (list K L).Nodup := (list_rises K L).imp fun h => by omega
structure Core (w : World) (A1 : Option Addr) (c1 : Nat) (sets : List (List Int)) (n : Nat) (many : List Int) (L : Int → Bool) (V : Int → Value) (vq : Value) (W : World) : Prop where
  below : Below w.heap.size w W
  b0 : W.heap[w.heap.size]? = some (.cells #[.slice A1 sets.length c1] 26 (0, 0))
  map : MapAt W (w.heap.size + 1) n L V
  b2 : W.heap[w.heap.size + 2]? = some (.cells #[.map (some (w.heap.size + 1))] 189 (0, 0))
  row : RowAt W (w.heap.size + 3) .i64 3 many
  b4 : W.heap[w.heap.size + 4]? = some (.cells #[.slice (some ⟨w.heap.size + 3, 0, none⟩) many.length many.length] 22 (0, 0))
  b5 : W.heap[w.heap.size + 5]? = some (.cells #[vq] 231 (0, 0))
section
variable {w W W1 : World} {A1 : Option Addr} {c1 : Nat} {sets : List (List Int)} {n : Nat} {many : List Int} {L L' : Int → Bool} {V V' : Int → Value} {vq vq' : Value}
theorem Core.size (h : Core w A1 c1 sets n many L V vq W) : w.heap.size + 6 ≤ W.heap.size := by have := blk_lt' h.b5; omega
theorem below_grown {B : Nat} {row : Option Nat} (h : Below B w W) (hg : W.grownBy W1 row) (hr : ∀ k, row = some k → B ≤ k) (hs : B ≤ W.heap.size) : Below B w W1 :=
  ⟨hg.os.trans h.os, hg.tape.trans h.tape, hg.output.trans h.output, Nat.le_trans h.size hg.size, fun i hi => (hg.block i (by omega) (fun e => by have := hr i e.symm; omega)).trans (h.block i hi)⟩
theorem Core.kept {row : Option Nat} (h : Core w A1 c1 sets n many L V vq W) (hg : W.grownBy W1 row) (hr : ∀ k, row = some k → w.heap.size + 6 ≤ k) : Core w A1 c1 sets n many L V vq W1 := by
  have hs := h.size
  have e : ∀ j, j < w.heap.size + 6 → W1.heap[j]? = W.heap[j]? := fun j hj => hg.block j (by omega) (fun e => by have := hr j e.symm; omega)
  exact ⟨below_grown h.below hg (fun k hk => by have := hr k hk; omega) (by omega), (e _ (by omega)).trans h.b0, h.map.same (e _ (by omega)), (e _ (by omega)).trans h.b2, (e _ (by omega)).trans h.row, (e _ (by omega)).trans h.b4, (e _ (by omega)).trans h.b5⟩
theorem Core.turned (h : Core w A1 c1 sets n many L V vq W) {n' : Nat} (hm : MapAt W1 (w.heap.size + 1) n' L' V') (hg : W.grownBy W1 (some (w.heap.size + 1))) : Core w A1 c1 sets n' many L' V' vq W1 := by
  have hs := h.size
  have e : ∀ j, j < w.heap.size + 6 → j ≠ w.heap.size + 1 → W1.heap[j]? = W.heap[j]? := fun j hj hn => hg.block j (by omega) (fun e => hn (Option.some.inj e))
  exact ⟨below_grown h.below hg (fun k hk => by cases hk; omega) (by omega), (e _ (by omega) (by omega)).trans h.b0, hm, (e _ (by omega) (by omega)).trans h.b2, (e _ (by omega) (by omega)).trans h.row, (e _ (by omega) (by omega)).trans h.b4, (e _ (by omega) (by omega)).trans h.b5⟩
theorem far (W : World) (b i : Nat) (v : Value) {j : Nat} (h : j ≠ b) : (W.setCell ⟨b, i, none⟩ v).heap[j]? = W.heap[j]? := Below.heap_setCell _ _ _ _ h
theorem Core.setMany (h : Core w A1 c1 sets n many L V vq W) (i : Nat) (v : Int) : Core w A1 c1 sets n (many.set i v) L V vq (W.setCell ⟨w.heap.size + 3, i, none⟩ (.int .i64 v)) := by
  have hs := h.size
  have hg := grownBy_setCell W ⟨w.heap.size + 3, i, none⟩ (.int .i64 v)
  exact ⟨below_grown h.below hg (fun k hk => by cases hk; exact Nat.le_add_right _ _) (by omega), (far _ _ _ _ (by omega)).trans h.b0, h.map.same (far _ _ _ _ (by omega)), (far _ _ _ _ (by omega)).trans h.b2, h.row.set i v, (far _ _ _ _ (by omega)).trans (by rw [List.length_set]; exact h.b4), (far _ _ _ _ (by omega)).trans h.b5⟩
theorem Core.setQueue (h : Core w A1 c1 sets n many L V vq W) (v : Value) : Core w A1 c1 sets n many L V v (W.setCell ⟨w.heap.size + 5, 0, none⟩ v) := by
  have hs := h.size
  have hg := grownBy_setCell W ⟨w.heap.size + 5, 0, none⟩ v
  exact ⟨below_grown h.below hg (fun k hk => by cases hk; exact Nat.le_add_right _ _) (by omega), (far _ _ _ _ (by omega)).trans h.b0, h.map.same (far _ _ _ _ (by omega)), (far _ _ _ _ (by omega)).trans h.b2, (far _ _ _ _ (by omega)).trans h.row, (far _ _ _ _ (by omega)).trans h.b4, cells_set h.b5 0 v⟩
end
structure St (w : World) (A1 : Option Addr) (c1 : Nat) (sets : List (List Int)) (n : Nat) (I : Int → List Int) (V : Int → Value) (N : Nat) (many : List Int) (L : Int → Bool) (vq : Value) (q : List Int) (W : World) : Prop where
  core : Core w A1 c1 sets n many L V vq W
  rows : ∀ s, (Kd.int .i64).Q 3 W (w.heap.size + 6) (fun k => k < N) (V s) (I s)
  low : w.heap.size + 6 ≤ N ∧ N ≤ W.heap.size
  own : (Kd.int .i64).Q 3 W N (fun _ => True) vq q
section
variable {w W W1 : World} {A1 : Option Addr} {c1 : Nat} {sets : List (List Int)} {n : Nat} {I : Int → List Int} {V : Int → Value} {N : Nat} {many : List Int} {L L' : Int → Bool} {vq v1 : Value} {q q1 : List Int}
theorem St.alloc (h : St w A1 c1 sets n I V N many L vq q W) (o : Obj) : St w A1 c1 sets n I V N many L vq q (W.alloc o) :=
  ⟨h.core.kept (World.grownBy_alloc W o none) (fun k hk => by cases hk), fun s => Kd.Q_alloc (h.rows s) o, ⟨h.low.1, Nat.le_trans h.low.2 (by simp)⟩, Kd.Q_alloc h.own o⟩
theorem St.setMany (h : St w A1 c1 sets n I V N many L vq q W) (i : Nat) (v : Int) : St w A1 c1 sets n I V N (many.set i v) L vq q (W.setCell ⟨w.heap.size + 3, i, none⟩ (.int .i64 v)) :=
  ⟨h.core.setMany i v, fun s => Kd.Q_mono (Kd.Q_far (Kd.Q_bound (h.rows s)) (p := ⟨w.heap.size + 3, i, none⟩) (fun k hk => by have := hk.2.1; show k ≠ w.heap.size + 3; omega) _) (fun k hk => hk.1), ⟨h.low.1, by simpa [World.setCell] using h.low.2⟩, Kd.Q_mono (Kd.Q_far (Kd.Q_bound h.own) (p := ⟨w.heap.size + 3, i, none⟩) (fun k hk => by have := hk.2.1; have := h.low.1; show k ≠ w.heap.size + 3; omega) _) (fun k hk => hk.1)⟩
theorem St.turned (h : St w A1 c1 sets n I V N many L vq q W) (hm : MapAt W1 (w.heap.size + 1) n L' V) (hg : W.grownBy W1 (some (w.heap.size + 1))) : St w A1 c1 sets n I V N many L' vq q W1 :=
  ⟨h.core.turned hm hg, fun s => Kd.Q_mono (Kd.Q_grown (Kd.Q_bound (h.rows s)) hg (fun k hk e => by have := hk.2.1; cases e; omega)) (fun k hk => hk.1), ⟨h.low.1, Nat.le_trans h.low.2 hg.size⟩, Kd.Q_mono (Kd.Q_grown (Kd.Q_bound h.own) hg (fun k hk e => by have := hk.2.1; have := h.low.1; cases e; omega)) (fun k hk => hk.1)⟩
theorem St.grown (h : St w A1 c1 sets n I V N many L vq q W) (hg : W.grownBy W1 vq.ownBlock) : Core w A1 c1 sets n many L V vq W1 :=
  h.core.kept hg (fun k hk => by have := Kd.Q_base h.own k hk; have := h.low.1; omega)
theorem St.queued (h : St w A1 c1 sets n I V N many L vq q W) (hg : W.grownBy W1 vq.ownBlock) (ho : (Kd.int .i64).Q 3 W1 N (fun _ => True) v1 q1) : St w A1 c1 sets n I V N many L v1 q1 (W1.setCell ⟨w.heap.size + 5, 0, none⟩ v1) := by
  have hN := h.low
  have hq : ∀ k, vq.ownBlock = some k → N ≤ k := Kd.Q_base h.own
  have hc := h.core.kept hg (fun k hk => by have := hq k hk; omega)
  refine ⟨hc.setQueue v1, fun s => ?_, ⟨h.low.1, ?_⟩, ?_⟩
  · refine Kd.Q_mono (Kd.Q_far (Kd.Q_bound (Kd.Q_grown (h.rows s) hg (fun k hk e => by have := hq k e.symm; omega))) (p := ⟨w.heap.size + 5, 0, none⟩) (fun k hk => ?_) _) (fun k hk => hk.1)
    have := hk.2.1
    show k ≠ w.heap.size + 5
    omega
  · have := hg.size
    show N ≤ (W1.setCell _ _).heap.size
    simp only [World.size_setCell]
    omega
  · refine Kd.Q_mono (Kd.Q_far (Kd.Q_bound ho) (p := ⟨w.heap.size + 5, 0, none⟩) (fun k hk => ?_) _) (fun k hk => hk.1)
    have := hk.2.1
    show k ≠ w.heap.size + 5
    omega
end
structure Ph1 (w : World) (A1 : Option Addr) (c1 : Nat) (sets : List (List Int)) (j : Nat) (W : World) : Prop where
  below : Below w.heap.size w W
  size : W.heap.size = w.heap.size + 3
  b0 : W.heap[w.heap.size]? = some (.cells #[.slice A1 sets.length c1] 26 (0, 0))
  map : MapAt W (w.heap.size + 1) j (fun x => decide (0 ≤ x) && decide (x < (j : Int))) (fun _ => .slice none 0 0)
  b2 : W.heap[w.heap.size + 2]? = some (.cells #[.map (some (w.heap.size + 1))] 189 (0, 0))
structure Gr (w : World) (A1 : Option Addr) (c1 : Nat) (sets : List (List Int)) (n : Nat) (many : List Int) (L : Int → Bool) (V : Int → Value) (I : Int → List Int) (W : World) : Prop where
  core : Core w A1 c1 sets n many L V (.slice none 0 0) W
  rows : ∀ s, (Kd.int .i64).Q 3 W (w.heap.size + 6) (fun _ => True) (V s) (I s)
  apart : ∀ s t k, s ≠ t → (V s).ownBlock = some k → (V t).ownBlock ≠ some k
section
variable {w W W1 : World} {A1 : Option Addr} {c1 : Nat} {sets : List (List Int)}
theorem Ph1.start (w : World) (A1 : Option Addr) (c1 : Nat) (sets : List (List Int)) : Ph1 w A1 c1 sets 0 (((w.alloc (.cells #[.slice A1 sets.length c1] 26)).alloc (.map #[] 0)).alloc (.cells #[.map (some (w.heap.size + 1))] 189)) := by
  refine ⟨below_alloc (below_alloc (below_alloc (Below.refl _ _) _) _) _, by simp, ?_, ?_, ?_⟩
  · exact blk_alloc' (blk_alloc' (World.alloc_heap_new w _) _) _
  · have h := MapAt.made (w.alloc (.cells #[.slice A1 sets.length c1] 26)) (fun _ => .slice none 0 0)
    rw [World.size_alloc] at h
    have e : (fun x : Int => decide (0 ≤ x) && decide (x < ((0 : Nat) : Int))) = fun _ => false := funext fun x => by
      by_cases h : 0 ≤ x
      · simp [h]
      · simp [h]
    rw [e]
    exact h.kept (World.grownBy_alloc _ _ none) (by simp)
  · have h := World.alloc_heap_new ((w.alloc (.cells #[.slice A1 sets.length c1] 26)).alloc (.map #[] 0)) (.cells #[.map (some (w.heap.size + 1))] 189)
    rw [World.size_alloc, World.size_alloc] at h
    exact h
theorem Ph1.step {j : Nat} (h : Ph1 w A1 c1 sets j W) (hj : j < 65536) : ∃ W', (Instr.mapUpdate 189 (.map (some (w.heap.size + 1))) (.int .i64 (j : Int)) (.agg #[.slice none 0 0])).run Tryz.prog W = .ok () W' ∧ Ph1 w A1 c1 sets (j + 1) W' := by
  obtain ⟨W', hr, hm, ht⟩ := h.map.put (s := (j : Int)) (by show j < 9223372036854775807; omega) (by omega) (by omega) (.slice none 0 0)
  have hg := ht.grown
  have hs := h.size
  have e : ∀ i, i < w.heap.size + 3 → i ≠ w.heap.size + 1 → W'.heap[i]? = W.heap[i]? := fun i hi hn => hg.block i (by omega) (fun e => hn (Option.some.inj e))
  refine ⟨W', hr, below_grown h.below hg (fun k hk => by cases hk; omega) (by omega), (turned_size ht).trans hs, (e _ (by omega) (by omega)).trans h.b0, ?_, (e _ (by omega) (by omega)).trans h.b2⟩
  rw [if_neg (by simp)] at hm
  have e1 : (fun x => (decide (0 ≤ x) && decide (x < (j : Int))) || decide (x = (j : Int))) = fun x : Int => decide (0 ≤ x) && decide (x < ((j + 1 : Nat) : Int)) := funext fun x => by
    rw [Bool.eq_iff_iff]
    simp only [Bool.or_eq_true, Bool.and_eq_true, decide_eq_true_eq]
    omega
  have e2 : (fun x : Int => if x = (j : Int) then (Value.slice none 0 0) else .slice none 0 0) = fun _ => .slice none 0 0 := funext fun x => by simp
  rw [e1, e2] at hm
  exact hm
theorem Ph1.grow {n : Nat} (h : Ph1 w A1 c1 sets n W) (m : Nat) : Gr w A1 c1 sets n (List.replicate m 0) (fun x => decide (0 ≤ x) && decide (x < (n : Int))) (fun _ => .slice none 0 0) (fun _ => []) (((W.alloc (.cells (nums .i64 (List.replicate m 0)).toArray 3)).alloc (.cells #[.slice (some ⟨w.heap.size + 3, 0, none⟩) m m] 22)).alloc (.cells #[.slice none 0 0] 231)) := by
  have hs := h.size
  refine ⟨⟨?_, ?_, ?_, ?_, ?_, ?_, ?_⟩, fun _ => Kd.Q_nil _ _ _ _ _, fun _ _ _ _ e => by cases e⟩
  · exact below_grown (below_grown (below_grown h.below (World.grownBy_alloc _ _ none) (fun _ e => by cases e) (by omega)) (World.grownBy_alloc _ _ none) (fun _ e => by cases e) (by simp; omega)) (World.grownBy_alloc _ _ none) (fun _ e => by cases e) (by simp; omega)
  · exact blk_alloc' (blk_alloc' (blk_alloc' h.b0 _) _) _
  · exact ((h.map.kept (World.grownBy_alloc _ _ none) (by simp)).kept (World.grownBy_alloc _ _ none) (by simp)).kept (World.grownBy_alloc _ _ none) (by simp)
  · exact blk_alloc' (blk_alloc' (blk_alloc' h.b2 _) _) _
  · have h1 := World.alloc_heap_new W (.cells (nums .i64 (List.replicate m 0)).toArray 3)
    rw [hs] at h1
    exact blk_alloc' (blk_alloc' h1 _) _
  · have h1 := World.alloc_heap_new (W.alloc (.cells (nums .i64 (List.replicate m 0)).toArray 3)) (.cells #[.slice (some ⟨w.heap.size + 3, 0, none⟩) m m] 22)
    rw [World.size_alloc, hs] at h1
    rw [List.length_replicate]
    exact blk_alloc' h1 _
  · have h1 := World.alloc_heap_new ((W.alloc (.cells (nums .i64 (List.replicate m 0)).toArray 3)).alloc (.cells #[.slice (some ⟨w.heap.size + 3, 0, none⟩) m m] 22)) (.cells #[.slice none 0 0] 231)
    rw [World.size_alloc, World.size_alloc, hs] at h1
    exact h1
end
section
variable {w W W1 W2 : World} {A1 : Option Addr} {c1 : Nat} {sets : List (List Int)} {n : Nat} {I : Int → List Int} {V : Int → Value} {many : List Int} {L : Int → Bool} {v1 : Value}
theorem Gr.setMany (h : Gr w A1 c1 sets n many L V I W) (i : Nat) (v : Int) : Gr w A1 c1 sets n (many.set i v) L V I (W.setCell ⟨w.heap.size + 3, i, none⟩ (.int .i64 v)) :=
  ⟨h.core.setMany i v, fun s => Kd.Q_mono (Kd.Q_far (Kd.Q_bound (h.rows s)) (p := ⟨w.heap.size + 3, i, none⟩) (fun k hk => by have := hk.2.1; show k ≠ w.heap.size + 3; omega) _) (fun k hk => hk.1), h.apart⟩
theorem Gr.drew (h : Gr w A1 c1 sets n many L V I W) : Gr w A1 c1 sets n many L V I W.drew :=
  ⟨h.core.kept (grownBy_of_below (below_drew (Below.refl _ _)) none) (fun k hk => by cases hk), fun s => Kd.Q_drew (h.rows s), h.apart⟩
theorem Gr.grown (h : Gr w A1 c1 sets n many L V I W) {s : Int} (hg : W.grownBy W1 (V s).ownBlock) : Core w A1 c1 sets n many L V (.slice none 0 0) W1 :=
  h.core.kept hg (fun k hk => Kd.Q_base (h.rows s) k hk)
theorem Gr.put (h : Gr w A1 c1 sets n many L V I W) {s i : Int} (hg : W.grownBy W1 (V s).ownBlock) (ho : (Kd.int .i64).Q 3 W1 (w.heap.size + 6) (fun _ => True) v1 (I s ++ [i])) (hat : v1.ownBlock = (V s).ownBlock ∨ ∃ b, v1.ownBlock = some b ∧ W.heap.size ≤ b)
    (hm : MapAt W2 (w.heap.size + 1) n L (fun x => if x = s then v1 else V x)) (hg2 : W1.grownBy W2 (some (w.heap.size + 1))) :
    Gr w A1 c1 sets n many L (fun x => if x = s then v1 else V x) (fun x => if x = s then I s ++ [i] else I x) W2 := by
  have step2 : ∀ {v : Value} {xs : List Int}, (Kd.int .i64).Q 3 W1 (w.heap.size + 6) (fun _ => True) v xs → (Kd.int .i64).Q 3 W2 (w.heap.size + 6) (fun _ => True) v xs := fun hq =>
    Kd.Q_mono (Kd.Q_grown (Kd.Q_bound hq) hg2 (fun k hk e => by have := hk.2.1; cases e; omega)) (fun k hk => hk.1)
  refine ⟨(h.grown hg).turned hm hg2, fun t => ?_, fun t u k hne ht hu => ?_⟩
  · by_cases hts : t = s
    · subst hts
      simp only [if_true]
      exact step2 ho
    · simp only [if_neg hts]
      exact step2 (Kd.Q_grown2 (h.rows t) rfl hg (fun k hk e => h.apart s t k (fun e => hts e.symm) hk e.symm))
  · by_cases hts : t = s
    · subst hts
      have hus : ¬ u = t := fun e => hne e.symm
      simp only [if_true] at ht
      simp only [if_neg hus] at hu
      rcases hat with hat | ⟨b, hb, hle⟩
      · exact h.apart t u k hne (hat.symm.trans ht) hu
      · have := Kd.Q_lt (h.rows u) k hu
        rw [hb] at ht
        cases ht
        omega
    · simp only [if_neg hts] at ht
      by_cases hus : u = s
      · subst hus
        simp only [if_true] at hu
        rcases hat with hat | ⟨b, hb, hle⟩
        · exact h.apart t u k hne ht (hat.symm.trans hu)
        · have := Kd.Q_lt (h.rows t) k ht
          rw [hb] at hu
          cases hu
          omega
      · simp only [if_neg hus] at hu
        exact h.apart t u k hne ht hu
theorem Gr.start (h : Gr w A1 c1 sets n many L V I W) : St w A1 c1 sets n I V W.heap.size many L (.slice none 0 0) [] W :=
  ⟨h.core, fun s => Kd.Q_mono (Kd.Q_bound (h.rows s)) (fun _ hk => hk.2.2.1), ⟨h.core.size, Nat.le_refl _⟩, Kd.Q_nil _ _ _ _ _⟩
end
end Peel
end
end Go.Proofs.YtjeepapdaciieaaGreat.X
namespace Go.Proofs
open Go.RowKit Go.Maps Go.Sort Go.Shelf
def Tryz.keys167_ren : Go.Shelf.Ren := ⟨fun | 7 => 167 | 10 => 222 | n => n, fun | 23 => 189 | 26 => 3 | 3 => 191 | 28 => 178 | 0 => 0 | 27 => 177 | 33 => 210 | 4 => 4 | n => n, fun | n => n⟩
theorem Tryz.keys167 : Go.Proofs.SlLaysZI.n7 Tryz.prog Tryz.keys167_ren := {
  mixed := by kernel_rfl
  f7 := ⟨Tryz.f167.name, by decide, Tryz.func167.trans (congrArg some (by kernel_rfl))⟩
  f10 := ⟨Tryz.f222.name, by decide, Tryz.func222.trans (congrArg some (by kernel_rfl))⟩
  t0 := Tryz.underlying0
  a0 := Tryz.isAgg0
  z0 := Tryz.sizeOf0
  v0 := Tryz.zeroValue0
  t4 := Tryz.underlying4
  a4 := Tryz.isAgg4
  z4 := Tryz.sizeOf4
  v4 := Tryz.zeroValue4
  t23 := Tryz.underlying189
  a23 := Tryz.isAgg189
  z23 := Tryz.sizeOf189
  v23 := Tryz.zeroValue189
  t26 := Tryz.underlying3
  a26 := Tryz.isAgg3
  z26 := Tryz.sizeOf3
  v26 := Tryz.zeroValue3
  t27 := Tryz.underlying177
  a27 := Tryz.isAgg177
  z27 := Tryz.sizeOf177
  v27 := Tryz.zeroValue177
  t28 := Tryz.underlying178
  a28 := Tryz.isAgg178
  z28 := Tryz.sizeOf178
  v28 := Tryz.zeroValue178
  t33 := Tryz.underlying210
  a33 := Tryz.isAgg210
  z33 := Tryz.sizeOf210
  v33 := Tryz.zeroValue210 }
def Tryz.sorted156_ren : Go.Shelf.Ren := ⟨fun | 6 => 156 | 8 => 209 | 9 => 210 | 11 => 245 | 13 => 247 | 12 => 246 | 23 => 284 | 24 => 194 | 14 => 275 | 15 => 276 | 16 => 277 | 17 => 278 | 18 => 279 | 19 => 280 | 20 => 281 | 21 => 282 | 22 => 283 | 25 => 300 | 26 => 301 | 27 => 302 | 28 => 303 | 29 => 304 | 30 => 305 | 31 => 309 | n => n, fun | 26 => 3 | 28 => 178 | 24 => 22 | 0 => 0 | 3 => 3 | 37 => 38 | 48 => 272 | 50 => 112 | 4 => 4 | 40 => 267 | 39 => 266 | 45 => 215 | 5 => 5 | 9 => 9 | 51 => 283 | 55 => 286 | 57 => 288 | 58 => 289 | 33 => 210 | n => n, fun | n => n⟩
theorem Tryz.sorted156 : Go.Proofs.SlLaysZI.n6 Tryz.prog Tryz.sorted156_ren := {
  mixed := by kernel_rfl
  f6 := ⟨Tryz.f156.name, by decide, Tryz.func156.trans (congrArg some (by kernel_rfl))⟩
  f8 := ⟨Tryz.f209.name, by decide, Tryz.func209.trans (congrArg some (by kernel_rfl))⟩
  f11 := ⟨Tryz.f245.name, by decide, Tryz.func245.trans (congrArg some (by kernel_rfl))⟩
  t0 := Tryz.underlying0
  a0 := Tryz.isAgg0
  z0 := Tryz.sizeOf0
  v0 := Tryz.zeroValue0
  t24 := Tryz.underlying22
  a24 := Tryz.isAgg22
  z24 := Tryz.sizeOf22
  v24 := Tryz.zeroValue22
  t26 := Tryz.underlying3
  a26 := Tryz.isAgg3
  z26 := Tryz.sizeOf3
  v26 := Tryz.zeroValue3
  t28 := Tryz.underlying178
  a28 := Tryz.isAgg178
  z28 := Tryz.sizeOf178
  v28 := Tryz.zeroValue178
  i26 := by kernel_rfl }
def Tryz.sort210_ren : Go.Shelf.Ren := ⟨fun | 5 => 210 | 8 => 247 | 7 => 246 | 19 => 284 | 20 => 194 | 10 => 275 | 11 => 276 | 12 => 277 | 13 => 278 | 14 => 279 | 15 => 280 | 16 => 281 | 17 => 282 | 18 => 283 | 30 => 300 | 31 => 301 | 32 => 302 | 33 => 303 | 34 => 304 | 35 => 305 | 40 => 309 | n => n, fun | 23 => 22 | 25 => 3 | 3 => 3 | 32 => 38 | 22 => 22 | 0 => 0 | 44 => 272 | 46 => 112 | 4 => 4 | 36 => 267 | 35 => 266 | 41 => 215 | 5 => 5 | 9 => 9 | 53 => 283 | 57 => 286 | 63 => 288 | 64 => 289 | n => n, fun | n => n⟩
theorem Tryz.sort210 : Go.Proofs.SlLaysM.n5 Tryz.prog Tryz.sort210_ren := {
  mixed := by kernel_rfl
  f5 := ⟨Tryz.f210.name, by decide, Tryz.func210.trans (congrArg some (by kernel_rfl))⟩
  f7 := ⟨Tryz.f246.name, by decide, Tryz.func246.trans (congrArg some (by kernel_rfl))⟩
  f8 := Tryz.func247.trans (congrArg some (by kernel_rfl))
  f10 := ⟨Tryz.f275.name, by decide, Tryz.func275.trans (congrArg some (by kernel_rfl))⟩
  f11 := ⟨Tryz.f276.name, by decide, Tryz.func276.trans (congrArg some (by kernel_rfl))⟩
  f12 := ⟨Tryz.f277.name, by decide, Tryz.func277.trans (congrArg some (by kernel_rfl))⟩
  f13 := ⟨Tryz.f278.name, by decide, Tryz.func278.trans (congrArg some (by kernel_rfl))⟩
  f14 := ⟨Tryz.f279.name, by decide, Tryz.func279.trans (congrArg some (by kernel_rfl))⟩
  f15 := ⟨Tryz.f280.name, by decide, Tryz.func280.trans (congrArg some (by kernel_rfl))⟩
  f16 := ⟨Tryz.f281.name, by decide, Tryz.func281.trans (congrArg some (by kernel_rfl))⟩
  f17 := ⟨Tryz.f282.name, by decide, Tryz.func282.trans (congrArg some (by kernel_rfl))⟩
  f18 := ⟨Tryz.f283.name, by decide, Tryz.func283.trans (congrArg some (by kernel_rfl))⟩
  f19 := Tryz.func284.trans (congrArg some (by kernel_rfl))
  f20 := Tryz.func194.trans (congrArg some (by kernel_rfl))
  f30 := ⟨Tryz.f300.name, by decide, Tryz.func300.trans (congrArg some (by kernel_rfl))⟩
  f31 := Tryz.func301.trans (congrArg some (by kernel_rfl))
  f32 := Tryz.func302.trans (congrArg some (by kernel_rfl))
  f33 := ⟨Tryz.f303.name, by decide, Tryz.func303.trans (congrArg some (by kernel_rfl))⟩
  f34 := ⟨Tryz.f304.name, by decide, Tryz.func304.trans (congrArg some (by kernel_rfl))⟩
  f35 := ⟨Tryz.f305.name, by decide, Tryz.func305.trans (congrArg some (by kernel_rfl))⟩
  f40 := ⟨Tryz.f309.name, by decide, Tryz.func309.trans (congrArg some (by kernel_rfl))⟩
  t0 := Tryz.underlying0
  a0 := Tryz.isAgg0
  z0 := Tryz.sizeOf0
  v0 := Tryz.zeroValue0
  t3 := Tryz.underlying3
  a3 := Tryz.isAgg3
  z3 := Tryz.sizeOf3
  v3 := Tryz.zeroValue3
  t4 := Tryz.underlying4
  a4 := Tryz.isAgg4
  z4 := Tryz.sizeOf4
  v4 := Tryz.zeroValue4
  t5 := Tryz.underlying5
  a5 := Tryz.isAgg5
  z5 := Tryz.sizeOf5
  v5 := Tryz.zeroValue5
  t9 := Tryz.underlying9
  a9 := Tryz.isAgg9
  z9 := Tryz.sizeOf9
  v9 := Tryz.zeroValue9
  t22 := Tryz.underlying22
  a22 := Tryz.isAgg22
  z22 := Tryz.sizeOf22
  v22 := Tryz.zeroValue22
  t23 := Tryz.underlying22
  a23 := Tryz.isAgg22
  z23 := Tryz.sizeOf22
  v23 := Tryz.zeroValue22
  t25 := Tryz.underlying3
  a25 := Tryz.isAgg3
  z25 := Tryz.sizeOf3
  v25 := Tryz.zeroValue3
  t32 := Tryz.underlying38
  a32 := Tryz.isAgg38
  z32 := Tryz.sizeOf38
  v32 := Tryz.zeroValue38
  t35 := Tryz.underlying266
  a35 := Tryz.isAgg266
  z35 := Tryz.sizeOf266
  v35 := Tryz.zeroValue266
  t36 := Tryz.underlying267
  a36 := Tryz.isAgg267
  z36 := Tryz.sizeOf267
  v36 := Tryz.zeroValue267
  t41 := Tryz.underlying215
  a41 := Tryz.isAgg215
  z41 := Tryz.sizeOf215
  v41 := Tryz.zeroValue215
  t44 := Tryz.underlying272
  a44 := Tryz.isAgg272
  z44 := Tryz.sizeOf272
  v44 := Tryz.zeroValue272
  t46 := Tryz.underlying112
  a46 := Tryz.isAgg112
  z46 := Tryz.sizeOf112
  v46 := Tryz.zeroValue112
  t53 := Tryz.underlying283
  a53 := Tryz.isAgg283
  z53 := Tryz.sizeOf283
  v53 := Tryz.zeroValue283
  t57 := Tryz.underlying286
  a57 := Tryz.isAgg286
  z57 := Tryz.sizeOf286
  v57 := Tryz.zeroValue286
  t63 := Tryz.underlying288
  a63 := Tryz.isAgg288
  z63 := Tryz.sizeOf288
  v63 := Tryz.zeroValue288
  t64 := Tryz.underlying289
  a64 := Tryz.isAgg289
  z64 := Tryz.sizeOf289
  v64 := Tryz.zeroValue289 }
theorem Tryz.sorts156 (m : Nat) : AnyZI.SortsIn Tryz.prog Tryz.sorted156_ren Fence.wide m :=
  ⟨fun blk off cap ss W hH hblk hsz => callsIn_wide.2 (AnyM.slices_Sort_int Tryz.sort210 blk off cap ss W hH hblk hsz),
   fun p cap W => callsIn_wide.2 (AnyM.slices_Sort_int_none Tryz.sort210 p cap W)⟩
theorem Tryz.maps_Keys_167 (mb : Option Nat) (W : World) : Calls Tryz.prog 167 #[.map mb] W fun e w' => e = .returned (.func (.func 222) #[] #[.pointer (some ⟨W.heap.size, 0, none⟩)]) ∧ w' = W.alloc (.cells #[.map mb] 189) :=
  (callsIn_wide (n := 5)).1 (AnyZI.keys_in Tryz.keys167 Fence.wide 5 trivial rfl mb W)
set_option maxHeartbeats 1000000 in
theorem Tryz.slices_Sorted_keys {H : Type} (b nn : Nat) (D0 : DataW H) (R : Value → Option (DataW H × List MemPlace)) (w : World) (hown : w.ownsMap Tryz.prog 3 R b nn D0) (hmax : Maps.size D0 ≤ maxLen) (hbytes : Maps.size D0 * 8 ≤ 140737488355328) :
    Calls Tryz.prog 156 #[.func (.func 222) #[] #[.pointer (some ⟨w.heap.size, 0, none⟩)]] (w.alloc (.cells #[.map (some b)] 189)) fun e w' => ∃ (v : Value) (ss : List Int), e = .returned v ∧ ss.Perm (intKeys D0) ∧
      w'.ownsRow (w.alloc (.cells #[.map (some b)] 189)).heap.size 3 1 v ss.length ((ss.mergeSort (fun x y => decide (x ≤ y))).map encZ) ∧ (v = .slice none 0 0 ↔ ss = []) ∧ Below (w.alloc (.cells #[.map (some b)] 189)).heap.size (w.alloc (.cells #[.map (some b)] 189)) w' := by
  have hbl := hown.lt
  have hseq : SeqGives Fence.wide 2 Tryz.prog 222 #[.pointer (some ⟨w.heap.size, 0, none⟩)] encZ (fun ss => ss.Perm (intKeys D0)) (Maps.size D0) (w.alloc (.cells #[.map (some b)] 189)) :=
    AnyZI.keys_gives (ρ := Tryz.keys167_ren) { Tryz.keys167 with } Fence.wide _ trivial rfl (by omega) w.heap.size b nn D0 _ (by simp) (by simp) (by
      obtain ⟨es, clock, hb, Ft, hs, hD⟩ := hown
      exact ⟨es, clock, (Below.heap_alloc _ _ b hbl).trans hb, Ft, hs, hD⟩)
  exact (callsIn_wide (n := 5)).1 (AnyZI.sorted_in Tryz.sorted156 Fence.wide 5 trivial trivial trivial trivial rfl (by omega) (Tryz.sorts156 _) (enters_of Tryz.func210 (by kernel_rfl) rfl) 222 #[.pointer (some ⟨w.heap.size, 0, none⟩)] trivial (enters_of Tryz.func222 (by kernel_rfl) rfl) _ _ hmax hbytes _ hseq)
end Go.Proofs
namespace Go.Proofs.YtjeepapdaciieaaGreat.X
open Go.RowKit Go.Proofs.YtjeepapdaciieaaGreatW.PrintWords Go.Proofs.YtjeepapdaciieaaGreatW.PrintLast Go.Proofs.YtjeepapdaciieaaGreatW.PrintMore
attribute [local go_sem] max2_int min2_int max_two min_two max_three min_three max_four min_four
set_option linter.unusedVariables false
set_option linter.unusedSimpArgs false
section
open Go.Maps Go.Shelf Peel
def stop_Largest.fits (kk : Int) (sets : List (List Int)) : Bool := (sets.all fun l => l.all fun s => decide (0 ≤ s) && decide (s < kk)) && decide (sets.length ≤ 1099511627776) && decide (1 ≤ kk) && decide (kk ≤ 65536)
def stop_Largest.unknown (k : Nat) (kk : Int) (sets : List (List Int)) : Option (Int → Bool) :=
  if stop_Largest.fits kk sets = true then if (pairs sets).length ≤ 1099511627776 then if (first sets (Peel.start kk) (lens sets) sets.length).length ≤ 1099511627776 then go sets (pairs sets) k (Peel.start kk) (lens sets) (first sets (Peel.start kk) (lens sets) sets.length) else none else none else none
def stop_Largest.f (k : Nat) (a0 : Int) (l1 : List (List Int)) : Option (List Int × Int) := (stop_refuses.f k a0 l1).bind fun e => if e = 0 then (stop_Largest.unknown k a0 l1).bind fun L => some (list a0 L, 0) else some ([], e)
set_option maxRecDepth 100000 in
set_option maxHeartbeats 4000000 in
theorem stop_Largest.lone (w : World) (A1 : Option Addr) (c1 : Nat) (sets : List (List Int)) (n : Nat) (I : Int → List Int) (V : Int → Value) (N : Nat) (many : List Int) (L : Int → Bool) (vq : Value) (q : List Int) (W : World) (h : St w A1 c1 sets n I V N many L vq q W) (hS : Kd.C (Kd.slice 3 (Kd.int .i64)) w A1 sets.length sets) (hall : ∀ l ∈ sets, ∀ s ∈ l, 0 ≤ s ∧ s ≤ 65536) (hm : many.length = sets.length) (i : Int) (h0 : 0 ≤ i) (h1 : i < sets.length) (hq : (Peel.lone sets L many q i).length ≤ 1099511627776) :
    Calls Tryz.prog 223 #[.int .i64 i, .pointer (some ⟨w.heap.size + 4, 0, none⟩), .pointer (some ⟨w.heap.size, 0, none⟩), .pointer (some ⟨w.heap.size + 2, 0, none⟩), .pointer (some ⟨w.heap.size + 5, 0, none⟩)] W fun e W' => e = .returned (.tuple #[]) ∧ ∃ vq', St w A1 c1 sets n I V N many L vq' (Peel.lone sets L many q i) W' := by
  have H := Aside0.mk h
  have HS := Aside0.mk hS
  have HA := Aside0.mk hall
  have HQ := Aside0.mk hq
  have b0 : W.cell? ⟨w.heap.size, 0, none⟩ = _ := cells_at h.core.b0 (i := 0) rfl
  have b4 : W.cell? ⟨w.heap.size + 4, 0, none⟩ = _ := cells_at h.core.b4 (i := 0) rfl
  have hi : i.toNat < many.length := by omega
  have hr := h.core.row.cell i.toNat hi
  have hrd : rd many i = many[i.toNat] := by simp [rd, hi]
  rw [← hrd] at hr
  have hbe := h.core.below
  clear h hall hq
  by_cases h1c : rd many i = 1
  · rw [h1c] at hr
    obtain ⟨ad, A2, c2, e1, hx, hl2, hC2⟩ := at_L1 hS i h0 h1
    subst e1
    replace hx := (hbe.cell (World.block_lt_of_cell? w _ hx)).trans hx
    obtain ⟨x, hxx⟩ : ∃ x, rd_L1 sets i = x := ⟨_, rfl⟩
    have hmem : x ∈ sets := by
      have hi2 : i.toNat < sets.length := by omega
      have : sets[i.toNat] = x := by rw [← hxx]; simp [rd_L1, hi2]
      rw [← this]
      exact List.getElem_mem hi2
    rw [hxx] at hx hl2 hC2
    have e2 : Peel.lone sets L many q i = q ++ x.filter L := by rw [Peel.lone, if_pos h1c, hxx]
    rw [e2] at HQ ⊢
    have HX := Aside0.mk (HA.out x hmem)
    have HC2 := Aside0.mk hC2
    have hx63 := hC2.2.1
    clear hmem hxx hC2 hS hbe hrd e2
    go_enter Tryz.func223, Tryz.ntmps223
    go_wp2
    go_loopw [20] (fun v20 wr => ∃ (j : Nat) (vq' : Value), j ≤ x.length ∧ v20 = .int .i64 (j : Int) ∧ Aside0 (St w (some ad) c1 sets n I V N many L vq' (q ++ (x.take j).filter L) wr)) (fun v20 _ => x.length - (intOf v20).toNat)
    case atStart => exact ⟨0, vq, Nat.zero_le _, rfl, by simpa using H⟩
    case round =>
      obtain ⟨j, vq', hj, rfl, HJ⟩ := hrel
      have hle := HJ.out
      by_cases hlt : j < x.length
      · obtain ⟨s, hsx⟩ : ∃ s, rd x (j : Int) = s := ⟨_, rfl⟩
        have hget : x[j] = s := by rw [← hsx]; simp [rd, hlt]
        have hsm : s ∈ x := by rw [← hget]; exact List.getElem_mem hlt
        obtain ⟨hs0, hs1⟩ := HX.out s hsm
        obtain ⟨ad3, e3, hx3⟩ := Kd.at_int (Kd.C_below HC2.out hle.core.below) (j : Int) (by omega) (by omega)
        subst e3
        rw [Int.toNat_natCast, hsx] at hx3
        have htk : x.take (j + 1) = x.take j ++ [s] := by rw [← hget]; exact List.take_succ_eq_append_getElem hlt
        have hlk := hle.core.map.look_ok hs0 hs1
        obtain ⟨As, cs, hVs, _⟩ := Kd.Q_slice (hle.rows s)
        rw [hVs] at hlk
        have b2 : wr.cell? ⟨w.heap.size + 2, 0, none⟩ = some (.map (some (w.heap.size + 1))) := cells_at hle.core.b2 (i := 0) rfl
        have b5 : wr.cell? ⟨w.heap.size + 5, 0, none⟩ = some vq' := cells_at hle.core.b5 (i := 0) rfl
        clear hsx hget hsm
        cases hL : L s with
        | false =>
          rw [hL] at hlk
          simp only [Bool.false_eq_true, if_false] at hlk
          go_wp2
          refine ⟨⟨j + 1, vq', hlt, by go_num, ⟨by rw [htk, List.filter_append, show [s].filter L = [] by simp [hL], List.append_nil]; exact HJ.out.alloc _⟩⟩, by simp [intOf]; omega⟩
        | true =>
          rw [hL] at hlk
          simp only [if_true] at hlk
          have HN := Aside0.mk (HJ.out.alloc (.cells #[.slice As (I s).length cs] 191))
          have b5a := q_old (.cells #[.slice As (I s).length cs] 191) b5
          have hlen : ((q ++ (x.take j).filter L).length + 1) * 8 ≤ 140737488355328 := by
            have h1 := HQ.out
            have h2 : (q ++ (x.take (j + 1)).filter L).length ≤ (q ++ x.filter L).length := by
              have := (List.Sublist.filter L (List.take_sublist (j + 1) x)).length_le
              simp only [List.length_append]
              omega
            rw [htk, List.filter_append, show [s].filter L = [s] by simp [hL]] at h2
            simp only [List.length_append, List.length_singleton] at h2 ⊢
            simp only [List.length_append] at h1
            omega
          clear hle
          go_wp2_with ((with_reducible refine gate_builtin (b := .append) (xs := #[.tmp 31, .tmp 33]) rfl ?_); at_builtin; refine Kd.Q_append (Kd.int .i64) (w0 := wr.alloc (.cells #[.slice As (I s).length cs] 191)) N rfl (.tmp 31) (.tmp 33) 231 3 (.int .i64 0) 8 rfl Tryz.underlying231 info3 rfl (by decide) (by decide) vq' (q ++ (x.take j).filter L) s [.int .i64 s] (fun _ => True) (fun _ => False) rfl (by first | rfl | (rw [World.size_alloc]; rfl) | (go_simp; done) | simp) rfl (fun _ h => h.elim) (fun _ _ => trivial) HN.out.own (Below.refl _ _) HN.out.low.2 hlen ?_; intro v1 w1 ho hb hg hat; obtain ⟨Aq, cq, hv1, _⟩ := Kd.Q_slice ho; subst hv1; have c5 : w1.cell? ⟨w.heap.size + 5, 0, none⟩ = some vq' := cells_at (HN.out.grown hg).b5 (i := 0) rfl; have f5 : w1.frozen? ⟨w.heap.size + 5, 0, none⟩ = false := cells_frozen (HN.out.grown hg).b5 0; have HW := Aside0.mk (HN.out.queued hg ho); clear hb hg hat ho)
          refine ⟨⟨j + 1, .slice Aq (q.length + (((x.take j).filter L).length + 1)) cq, hlt, by go_num, ⟨?_⟩⟩, by simp [intOf]; omega⟩
          have h5 := HW.out
          rw [show (q ++ (x.take j).filter L ++ [s]).length = q.length + (((x.take j).filter L).length + 1) from by simp [Nat.add_assoc]] at h5
          rw [htk, List.filter_append, show [s].filter L = [s] by simp [hL], ← List.append_assoc]
          exact h5
      · obtain rfl : j = x.length := by omega
        go_wp2
        go_end0
        exact ⟨rfl, _, by rw [List.take_length] at hle; exact hle⟩
  · have hne : (rd many i != 1) = true := by simpa using h1c
    have e2 : Peel.lone sets L many q i = q := by rw [Peel.lone, if_neg h1c]
    rw [e2] at HQ ⊢
    go_enter Tryz.func223, Tryz.ntmps223
    go_wp2
    refine bodyPost_ret (results_none rfl _ _ _) rfl ?_
    exact ⟨rfl, _, H.out⟩
set_option maxRecDepth 100000 in
set_option maxHeartbeats 4000000 in
theorem stop_Largest.next (w : World) (A1 : Option Addr) (c1 : Nat) (sets : List (List Int)) (n : Nat) (I : Int → List Int) (V : Int → Value) (N : Nat) (many : List Int) (L : Int → Bool) (vq : Value) (s : Int) (q : List Int) (W : World) (h : St w A1 c1 sets n I V N many L vq (s :: q) W) :
    Calls Tryz.prog 224 #[.pointer (some ⟨w.heap.size + 5, 0, none⟩)] W fun e W' => e = .returned (.int .i64 s) ∧ ∃ vq', St w A1 c1 sets n I V N many L vq' q W' := by
  have H := Aside0.mk h
  obtain ⟨A, c, hv, hc⟩ := Kd.Q_slice h.own
  subst hv
  have b5 : W.cell? ⟨w.heap.size + 5, 0, none⟩ = _ := cells_at h.core.b5 (i := 0) rfl
  have f5 : W.frozen? ⟨w.heap.size + 5, 0, none⟩ = false := cells_frozen h.core.b5 0
  have HC := (Kd.Q_reads' h.own).2.2
  obtain ⟨ad, e, hx⟩ := Kd.at_int HC 0 (by omega) (by simp)
  subst e
  have hr : rd (s :: q) 0 = s := by simp [rd]
  rw [hr, show ad.add (0 : Int).toNat = ad from by cases ad; simp [Addr.add]] at hx
  have HD := Aside0.mk (Kd.Q_drop h.own (k := 1) (by simp))
  clear h HC hr
  simp only [List.length_cons] at *
  go_enter Tryz.func224, Tryz.ntmps224
  have H5 := Aside0.mk (H.out.queued (grownBy_of_below (Below.refl _ _) _) HD.out)
  clear H HD
  by_cases hc1 : c = 1
  · subst hc1
    obtain rfl : q = [] := List.length_eq_zero_iff.1 (by omega)
    go_wp2
    go_ret
    have h5 := H5.out
    simp only [if_true, Nat.add_sub_cancel, List.drop_succ_cons, List.drop_zero, Nat.sub_self] at h5
    exact ⟨rfl, _, h5⟩
  · have h5 := H5.out
    simp only [hc1, if_false, Nat.add_sub_cancel, List.drop_succ_cons, List.drop_zero, Option.map_some] at h5
    have H6 := Aside0.mk h5
    clear h5
    go_wp2
    go_ret
    exact ⟨rfl, _, H6.out⟩
set_option maxRecDepth 100000 in
set_option maxHeartbeats 4000000 in
theorem stop_Largest.calls168 (k : Nat) (kk : Int) (A1 : Option Addr) (c1 : Nat) (sets : List (List Int)) (R : Int → Bool) (w : World) (hr1 : Kd.C (Kd.slice 3 (Kd.int .i64)) w A1 sets.length sets) (h : stop_Largest.unknown k kk sets = some R) :
    Calls Tryz.prog 168 #[.int .i64 kk, .slice A1 sets.length c1] w fun e w' => e = .returned (.map (some (w.heap.size + 1))) ∧ (∃ V, MapAt w' (w.heap.size + 1) kk.toNat R V) ∧ Below w.heap.size w w' := by
  rw [stop_Largest.unknown] at h
  by_cases hf : stop_Largest.fits kk sets = true
  · rw [if_pos hf] at h
    by_cases hp : (pairs sets).length ≤ 1099511627776
    · rw [if_pos hp] at h
      by_cases hq : (first sets (Peel.start kk) (lens sets) sets.length).length ≤ 1099511627776
      · rw [if_pos hq] at h
        have HQ := Aside0.mk hq
        have HP := Aside0.mk hp
        have HS := Aside0.mk hr1
        have HG := Aside0.mk h
        simp only [stop_Largest.fits, Bool.and_eq_true, decide_eq_true_eq, List.all_eq_true] at hf
        obtain ⟨⟨⟨hall, hn⟩, hk0⟩, hk1⟩ := hf
        have HA : Aside0 (∀ l ∈ sets, ∀ s ∈ l, 0 ≤ s ∧ s ≤ 65536) := ⟨fun l hl s hs => by have := hall l hl s hs; omega⟩
        have HL : Aside0 (∀ l ∈ sets, ∀ s ∈ l, 0 ≤ s ∧ s < kk) := ⟨hall⟩
        obtain ⟨K, rfl⟩ : ∃ K : Nat, kk = (K : Int) := ⟨kk.toNat, by omega⟩
        have hK0 : 1 ≤ K := by omega
        have hK1 : K ≤ 65536 := by omega
        have hdk : decide ((K : Int) < 0) = false := decide_eq_false (by omega)
        clear h hp hq hr1 hall hk0 hk1
        go_enter Tryz.func168, Tryz.ntmps168
        have hmk := fun W => makes (K : Int) W
        obtain ⟨i0, hi, hzz⟩ := Option.map_eq_some_iff.1 info3
        simp only [Prod.mk.injEq] at hzz
        obtain ⟨hz0, hz1, hz2⟩ := hzz
        have hmade : madeCells (Value.int .i64 0).cells sets.length = (nums .i64 (List.replicate sets.length 0)).toArray := by
          apply Array.ext
          · simp [madeCells, nums]
          · intro i h1 h2
            simp [madeCells, nums, Value.cells, Nat.mod_one]
        have hms : ∀ W, (Instr.makeSlice 22 (.int .i64 (sets.length : Int)) (.int .i64 (sets.length : Int))).run Tryz.prog W = .ok (.slice (some ⟨W.heap.size, 0, none⟩) sets.length sets.length) (W.alloc (.cells (nums .i64 (List.replicate sets.length 0)).toArray 3)) := by
          intro W
          have h := run_make W 22 3 i0 (.int .i64 0) Tryz.underlying22 hi hz0 .i64 .i64 (sets.length : Int) (sets.length : Int) (by omega) (Int.le_refl _) (by rw [hz2]; omega) (by omega)
          rw [h, hz1, Int.toNat_natCast, Nat.mul_one, hmade]
        clear hi hz0 hz1 hz2 hmade
        go_wp2
        rw [show w.heap.size + 1 + 1 = w.heap.size + 2 from rfl]
        have H0 := Aside0.mk (Ph1.start w A1 c1 sets)
        go_loopw [23] (fun v23 wr => ∃ j : Nat, j ≤ K ∧ v23 = .int .i64 (j : Int) ∧ Aside0 (Ph1 w A1 c1 sets j wr)) (fun v23 _ => K - (intOf v23).toNat)
        case atStart => exact ⟨0, Nat.zero_le _, rfl, H0⟩
        case round =>
          obtain ⟨j, hj, rfl, HJ⟩ := hrel
          have hJ := HJ.out
          have b2 : wr.cell? ⟨w.heap.size + 2, 0, none⟩ = some (.map (some (w.heap.size + 1))) := cells_at hJ.b2 (i := 0) rfl
          by_cases hlt : j < K
          · obtain ⟨W1, hrun, h1⟩ := hJ.step (by omega)
            have H1 := Aside0.mk h1
            clear hJ h1
            go_wp2
            go_roundw
            case rel => exact ⟨j + 1, hlt, by go_num, H1⟩
            case measure => simp [intOf]; omega
          · obtain rfl : K = j := by omega
            have b0 : wr.cell? ⟨w.heap.size, 0, none⟩ = some (.slice A1 sets.length c1) := cells_at hJ.b0 (i := 0) rfl
            have hsz := hJ.size
            go_wp2
            rw [show w.heap.size + 3 + 1 = w.heap.size + 4 from rfl, show w.heap.size + 4 + 1 = w.heap.size + 5 from rfl]
            have HGr := Aside0.mk (HJ.out.grow sets.length)
            clear hJ HJ b2 b0 hsz hj hlt
            generalize (((wr.alloc (.cells (nums .i64 (List.replicate sets.length 0)).toArray 3)).alloc (.cells #[.slice (some ⟨w.heap.size + 3, 0, none⟩) sets.length sets.length] 22)).alloc (.cells #[.slice none 0 0] 231)) = W0 at HGr ⊢
            go_loopw [36] (fun v36 wr => ∃ (i : Nat) (V : Int → Value), i ≤ sets.length ∧ v36 = .int .i64 (i : Int) ∧ Aside0 (Gr w A1 c1 sets K (lensTo sets i) (Peel.start K) V (ins (pairs (sets.take i))) wr)) (fun v36 _ => sets.length - (intOf v36).toNat)
            case atStart => exact ⟨0, _, Nat.zero_le _, rfl, by rw [lensTo_zero]; exact HGr⟩
            case round =>
              obtain ⟨i, V, hi, rfl, HI⟩ := hrel
              have hI := HI.out
              by_cases hlt : i < sets.length
              · obtain ⟨ad, A2, c2, e1, hx, hl2, hC2⟩ := at_L1 HS.out (i : Int) (by omega) (by omega)
                subst e1
                replace hx := (hI.core.below.cell (World.block_lt_of_cell? w _ hx)).trans hx
                rw [Int.toNat_natCast] at hx
                obtain ⟨x, hxx⟩ : ∃ x, rd_L1 sets (i : Int) = x := ⟨_, rfl⟩
                have hget : sets[i] = x := by rw [← hxx]; simp [rd_L1, hlt]
                have hmem : x ∈ sets := by rw [← hget]; exact List.getElem_mem hlt
                rw [hxx] at hx hl2 hC2
                have HC2 := Aside0.mk hC2
                have HX := Aside0.mk (HL.out x hmem)
                have hx63 := hC2.2.1
                have hlen := lensTo_len sets i hi
                have b4 : wr.cell? ⟨w.heap.size + 4, 0, none⟩ = some (.slice (some ⟨w.heap.size + 3, 0, none⟩) sets.length sets.length) := by
                  have := cells_at hI.core.b4 (i := 0) rfl
                  rw [hlen] at this
                  exact this
                obtain ⟨z3, c3⟩ : ∃ z, wr.cell? ⟨w.heap.size + 3, i, none⟩ = some (.int .i64 z) := ⟨_, hI.core.row.cell i (by omega)⟩
                have f3 := hI.core.row.frozen i
                have HI2 := HI.out.setMany i (x.length : Int)
                have e3 := lensTo_step sets i hlt
                rw [hget] at e3
                rw [e3] at HI2
                have HI3 := Aside0.mk HI2
                have e4 : pairs (sets.take (i + 1)) = pairs (sets.take i) ++ x.map fun s => (s, (i : Int)) := by
                  rw [List.take_succ_eq_append_getElem hlt, pairs_snoc, hget, List.length_take_of_le hi]
                have e5 : (pairs (sets.take (i + 1))).length ≤ 1099511627776 := Nat.le_trans (pairs_take sets (i + 1)) HP.out
                have E4 := Aside0.mk e4
                have E5 := Aside0.mk e5
                clear hI hxx hget hmem hC2 HI2 e3 HI hlen e4 e5
                go_wp2
                generalize wr.setCell ⟨w.heap.size + 3, i, none⟩ (.int .i64 (x.length : Int)) = W1 at HI3 ⊢
                clear hx c3 f3 b4
                go_loopw [48] (fun v48 wr => ∃ (j : Nat) (V : Int → Value), j ≤ x.length ∧ v48 = .int .i64 (j : Int) ∧ Aside0 (Gr w (some ad) c1 sets K (lensTo sets (i + 1)) (Peel.start K) V (ins (pairs (sets.take i) ++ (x.take j).map fun s => (s, (i : Int)))) wr)) (fun v48 _ => x.length - (intOf v48).toNat)
                case atStart => exact ⟨0, V, Nat.zero_le _, rfl, by rw [List.take_zero, List.map_nil, List.append_nil]; exact HI3⟩
                case round =>
                  obtain ⟨j, V2, hj, rfl, HJ⟩ := hrel
                  have hJ := HJ.out
                  by_cases hlj : j < x.length
                  · obtain ⟨s, hsx⟩ : ∃ s, rd x (j : Int) = s := ⟨_, rfl⟩
                    have hget : x[j] = s := by rw [← hsx]; simp [rd, hlj]
                    have hsm : s ∈ x := by rw [← hget]; exact List.getElem_mem hlj
                    obtain ⟨hs0, hsK⟩ := HX.out s hsm
                    have hs1 : s ≤ 65536 := by omega
                    have hsL : Peel.start (K : Int) s = true := by simp [Peel.start, hs0, hsK]
                    obtain ⟨ad3, e3, hx3⟩ := Kd.at_int (Kd.C_below HC2.out hJ.core.below) (j : Int) (by omega) (by omega)
                    subst e3
                    rw [Int.toNat_natCast, hsx] at hx3
                    have htk : x.take (j + 1) = x.take j ++ [s] := by rw [← hget]; exact List.take_succ_eq_append_getElem hlj
                    obtain ⟨ps, hps⟩ : ∃ ps, pairs (sets.take i) ++ (x.take j).map (fun s => (s, (i : Int))) = ps := ⟨_, rfl⟩
                    have hps2 : pairs (sets.take i) ++ (x.take (j + 1)).map (fun s => (s, (i : Int))) = ps ++ [(s, (i : Int))] := by rw [htk, List.map_append, ← List.append_assoc, hps]; rfl
                    have hpl : ps.length ≤ 1099511627776 := by
                      have h1 := E5.out
                      rw [E4.out, List.length_append, List.length_map] at h1
                      rw [← hps, List.length_append, List.length_map, List.length_take]
                      omega
                    rw [hps] at hJ HJ
                    have hlb : ((ins ps s).length + 1) * 8 ≤ 140737488355328 := by have := ins_len ps s; omega
                    have HD := Aside0.mk HJ.out.drew
                    have hlk := HD.out.core.map.look hs0 hs1 hsL
                    obtain ⟨As, cs, hVs, _⟩ := Kd.Q_slice (HD.out.rows s)
                    have hrw := HD.out.rows s
                    have hlk2 := ((HJ.out.core.map.kept (World.grownBy_alloc _ (.cells #[.int .i64 (i : Int)] 3) none) (by simp)).same (W' := (wr.alloc (.cells #[.int .i64 (i : Int)] 3)).drew) rfl).look hs0 hs1 hsL
                    rw [hVs] at hlk hlk2 hrw
                    have HVs := Aside0.mk hVs
                    have HRW := Aside0.mk hrw
                    have hfld := fun W v => field191 W v
                    clear hVs hrw
                    have c2 : wr.cell? ⟨w.heap.size + 2, 0, none⟩ = some (.map (some (w.heap.size + 1))) := cells_at hJ.core.b2 (i := 0) rfl
                    clear hsx hget hsm htk hps hpl hJ hsK
                    go_wp2
                    go_region_held_law (fun w' => w'.cell? ⟨w.heap.size + 2, 0, none⟩ = some (.map (some (w.heap.size + 1)))) (first | go_keep | assumption | exact q_old _ (by assumption) | exact q_old _ (q_drew (by assumption))) (
                      (refine Kd.Q_append_step (Kd.int .i64) (w0 := wr.drew) (w.heap.size + 6) (by rfl) (.tmp 57) (.tmp 59) 22 3 (.int .i64 0) 8 rfl Tryz.underlying22 info3 rfl (by decide) (by decide) (.slice As (ins ps s).length cs) (ins ps s) (i : Int) [.int .i64 (i : Int)] (fun _ => True) (fun _ => False) (by rfl) (by rfl) rfl (fun _ h => h.elim) (fun _ _ => trivial) HRW.out (Below.refl _ _) HD.out.core.size hlb ?_; intro v1 w1 ho hb hgr hat; rw [← HVs.out] at hgr hat; obtain ⟨Av, cv, hv1, _⟩ := Kd.Q_slice ho; rw [List.length_append, List.length_singleton] at hv1; subst hv1; obtain ⟨w2, hrun, hm2, hg2⟩ := (HD.out.grown hgr).map.set (by show K < 9223372036854775807; omega) hs0 hs1 hsL (.slice Av ((ins ps s).length + 1) cv); have hc1 : w1.cell? ⟨w.heap.size + 2, 0, none⟩ = some (.map (some (w.heap.size + 1))) := cells_at (HD.out.grown hgr).b2 (i := 0) rfl; have hc2 : w2.cell? ⟨w.heap.size + 2, 0, none⟩ = some (.map (some (w.heap.size + 1))) := cells_at ((HD.out.grown hgr).turned hm2 hg2).b2 (i := 0) rfl; have HPut := Aside0.mk (HD.out.put hgr ho hat hm2 hg2); clear ho hb hgr hat hm2 hg2))
                    all_goals
                      have h5 := HPut.out
                      rw [show (fun y => if y = s then ins ps s ++ [(i : Int)] else ins ps y) = ins (ps ++ [(s, (i : Int))]) from funext fun y => (ins_snoc ps s (i : Int) y).symm, ← hps2] at h5
                      have H5 := Aside0.mk h5
                      clear h5 hfld HPut
                      go_wp2
                      go_roundw
                      case rel => exact ⟨j + 1, _, hlj, by go_num, H5⟩
                      case measure => simp [intOf]; omega
                  · obtain rfl : j = x.length := by omega
                    go_wp2
                    refine ⟨⟨i + 1, V2, hlt, by go_num, ⟨?_⟩⟩, by simp [intOf]; omega⟩
                    rw [E4.out]
                    rw [List.take_length] at hJ
                    exact hJ
              · obtain rfl : i = sets.length := by omega
                have h1 := hI.start
                rw [lensTo_all, List.take_length] at h1
                have b0 : wr.cell? ⟨w.heap.size, 0, none⟩ = some (.slice A1 sets.length c1) := cells_at hI.core.b0 (i := 0) rfl
                generalize hN : wr.heap.size = N at h1
                have HT := Aside0.mk h1
                clear h1 hI HI hN HGr hlt hi
                go_wp2
                go_loopw [66] (fun v66 wr => ∃ (j : Nat) (vq : Value), j ≤ sets.length ∧ v66 = .int .i64 (j : Int) ∧ Aside0 (St w A1 c1 sets K (ins (pairs sets)) V N (lens sets) (Peel.start K) vq (first sets (Peel.start K) (lens sets) j) wr)) (fun v66 _ => sets.length - (intOf v66).toNat)
                case atStart => exact ⟨0, _, Nat.zero_le _, rfl, HT⟩
                case round =>
                  obtain ⟨j, vq, hj, rfl, HJ⟩ := hrel
                  by_cases hlj : j < sets.length
                  · have HC := Aside0.mk (stop_Largest.lone w A1 c1 sets K (ins (pairs sets)) V N (lens sets) (Peel.start K) vq (first sets (Peel.start K) (lens sets) j) wr HJ.out HS.out HA.out (by simp [lens]) (j : Int) (by omega) (by omega) (Nat.le_trans (by have h7 := first_len sets (Peel.start K) (lens sets) (j + 1) (sets.length - (j + 1)); rw [show j + 1 + (sets.length - (j + 1)) = sets.length by omega] at h7; exact h7) HQ.out))
                    go_wp2_with fail
                    refine HC.out.mono ?_
                    rintro e w1 ⟨rfl, vq', h5⟩
                    have H5 := Aside0.mk h5
                    clear h5 HC
                    go_wp2
                    go_roundw
                    case rel => exact ⟨j + 1, vq', hlj, by go_num, H5⟩
                    case measure => simp [intOf]; omega
                  · obtain rfl : j = sets.length := by omega
                    go_wp2
                    clear hmk hms H0 HT hlj hj
                    have HF := Aside0.mk (first_small (L := Peel.start K) (many := lens sets) HA.out sets.length)
                    have HML : Aside0 ((lens sets).length = sets.length) := ⟨by simp [lens]⟩
                    go_loopg [73] k (fun kq v73 wr => ∃ (L : Int → Bool) (many q : List Int) (vq : Value), Aside0 (go sets (pairs sets) kq L many q = some R) ∧ Aside0 (many.length = sets.length) ∧ Aside0 (Small q) ∧ Aside0 (St w A1 c1 sets K (ins (pairs sets)) V N many L vq q wr))
                    case atStart => exact ⟨_, _, _, _, HG, HML, HF, HJ⟩
                    case round =>
                      clear HG HML HF HJ
                      obtain ⟨L, many, q, vq, HG, HML, HF, HJ⟩ := hrel
                      obtain ⟨Aq, cq, hvq, _⟩ := Kd.Q_slice HJ.out.own
                      subst hvq
                      have b5 : wr.cell? ⟨w.heap.size + 5, 0, none⟩ = some (.slice Aq q.length cq) := cells_at HJ.out.core.b5 (i := 0) rfl
                      cases gk with
                      | zero => have h := HG.out; rw [go] at h; cases h
                      | succ k1 =>
                        cases q with
                        | nil =>
                          have h := HG.out
                          rw [go] at h
                          obtain rfl := Option.some.inj h
                          clear h HG
                          have b2 : wr.cell? ⟨w.heap.size + 2, 0, none⟩ = some (.map (some (w.heap.size + 1))) := cells_at HJ.out.core.b2 (i := 0) rfl
                          go_wp2
                          go_ret
                          exact ⟨rfl, ⟨V, by rw [Int.toNat_natCast]; exact HJ.out.core.map⟩, HJ.out.core.below⟩
                        | cons s q =>
                          have HC := Aside0.mk (stop_Largest.next w A1 c1 sets K (ins (pairs sets)) V N many L _ s q wr HJ.out)
                          have hs := HF.out s List.mem_cons_self
                          obtain ⟨hs0, hs1⟩ := hs
                          have HF2 : Aside0 (Small q) := ⟨fun x hx => HF.out x (List.mem_cons_of_mem _ hx)⟩
                          go_wp2_with fail
                          refine HC.out.mono ?_
                          rintro e w1 ⟨rfl, vq1, h1⟩
                          have H1 := Aside0.mk h1
                          have hlk := h1.core.map.look_ok hs0 hs1
                          have b2 : w1.cell? ⟨w.heap.size + 2, 0, none⟩ = some (.map (some (w.heap.size + 1))) := cells_at h1.core.b2 (i := 0) rfl
                          obtain ⟨As, cs, hVs, hcs⟩ := Kd.Q_slice (h1.rows s)
                          rw [hVs] at hlk
                          clear h1 HC HJ b5
                          have hg := HG.out
                          rw [go] at hg
                          cases hL : L s with
                          | false =>
                            rw [hL, if_neg (by decide)] at hg
                            rw [hL] at hlk
                            simp only [Bool.false_eq_true, if_false] at hlk
                            have HG1 := Aside0.mk hg
                            clear hg HG
                            go_wp2
                            go_roundg k1
                            case measure => omega
                            case rel => exact ⟨L, many, q, vq1, HG1, HML, HF2, ⟨H1.out.alloc _⟩⟩
                          | true =>
                            rw [hL, if_pos rfl] at hg
                            rw [hL] at hlk
                            simp only [if_true] at hlk
                            by_cases hle : (less sets (fun x => L x && !(x == s)) (ins (pairs sets) s) many q).2.length ≤ 1099511627776
                            · rw [if_pos hle] at hg
                              generalize hL' : (fun x => L x && !(x == s)) = L' at hg hle
                              obtain ⟨⟨mF, qF⟩, hmq⟩ : ∃ z, less sets L' (ins (pairs sets) s) many q = z := ⟨_, rfl⟩
                              rw [hmq] at hg hle
                              have HG1 := Aside0.mk hg
                              have HLE : Aside0 (qF.length ≤ 1099511627776) := ⟨hle⟩
                              have HMQ := Aside0.mk hmq
                              have h2 := H1.out.alloc (.cells #[.slice As (ins (pairs sets) s).length cs] 191)
                              obtain ⟨W3, hdel, hm3, hg3⟩ := h2.core.map.drop hs0 hs1 0
                              have h3 := h2.turned hm3 hg3
                              rw [hL'] at h3
                              have H3 := Aside0.mk h3
                              have b2a := q_old (.cells #[.slice As (ins (pairs sets) s).length cs] 191) b2
                              have c16 : W3.cell? ⟨w1.heap.size, 0, none⟩ = some (.slice As (ins (pairs sets) s).length cs) := by
                                have h6 := World.alloc_heap_new w1 (.cells #[.slice As (ins (pairs sets) s).length cs] 191)
                                rw [← hg3.block w1.heap.size (by simp) (fun e => by have := H1.out.core.size; have := Option.some.inj e; omega)] at h6
                                exact cells_at h6 (i := 0) rfl
                              clear hg hle hmq h2 h3 hm3 hg3 HG
                              go_wp2
                              clear hlk hdel b2 b2a c16 hL'
                              obtain ⟨ws, hws⟩ : ∃ ws, ins (pairs sets) s = ws := ⟨_, rfl⟩
                              rw [hws] at HMQ
                              have HW : Aside0 (∀ i ∈ ws, 0 ≤ i ∧ i < sets.length) := ⟨fun i hi => ins_mem (hws.symm ▸ hi)⟩
                              have HVs : Aside0 (V s = .slice As ws.length cs) := ⟨by rw [hVs, hws]⟩
                              have HWs := Aside0.mk hws
                              rw [hws] at hcs ⊢
                              clear hVs hws H1
                              have hws63 : ws.length ≤ 9223372036854775807 := by have h8 := H3.out.rows s; rw [HVs.out, HWs.out] at h8; exact (Kd.Q_reads' h8).2.2.2.1
                              go_loopw [90] (fun v90 wr => ∃ (j : Nat) (many q : List Int) (vq : Value), j ≤ ws.length ∧ v90 = .int .i64 (j : Int) ∧ Aside0 (many.length = sets.length) ∧ Aside0 (Small q) ∧ Aside0 (less sets L' (ws.drop j) many q = (mF, qF)) ∧ Aside0 (St w A1 c1 sets K (ins (pairs sets)) V N many L' vq q wr)) (fun v90 _ => ws.length - (intOf v90).toNat)
                              case atStart => exact ⟨0, _, _, _, Nat.zero_le _, rfl, HML, HF2, HMQ, H3⟩
                              case round =>
                                clear HML HF2 HMQ H3 HF
                                obtain ⟨j, many, q, vq, hj, rfl, HML, HF, HMQ, HJ⟩ := hrel
                                have hJ := HJ.out
                                have hml := HML.out
                                by_cases hlj : j < ws.length
                                · obtain ⟨i, hix⟩ : ∃ i, rd ws (j : Int) = i := ⟨_, rfl⟩
                                  have hget : ws[j] = i := by rw [← hix]; simp [rd, hlj]
                                  obtain ⟨hi0, hi1⟩ := HW.out i (by rw [← hget]; exact List.getElem_mem hlj)
                                  have hrw := hJ.rows s
                                  rw [HVs.out, HWs.out] at hrw
                                  obtain ⟨ad4, e4, hx4⟩ := Kd.at_int (Kd.Q_reads' hrw).2.2 (j : Int) (by omega) (by omega)
                                  subst e4
                                  rw [Int.toNat_natCast, hix] at hx4
                                  have hmq := HMQ.out
                                  rw [List.drop_eq_getElem_cons hlj, hget, less] at hmq
                                  have b4 : wr.cell? ⟨w.heap.size + 4, 0, none⟩ = some (.slice (some ⟨w.heap.size + 3, 0, none⟩) sets.length sets.length) := by
                                    have h6 := cells_at hJ.core.b4 (i := 0) rfl
                                    rw [hml] at h6
                                    exact h6
                                  have hin : i.toNat < many.length := by omega
                                  have c3 := hJ.core.row.cell i.toNat hin
                                  have hrd : rd many i = many[i.toNat] := by simp [rd, hin]
                                  rw [← hrd] at c3
                                  have f3 := hJ.core.row.frozen i.toNat
                                  have h7 := hJ.setMany i.toNat (wrap64 (rd many i - 1))
                                  generalize hmn : many.set i.toNat (wrap64 (rd many i - 1)) = many2 at h7 hmq
                                  have HML2 : Aside0 (many2.length = sets.length) := ⟨by rw [← hmn, List.length_set]; exact hml⟩
                                  have hlb : (Peel.lone sets L' many2 q i).length ≤ 1099511627776 := by
                                    have h8 := less_len sets L' (ws.drop (j + 1)) many2 (Peel.lone sets L' many2 q i)
                                    rw [hmq] at h8
                                    exact Nat.le_trans h8 HLE.out
                                  have HC := Aside0.mk (stop_Largest.lone w A1 c1 sets K (ins (pairs sets)) V N many2 L' vq q _ h7 HS.out HA.out HML2.out i hi0 hi1 hlb)
                                  have HMQ2 := Aside0.mk hmq
                                  have HF3 : Aside0 (Small (Peel.lone sets L' many2 q i)) := ⟨lone_small HA.out HF.out⟩
                                  clear hmq h7 hlb hJ hrw hrd hget hix
                                  go_wp2_with fail
                                  refine HC.out.mono ?_
                                  rintro e w2 ⟨rfl, vq2, h5⟩
                                  have H5 := Aside0.mk h5
                                  clear h5 HC
                                  go_wp2
                                  go_roundw
                                  case rel => exact ⟨j + 1, many2, _, vq2, hlj, by go_num, HML2, HF3, HMQ2, H5⟩
                                  case measure => simp [intOf]; omega
                                · obtain rfl : j = ws.length := by omega
                                  have hmq := HMQ.out
                                  rw [List.drop_length, less] at hmq
                                  obtain ⟨rfl, rfl⟩ := Prod.mk.inj hmq
                                  go_wp2
                                  go_roundg k1
                                  case measure => omega
                                  case rel => exact ⟨L', many, q, vq, HG1, HML, HF, HJ⟩
                            · rw [if_neg hle] at hg; cases hg
      · rw [if_neg hq] at h; cases h
    · rw [if_neg hp] at h; cases h
  · rw [if_neg hf] at h; cases h
theorem stop_Largest.within {k : Nat} {kk : Int} {sets : List (List Int)} {R : Int → Bool} (h : stop_Largest.unknown k kk sets = some R) : 1 ≤ kk ∧ kk ≤ 65536 ∧ ∀ x, R x = true → 0 ≤ x ∧ x < kk := by
  rw [stop_Largest.unknown] at h
  by_cases hf : stop_Largest.fits kk sets = true
  · rw [if_pos hf] at h
    by_cases hp : (pairs sets).length ≤ 1099511627776
    · rw [if_pos hp] at h
      by_cases hq : (first sets (Peel.start kk) (lens sets) sets.length).length ≤ 1099511627776
      · rw [if_pos hq] at h
        simp only [stop_Largest.fits, Bool.and_eq_true, decide_eq_true_eq] at hf
        refine ⟨hf.1.2, hf.2, fun x hx => ?_⟩
        have := go_sub _ _ _ _ _ _ _ h x hx
        simpa [Peel.start] using this
      · rw [if_neg hq] at h; cases h
    · rw [if_neg hp] at h; cases h
  · rw [if_neg hf] at h; cases h
set_option maxRecDepth 100000 in
set_option maxHeartbeats 4000000 in
theorem stop_Largest.calls (k : Nat) (a0 : Int) (A1 : Option Addr) (c1 : Nat) (l1 : List (List Int)) (r1 : List Int) (r2 : Int) (w : World) (hr1 : Kd.C (Kd.slice 3 (Kd.int .i64)) w A1 l1.length l1) (hc1 : l1.length ≤ c1) (h : stop_Largest.f k a0 l1 = some (r1, r2)) :
    Calls Tryz.prog 102 #[.int .i64 a0, .slice A1 l1.length c1] w fun e w' => ∃ v1_ : Value, e = .returned (.tuple #[v1_, .int .i64 r2]) ∧ (Kd.int .i64).R 3 w' w.heap.size (fun _ => True) v1_ r1 ∧ Below w.heap.size w w' := by
  obtain ⟨e, he, h1⟩ := Option.bind_eq_some_iff.1 h
  have HE := Aside0.mk (stop_refuses.calls k a0 A1 c1 l1 e w hr1 hc1 he)
  have HR := Aside0.mk hr1
  have H1 := Aside0.mk h1
  clear h h1 he hr1 hc1
  go_enter Tryz.func102, Tryz.ntmps102
  go_wp2_with fail
  refine HE.out.mono ?_
  rintro e1 w1 ⟨rfl, hb⟩
  have HB := Aside0.mk hb
  clear hb HE
  by_cases he0 : e = 0
  · subst he0
    have h1 := H1.out
    rw [if_pos rfl] at h1
    obtain ⟨R, hR, h2⟩ := Option.bind_eq_some_iff.1 h1
    simp only [Option.some.injEq, Prod.mk.injEq] at h2
    obtain ⟨rfl, rfl⟩ := h2
    have HU := Aside0.mk (stop_Largest.calls168 k a0 A1 c1 l1 R w1 (Kd.C_below HR.out HB.out) hR)
    have HRR := Aside0.mk hR
    clear h1 hR H1
    go_wp2_with fail
    refine HU.out.mono ?_
    rintro e2 w2 ⟨rfl, ⟨V, hm⟩, hb⟩
    obtain ⟨hk0, hk1, hRr⟩ := stop_Largest.within HRR.out
    obtain ⟨K, rfl⟩ : ∃ K : Nat, a0 = (K : Int) := ⟨a0.toNat, by omega⟩
    rw [Int.toNat_natCast] at hm
    obtain ⟨D, hD, hperm⟩ := hm.keys (list_nodup K R) (fun x => ⟨fun hx => (list_mem.1 hx).2, fun hx => list_mem.2 ⟨hRr x hx, hx⟩⟩) (list_rises K R)
    have hsz : Maps.size D ≤ 65536 := Nat.le_trans hD.size_le (by omega)
    have HB2 := Aside0.mk (below_step HB.out hb)
    have HS := Aside0.mk (Tryz.slices_Sorted_keys (w1.heap.size + 1) K D raw w2 hD (by show Maps.size D ≤ 9223372036854775807; omega) (by omega))
    have HP := Aside0.mk hperm
    clear hm hD hperm hb hRr
    go_wp2_with fail
    refine (Tryz.maps_Keys_167 _ _).mono ?_
    rintro e3 w3 ⟨rfl, rfl⟩
    go_wp2_with fail
    refine HS.out.mono ?_
    rintro e4 w4 ⟨v, ss, rfl, hss, hown, _, hb4⟩
    obtain ⟨hl, hlen⟩ := HP.out ss hss
    rw [hl, hlen] at hown
    have HOwn := Aside0.mk hown
    have HB4 := Aside0.mk hb4
    clear hown hb4 hss hl hlen HS HP
    go_wp2
    go_ret2
    refine ⟨_, rfl, ?_, ?_⟩
    · refine Kd.R_lower (Kd.R_of_own HOwn.out (fun _ _ => trivial)) ?_
      have := HB2.out.size
      simp
      omega
    · exact below_step (below_alloc HB2.out _) HB4.out
  · have h1 := H1.out
    rw [if_neg he0] at h1
    simp only [Option.some.injEq, Prod.mk.injEq] at h1
    obtain ⟨rfl, rfl⟩ := h1
    have hne : (e != 0) = true := by simpa using he0
    clear H1
    go_wp2
    go_ret2
    exact ⟨_, rfl, Kd.R_nil _ _ _ _ _, HB.out⟩
end
def stop_Fails.f (k : Nat) (a0 : Int) (l1 : List (List Int)) : Option (Bool × Int) := (stop_Largest.f k a0 l1).bind fun bt504 => (some (decide ((bt504.1.length : Int) > 0), bt504.2))
set_option maxHeartbeats 8000000 in
set_option maxRecDepth 100000 in
theorem stop_Fails.calls (k : Nat) (a0 : Int) (A1 : Option Addr) (c1 : Nat) (l1 : List (List Int)) (r1 : Bool) (r2 : Int) (w : World) (hr1 : Kd.C (Kd.slice 3 (Kd.int .i64)) w A1 l1.length l1) (hc1 : l1.length ≤ c1) (h : stop_Fails.f k a0 l1 = some (r1, r2)) :
    Calls Tryz.prog 114 #[.int .i64 a0, .slice A1 l1.length c1] w fun e w' => e = .returned (.tuple #[.bool r1, .int .i64 r2]) ∧ Below w.heap.size w w' := by
  have HR1 := Aside0.mk hr1
  have HC1 := Aside0.mk hc1
  clear hr1 hc1
  have HB := Aside0.mk (Below.refl w.heap.size w)
  have H : ((stop_Largest.f k a0 l1).bind fun bt504 => (some (decide ((bt504.1.length : Int) > 0), bt504.2))) = some (r1, r2) := h
  clear h
  replace H := Option.bind_eq_some_iff.mp H
  obtain ⟨⟨t504, t507⟩, A30, H⟩ := H
  replace H : (some (decide ((t504.length : Int) > 0), t507)) = some (r1, r2) := H
  have A3 := Aside0.mk A30
  clear A30
  simp only [Option.some.injEq, Prod.mk.injEq] at H
  obtain ⟨rfl, rfl⟩ := H
  go_enter Tryz.func114, Tryz.ntmps114
  go_wp2_with (first | ((with_reducible refine gate_callee (f := 102) rfl ?_); refine goesL_ (some 11) rfl rfl Tryz.func102 (by kernel_rfl) rfl #[.int .i64 a0, .slice A1 l1.length c1] rfl (by (try simp only [List.map_toArray, List.map_cons, List.map_nil]); first | done | rfl | (simp only [List.length_drop, List.length_take]; rfl)) ?_; (with_reducible refine (stop_Largest.calls k a0 _ _ l1 t504 t507 _ ?side1 ?side2 A3.out).mono ?_); (case side1 => repeat (first | exact HR1.out | (with_reducible refine Kd.C_alloc ?_ _) | (with_reducible refine Kd.C_drewN ?_ _) | (with_reducible refine Kd.C_drew ?_))); (case side2 => exact HC1.out); rintro e w4 ⟨v505, rfl, ho0, hb⟩; refine ⟨_, rfl, ?_⟩; have n0_ := Aside0.mk (Kd.R_lower (Kd.R_mono (ok' := fun k_ => True) ho0 (fun _ hk_ => trivial)) (below_size (by repeat (first | (with_reducible first | exact HB.out | apply below_alloc | apply pw_below_drewN | apply below_drew1) | exact HB.out)))); have n1_ := Aside0.mk (below_step (by repeat (first | (with_reducible first | exact HB.out | apply below_alloc | apply pw_below_drewN | apply below_drew1) | exact HB.out)) hb); clear HB; have HO506 := n0_; have HB := n1_; clear n0_ n1_; (try clear hb); (try clear hb2); (try clear hk); (try clear hi); (try clear ho0); obtain ⟨Ao5, co5, eo5⟩ := Kd.R_slice HO506.out; subst eo5))
  go_ret2
  exact ⟨by first | rfl | (simp [errW_none, errW_some] <;> rfl) | (simp [*, errW_none, errW_some] <;> rfl), by repeat (first | (with_reducible first | exact HB.out | apply below_alloc | apply pw_below_drewN | apply below_drew1) | exact HB.out)⟩
def mass_fails.f (k : Nat) (a0 : Int) (l1 : List (List Int)) : Option (Bool) := (stop_Fails.f k a0 l1).bind fun bt508 => (some bt508.1)
set_option maxHeartbeats 8000000 in
set_option maxRecDepth 100000 in
theorem mass_fails.calls (k : Nat) (a0 : Int) (A1 : Option Addr) (c1 : Nat) (l1 : List (List Int)) (r : Bool) (w : World) (hr1 : Kd.C (Kd.slice 3 (Kd.int .i64)) w A1 l1.length l1) (hc1 : l1.length ≤ c1) (h : mass_fails.f k a0 l1 = some r) :
    Calls Tryz.prog 66 #[.int .i64 a0, .slice A1 l1.length c1] w fun e w' => e = .returned (.bool r) ∧ Below w.heap.size w w' := by
  have HR1 := Aside0.mk hr1
  have HC1 := Aside0.mk hc1
  clear hr1 hc1
  have HB := Aside0.mk (Below.refl w.heap.size w)
  have H : ((stop_Fails.f k a0 l1).bind fun bt508 => (some bt508.1)) = some r := h
  clear h
  replace H := Option.bind_eq_some_iff.mp H
  obtain ⟨⟨t508, t509⟩, A30, H⟩ := H
  replace H : (some t508) = some r := H
  have A3 := Aside0.mk A30
  clear A30
  obtain rfl := Option.some.inj H
  go_enter Tryz.func66, Tryz.ntmps66
  go_wp2_with (first | ((with_reducible refine gate_callee (f := 114) rfl ?_); refine goesL_ (some 10) rfl rfl Tryz.func114 (by kernel_rfl) rfl #[.int .i64 a0, .slice A1 l1.length c1] rfl (by (try simp only [List.map_toArray, List.map_cons, List.map_nil]); first | done | rfl | (simp only [List.length_drop, List.length_take]; rfl)) ?_; (with_reducible refine (stop_Fails.calls k a0 _ _ l1 t508 t509 _ ?side1 ?side2 A3.out).mono ?_); (case side1 => repeat (first | exact HR1.out | (with_reducible refine Kd.C_alloc ?_ _) | (with_reducible refine Kd.C_drewN ?_ _) | (with_reducible refine Kd.C_drew ?_))); (case side2 => exact HC1.out); rintro e w4 ⟨rfl, hb⟩; refine ⟨_, rfl, ?_⟩; have n0_ := Aside0.mk (below_step (by repeat (first | (with_reducible first | exact HB.out | apply below_alloc | apply pw_below_drewN | apply below_drew1) | exact HB.out)) hb); clear HB; have HB := n0_; clear n0_; (try clear hb); (try clear hb2); (try clear hk); (try clear hi)))
  go_ret
  exact ⟨by first | rfl | (simp [errW_none, errW_some] <;> rfl) | (simp [*, errW_none, errW_some] <;> rfl), by repeat (first | (with_reducible first | exact HB.out | apply below_alloc | apply pw_below_drewN | apply below_drew1) | exact HB.out)⟩
def mass_Fail.f (k : Nat) (l0 : List Int) (a1 : Int) (a2 : Int) : Option (Bool × List Int × List Int × Int) := (mass_drawn.f k l0 a1 a2).bind fun t => if t.2 = 0 then (mass_sum.f k (fun sets => mass_fails.f k a1 sets) t.1 a2).bind fun r => some (r.1.f0.f0, r.1.f0.f1, r.1.f1, r.2) else some (false, [], [], t.2)
theorem mass_Fail.res {tm : Array Value} {W : World} (b : Nat) (e : Int) (u0 u1 u2 : Value) (h8 : tm[6]? = some (.pointer (some ⟨b, 0, none⟩))) (h9 : tm[7]? = some (.int .i64 e)) (hb : W.heap[b]? = some (.cells #[u0, u1, u2] 44 (0, 0))) :
    (results Tryz.f26 tm).run Tryz.prog W = .ok (.tuple #[.agg #[u0, u1, u2], .int .i64 e]) W := by
  have hu44 := Tryz.underlying44
  have hu42 := Tryz.underlying42
  have z0 := cells_at (i := 0) hb rfl
  have z1 := cells_at (i := 1) hb rfl
  have z2 := cells_at (i := 2) hb rfl
  have e8 : tm.getD 6 undef = .pointer (some ⟨b, 0, none⟩) := by rw [Array.getD_eq_getD_getElem?, h8]; rfl
  have e9 : tm.getD 7 undef = .int .i64 e := by rw [Array.getD_eq_getD_getElem?, h9]; rfl
  simp [results, Tryz.f26, go_sem, h8, h9, e8, e9, z0, z1, z2, hu44, hu42]
set_option maxRecDepth 100000 in
set_option maxHeartbeats 4000000 in
theorem mass_Fail.calls (k : Nat) (A0 : Option Addr) (c0 : Nat) (l0 : List Int) (a1 : Int) (a2 : Int) (r1 : Bool) (r2 : List Int) (r3 : List Int) (r4 : Int) (w : World) (hr0 : Kd.C (Kd.int .i64) w A0 l0.length l0) (hc0 : l0.length ≤ c0) (h : mass_Fail.f k l0 a1 a2 = some (r1, r2, r3, r4)) :
    Calls Tryz.prog 26 #[.slice A0 l0.length c0, .int .i64 a1, .int .i64 a2] w fun e w' => ∃ v1_ v2_ : Value, e = .returned (.tuple #[.agg #[.bool r1, v1_, v2_], .int .i64 r4]) ∧ Kd.V (Kd.int .u64) 112 w' w.heap.size (fun k_ => (w.heap.size ≤ k_)) v1_ r2 ∧ Kd.V (Kd.int .u64) 112 w' w.heap.size (fun k_ => (w.heap.size ≤ k_)) v2_ r3 ∧ Below w.heap.size w w' := by
  have hu44 := Tryz.underlying44
  have hu42 := Tryz.underlying42
  obtain ⟨⟨l, e⟩, hd, h⟩ := Option.bind_eq_some_iff.1 h
  have HR0 := Aside0.mk hr0
  have HC0 := Aside0.mk hc0
  have HD := Aside0.mk hd
  have H := Aside0.mk h
  clear hr0 hc0 hd h
  have hc := mass_drawn.calls k A0 c0 l0 a1 a2 l e (w.alloc (.cells #[.bool false, .slice none 0 0, .slice none 0 0] 44)) (Kd.C_alloc HR0.out _) HC0.out HD.out
  have HC := Aside0.mk hc
  clear hc
  go_enter Tryz.func26, Tryz.ntmps26
  go_wp2_with fail
  refine HC.out.mono ?_
  rintro en w1 ⟨v0, rfl, hv, hb⟩
  obtain ⟨Av, cv, rfl, lv, hCv⟩ := Kd.N_reads hv
  have b0 := blk_below' (World.alloc_heap_new w (.cells #[.bool false, .slice none 0 0, .slice none 0 0] 44)) hb
  have hb1 : Below w.heap.size w w1 := (below_alloc (Below.refl _ _) _).trans (hb.mono (by simp))
  by_cases he : e = 0
  · subst he
    have h2 := H.out
    rw [if_pos rfl] at h2
    obtain ⟨⟨z, e2⟩, hs, h3⟩ := Option.bind_eq_some_iff.1 h2
    have h4 := Option.some.inj h3
    simp only [Prod.mk.injEq] at h4
    obtain ⟨rfl, rfl, rfl, rfl⟩ := h4
    have hsum := mass_sum.calls 66 (enters_of Tryz.func66 (by kernel_rfl) rfl) a1 (fun sets => mass_fails.f k a1 sets) (fun A c sets b w hC hc hw => (mass_fails.calls k a1 A c sets b w hC hc hw).mono (fun e w2 hh => by obtain ⟨rfl, hb⟩ := hh; exact ⟨rfl, hb⟩)) k Av cv l a2 z e2 w1 hCv hs
    have HS := Aside0.mk hsum
    have HB := Aside0.mk (And.intro b0 hb1)
    clear hsum hs h2 h3 hv hb hb1 hCv H HC HR0 HC0 HD b0
    go_wp2_with fail
    refine HS.out.mono ?_
    rintro en w2 ⟨u1, u2, rfl, ⟨X1, x1, rfl, k1, f1⟩, ⟨X2, x2, rfl, k2, f2⟩, hb2⟩
    have b2 := blk_below' HB.out.1 hb2
    have hb3 : Below w.heap.size w w2 := HB.out.2.trans (hb2.mono HB.out.2.size)
    have p0 := cells_at (i := 0) b2 rfl
    have p1 := cells_at (i := 1) b2 rfl
    have p2 := cells_at (i := 2) b2 rfl
    have r0 := cells_frozen b2 0
    have r1 := cells_frozen b2 1
    have r2 := cells_frozen b2 2
    have z0 := q_setne (b := w.heap.size) (i := 1) (b' := w.heap.size) (i' := 0) (v := .bool z.f0.f0) (.inr (by decide)) p1
    have z1 := q_setne (b := w.heap.size) (i := 2) (b' := w.heap.size) (i' := 1) (v := .slice X1 z.f0.f1.length x1) (.inr (by decide)) (q_setne (b := w.heap.size) (i := 2) (b' := w.heap.size) (i' := 0) (v := .bool z.f0.f0) (.inr (by decide)) p2)
    have HV := Aside0.mk (And.intro k1 (And.intro f1 (And.intro k2 f2)))
    have HB2 := Aside0.mk (And.intro b2 hb3)
    have hlt : w.heap.size < w1.heap.size := blk_lt' HB.out.1
    clear k1 f1 k2 f2 b2 hb3 hb2 HS
    go_wp2
    refine bodyPost_ret (v := .tuple #[.agg #[.bool z.f0.f0, .slice X1 z.f0.f1.length x1, .slice X2 z.f1.length x2], .int .i64 e2]) (by exact mass_Fail.res w.heap.size e2 _ _ _ rfl rfl (cells_set (cells_set (cells_set HB2.out.1 0 _) 1 _) 2 _)) rfl ?_
    refine ⟨_, _, rfl, ⟨X1, x1, rfl, HV.out.1, ?_⟩, ⟨X2, x2, rfl, HV.out.2.2.1, ?_⟩, ((HB2.out.2.setCell (p := ⟨w.heap.size, 0, none⟩) (Nat.le_refl _) _).setCell (p := ⟨w.heap.size, 1, none⟩) (Nat.le_refl _) _).setCell (p := ⟨w.heap.size, 2, none⟩) (Nat.le_refl _) _⟩
    · exact Kd.F_mono (Kd.F_far (p := ⟨w.heap.size, 2, none⟩) (Kd.F_far (p := ⟨w.heap.size, 1, none⟩) (Kd.F_far (p := ⟨w.heap.size, 0, none⟩) HV.out.2.1 (fun i hi => by show i ≠ w.heap.size; omega) _) (fun i hi => by show i ≠ w.heap.size; omega) _) (fun i hi => by show i ≠ w.heap.size; omega) _) (fun i hi => by omega)
    · exact Kd.F_mono (Kd.F_far (p := ⟨w.heap.size, 2, none⟩) (Kd.F_far (p := ⟨w.heap.size, 1, none⟩) (Kd.F_far (p := ⟨w.heap.size, 0, none⟩) HV.out.2.2.2 (fun i hi => by show i ≠ w.heap.size; omega) _) (fun i hi => by show i ≠ w.heap.size; omega) _) (fun i hi => by show i ≠ w.heap.size; omega) _) (fun i hi => by omega)
  · have h2 := H.out
    rw [if_neg he] at h2
    have h4 := Option.some.inj h2
    simp only [Prod.mk.injEq] at h4
    obtain ⟨rfl, rfl, rfl, rfl⟩ := h4
    have heb : (e != 0) = true := by rw [bne_iff_ne]; exact he
    have p0 := cells_at (i := 0) b0 rfl
    have p1 := cells_at (i := 1) b0 rfl
    have p2 := cells_at (i := 2) b0 rfl
    have r0 := cells_frozen b0 0
    have r1 := cells_frozen b0 1
    have r2 := cells_frozen b0 2
    have z0 := q_setne (b := w.heap.size) (i := 1) (b' := w.heap.size) (i' := 0) (v := .bool false) (.inr (by decide)) p1
    have z1 := q_setne (b := w.heap.size) (i := 2) (b' := w.heap.size) (i' := 1) (v := .slice none 0 0) (.inr (by decide)) (q_setne (b := w.heap.size) (i := 2) (b' := w.heap.size) (i' := 0) (v := .bool false) (.inr (by decide)) p2)
    have HB2 := Aside0.mk (And.intro b0 hb1)
    clear b0 hb1 hb hv hCv h2 H he
    go_wp2
    refine bodyPost_ret (v := .tuple #[.agg #[.bool false, .slice none 0 0, .slice none 0 0], .int .i64 e]) (by exact mass_Fail.res w.heap.size e _ _ _ rfl rfl (cells_set (cells_set (cells_set HB2.out.1 0 _) 1 _) 2 _)) rfl ?_
    exact ⟨_, _, rfl, ⟨none, 0, rfl, Nat.le_refl _, Kd.F_nil _ _ _⟩, ⟨none, 0, rfl, Nat.le_refl _, Kd.F_nil _ _ _⟩, ((HB2.out.2.setCell (p := ⟨w.heap.size, 0, none⟩) (Nat.le_refl _) _).setCell (p := ⟨w.heap.size, 1, none⟩) (Nat.le_refl _) _).setCell (p := ⟨w.heap.size, 2, none⟩) (Nat.le_refl _) _⟩
def artesianlaw23_fails.f (k : Nat) (l0 : List Int) (a1 : Int) (a2 : Int) (a3 : Int) (a4 : Int) : Option (Bool) := (mass_Fail.f k l0 a1 a2).bind fun bt530 => ((artesianlaw23_is.f k bt530.1 bt530.2.1 bt530.2.2.1 bt530.2.2.2 a3 a4).bind fun t539 => (some t539))
set_option maxHeartbeats 8000000 in
set_option maxRecDepth 100000 in
theorem artesianlaw23_fails.calls (k : Nat) (A0 : Option Addr) (c0 : Nat) (l0 : List Int) (a1 : Int) (a2 : Int) (a3 : Int) (a4 : Int) (r : Bool) (w : World) (hr0 : Kd.C (Kd.int .i64) w A0 l0.length l0) (hc0 : l0.length ≤ c0) (h : artesianlaw23_fails.f k l0 a1 a2 a3 a4 = some r) :
    Calls Tryz.prog 56 #[.slice A0 l0.length c0, .int .i64 a1, .int .i64 a2, .int .i64 a3, .int .i64 a4] w fun e w' => e = .returned (.bool r) ∧ Below w.heap.size w w' := by
  have hu44 := Tryz.underlying44
  have HR0 := Aside0.mk hr0
  have HC0 := Aside0.mk hc0
  clear hr0 hc0
  have HB := Aside0.mk (Below.refl w.heap.size w)
  have H : ((mass_Fail.f k l0 a1 a2).bind fun bt530 => ((artesianlaw23_is.f k bt530.1 bt530.2.1 bt530.2.2.1 bt530.2.2.2 a3 a4).bind fun t539 => (some t539))) = some r := h
  clear h
  replace H := Option.bind_eq_some_iff.mp H
  obtain ⟨⟨t530, t531, t534, t537⟩, A60, H⟩ := H
  replace H : ((artesianlaw23_is.f k t530 t531 t534 t537 a3 a4).bind fun t539 => (some t539)) = some r := H
  have A6 := Aside0.mk A60
  clear A60
  replace H := Option.bind_eq_some_iff.mp H
  obtain ⟨t539, A70, H⟩ := H
  replace H : (some t539) = some r := H
  have A7 := Aside0.mk A70
  clear A70
  obtain rfl := Option.some.inj H
  go_enter Tryz.func56, Tryz.ntmps56
  go_wp2_with (first | ((with_reducible refine gate_callee (f := 26) rfl ?_); refine goesL_ (some 17) rfl rfl Tryz.func26 (by kernel_rfl) rfl #[.slice A0 l0.length c0, .int .i64 a1, .int .i64 a2] rfl (by (try simp only [List.map_toArray, List.map_cons, List.map_nil]); first | done | rfl | (simp only [List.length_drop, List.length_take]; rfl)) ?_; (with_reducible refine (mass_Fail.calls k _ _ l0 a1 a2 t530 t531 t534 t537 _ ?side1 ?side2 A6.out).mono ?_); (case side1 => repeat (first | exact HR0.out | (with_reducible refine Kd.C_alloc ?_ _) | (with_reducible refine Kd.C_drewN ?_ _) | (with_reducible refine Kd.C_drew ?_))); (case side2 => exact HC0.out); rintro e w8 ⟨v532, v535, rfl, ho0, ho1, hb⟩; refine ⟨_, rfl, ?_⟩; have n0_ := Aside0.mk (Kd.V_lower (Kd.V_mono (ok' := fun k_ => True) ho0 (fun k_ hk_ => trivial)) (below_size (by repeat (first | (with_reducible first | exact HB.out | apply below_alloc | apply pw_below_drewN | apply below_drew1) | exact HB.out)))); have n1_ := Aside0.mk (Kd.V_lower (Kd.V_mono (ok' := fun k_ => True) ho1 (fun k_ hk_ => trivial)) (below_size (by repeat (first | (with_reducible first | exact HB.out | apply below_alloc | apply pw_below_drewN | apply below_drew1) | exact HB.out)))); have n2_ := Aside0.mk (below_step (by repeat (first | (with_reducible first | exact HB.out | apply below_alloc | apply pw_below_drewN | apply below_drew1) | exact HB.out)) hb); clear HB; have HO533 := n0_; have HO536 := n1_; have HB := n2_; clear n0_ n1_ n2_; (try clear hb); (try clear hb2); (try clear hk); (try clear hi); (try clear ho0); (try clear ho1)) | ((with_reducible refine gate_dst (N := 11) rfl ?_); refine box_event ?hg (N := 11) ?hd (cs := #[.bool false, .slice none 0 0, .slice none 0 0]) (t := 44) ?hr ?_; (case hd => rfl); (case hg => rfl); (case hr => first | (go_simp; done) | (go_simp; rfl)); intro gb538 hg w9 hbox hb; have n0_ := Aside0.mk (Kd.V_below (Kd.V_elderB (by (with_reducible repeat (first | apply Kd.V_alloc | apply Kd.V_drewN | apply Kd.V_drew)); exact HO533.out) gb538 (Nat.le_of_eq hg.symm)) hb); have n1_ := Aside0.mk (Kd.V_below (Kd.V_elderB (by (with_reducible repeat (first | apply Kd.V_alloc | apply Kd.V_drewN | apply Kd.V_drew)); exact HO536.out) gb538 (Nat.le_of_eq hg.symm)) hb); have n2_ := Aside0.mk (below_step (by repeat (first | (with_reducible first | exact HB.out | apply below_alloc | apply pw_below_drewN | apply below_drew1) | exact HB.out)) hb); have n3_ := Aside0.mk (hbox); have n4_ := Aside0.mk ((by rw [hg]; exact (below_size (by repeat (first | (with_reducible first | exact HB.out | apply below_alloc | apply pw_below_drewN | apply below_drew1) | exact HB.out))) : w.heap.size ≤ gb538)); have n5_ := Aside0.mk ((by rw [hg]; exact (below_size (by repeat (first | (with_reducible first | exact HB.out | apply below_alloc | apply pw_below_drewN | apply below_drew1) | exact HB.out))) : w.heap.size ≤ gb538)); clear HO533; clear HO536; clear HB; have HO533 := n0_; have HO536 := n1_; have HB := n2_; have BK538 := n3_; have GW538 := n4_; have GE538 := n5_; clear n0_ n1_ n2_ n3_ n4_ n5_; clear hb hbox hg; have hcz10_0 : w9.cell? ⟨gb538, 0, none⟩ = some (.bool false) := (blk_cell BK538.out 0).trans rfl; have hcz10_1 : w9.cell? ⟨gb538, 1, none⟩ = some (.slice none 0 0) := (blk_cell BK538.out 1).trans rfl; have hcz10_2 : w9.cell? ⟨gb538, 2, none⟩ = some (.slice none 0 0) := (blk_cell BK538.out 2).trans rfl; have hfz10_0 := blk_frozen BK538.out 0; have hfz10_1 := blk_frozen BK538.out 1; have hfz10_2 := blk_frozen BK538.out 2; obtain ⟨Ao11, co11, eo11⟩ := Kd.V_slice HO533.out; subst eo11; obtain ⟨Ao12, co12, eo12⟩ := Kd.V_slice HO536.out; subst eo12) | ((with_reducible refine gate_callee (f := 29) rfl ?_); refine goesL_ (some 24) rfl rfl Tryz.func29 (by kernel_rfl) rfl #[.agg #[.bool t530, .slice Ao11 t531.length co11, .slice Ao12 t534.length co12], .int .i64 t537, .int .i64 a3, .int .i64 a4] rfl (by (try simp only [List.map_toArray, List.map_cons, List.map_nil]); first | done | rfl | (simp only [List.length_drop, List.length_take]; rfl)) ?_; (with_reducible refine (artesianlaw23_is.calls k t530 _ _ t531 _ _ t534 t537 a3 a4 t539 _ ?side1 ?side2 ?side3 ?side4 A7.out).mono ?_); (case side1 => refine (Kd.V_reads' (e := 112) (base := w.heap.size) (ok := fun k_ => (True ∧ k_ ≠ gb538)) (n := t531.length) (c := co11) ?_).2.2; exact (by (with_reducible repeat (first | apply Kd.V_alloc | apply Kd.V_drewN | apply Kd.V_drew)); exact (Kd.V_mono (Kd.V_far (p := ⟨gb538, 2, none⟩) (Kd.V_far (p := ⟨gb538, 1, none⟩) (Kd.V_far (p := ⟨gb538, 0, none⟩) (Kd.V_mono HO533.out (fun k_ hk => (⟨hk, hk.2⟩ : _ ∧ k_ ≠ gb538))) (fun _ hk => hk.2) (.bool t530)) (fun _ hk => hk.2) (.slice Ao11 t531.length co11)) (fun _ hk => hk.2) (.slice Ao12 t534.length co12)) (fun _ h_ => h_.1)))); (case side2 => exact (Kd.V_reads' HO533.out).2.1); (case side3 => refine (Kd.V_reads' (e := 112) (base := w.heap.size) (ok := fun k_ => (True ∧ k_ ≠ gb538)) (n := t534.length) (c := co12) ?_).2.2; exact (by (with_reducible repeat (first | apply Kd.V_alloc | apply Kd.V_drewN | apply Kd.V_drew)); exact (Kd.V_mono (Kd.V_far (p := ⟨gb538, 2, none⟩) (Kd.V_far (p := ⟨gb538, 1, none⟩) (Kd.V_far (p := ⟨gb538, 0, none⟩) (Kd.V_mono HO536.out (fun k_ hk => (⟨hk, hk.2⟩ : _ ∧ k_ ≠ gb538))) (fun _ hk => hk.2) (.bool t530)) (fun _ hk => hk.2) (.slice Ao11 t531.length co11)) (fun _ hk => hk.2) (.slice Ao12 t534.length co12)) (fun _ h_ => h_.1)))); (case side4 => exact (Kd.V_reads' HO536.out).2.1); rintro e w13 ⟨rfl, hb⟩; refine ⟨_, rfl, ?_⟩; have n0_ := Aside0.mk (Kd.V_below (by (with_reducible repeat (first | apply Kd.V_alloc | apply Kd.V_drewN | apply Kd.V_drew)); exact (Kd.V_mono (Kd.V_far (p := ⟨gb538, 2, none⟩) (Kd.V_far (p := ⟨gb538, 1, none⟩) (Kd.V_far (p := ⟨gb538, 0, none⟩) (Kd.V_mono HO533.out (fun k_ hk => (⟨hk, hk.2⟩ : _ ∧ k_ ≠ gb538))) (fun _ hk => hk.2) (.bool t530)) (fun _ hk => hk.2) (.slice Ao11 t531.length co11)) (fun _ hk => hk.2) (.slice Ao12 t534.length co12)) (fun _ h_ => h_.1))) hb); have n1_ := Aside0.mk (Kd.V_below (by (with_reducible repeat (first | apply Kd.V_alloc | apply Kd.V_drewN | apply Kd.V_drew)); exact (Kd.V_mono (Kd.V_far (p := ⟨gb538, 2, none⟩) (Kd.V_far (p := ⟨gb538, 1, none⟩) (Kd.V_far (p := ⟨gb538, 0, none⟩) (Kd.V_mono HO536.out (fun k_ hk => (⟨hk, hk.2⟩ : _ ∧ k_ ≠ gb538))) (fun _ hk => hk.2) (.bool t530)) (fun _ hk => hk.2) (.slice Ao11 t531.length co11)) (fun _ hk => hk.2) (.slice Ao12 t534.length co12)) (fun _ h_ => h_.1))) hb); have n2_ := Aside0.mk (blk_below (g := gb538) (o := .cells #[.bool t530, .slice Ao11 t531.length co11, .slice Ao12 t534.length co12] 44 (0, 0)) (by (with_reducible repeat (first | refine blk_drewN ?_ _ | refine blk_drew ?_ | refine blk_alloc ?_ _)); refine blk_put (cs := #[.bool t530, .slice Ao11 t531.length co11, .slice none 0 0]) ?_ 2 _ rfl; (with_reducible repeat (first | refine blk_drewN ?_ _ | refine blk_drew ?_ | refine blk_alloc ?_ _)); refine blk_put (cs := #[.bool t530, .slice none 0 0, .slice none 0 0]) ?_ 1 _ rfl; (with_reducible repeat (first | refine blk_drewN ?_ _ | refine blk_drew ?_ | refine blk_alloc ?_ _)); refine blk_put (cs := #[.bool false, .slice none 0 0, .slice none 0 0]) ?_ 0 _ rfl; (with_reducible repeat (first | refine blk_drewN ?_ _ | refine blk_drew ?_ | refine blk_alloc ?_ _)); exact BK538.out) hb); have n3_ := Aside0.mk (below_step (by repeat (first | (with_reducible first | exact HB.out | apply below_alloc | apply pw_below_drewN | apply below_drew1 | refine below_set ?_ GE538.out) | exact HB.out)) hb); clear HO533; clear HO536; clear BK538; clear HB; have HO533 := n0_; have HO536 := n1_; have BK538 := n2_; have HB := n3_; clear n0_ n1_ n2_ n3_; (try clear hb); (try clear hb2); (try clear hk); (try clear hi)))
  go_ret
  exact ⟨by first | rfl | (simp [errW_none, errW_some] <;> rfl) | (simp [*, errW_none, errW_some] <;> rfl), by repeat (first | (with_reducible first | exact HB.out | apply below_alloc | apply pw_below_drewN | apply below_drew1 | refine below_set ?_ GE538.out) | exact HB.out)⟩
def artesianlaw23_awake.f (k : Nat)  : Option (Bool) := (mass_Sets.f k (([1, 3] : List Int)) 3).bind fun bt575 => (if bt575.2 = 0 then ((artesiankit_SameRows.f k bt575.1 (([(([0] : List Int)), (([1] : List Int)), (([2] : List Int)), (([0, 1] : List Int)), (([0, 2] : List Int)), (([1, 2] : List Int))] : List (List Int)))).bind fun t600 => (if t600 = true then ((artesianlaw23_fails.f k (([1, 1] : List Int)) 2 2 3 8).bind fun t604 => (if t604 = true then ((artesianlaw23_fails.f k (([1] : List Int)) 1 0 1 1).bind fun t608 => (some t608)) else (none))) else (none))) else (none))
set_option maxHeartbeats 8000000 in
set_option maxRecDepth 100000 in
theorem artesianlaw23_awake.calls (k : Nat)  (r : Bool) (w : World) (h : artesianlaw23_awake.f k  = some r) :
    Calls Tryz.prog 15 #[] w fun e w' => e = .returned (.bool r) ∧ Below w.heap.size w w' := by
  have HB := Aside0.mk (Below.refl w.heap.size w)
  have H : ((mass_Sets.f k (([1, 3] : List Int)) 3).bind fun bt575 => (if bt575.2 = 0 then ((artesiankit_SameRows.f k bt575.1 (([(([0] : List Int)), (([1] : List Int)), (([2] : List Int)), (([0, 1] : List Int)), (([0, 2] : List Int)), (([1, 2] : List Int))] : List (List Int)))).bind fun t600 => (if t600 = true then ((artesianlaw23_fails.f k (([1, 1] : List Int)) 2 2 3 8).bind fun t604 => (if t604 = true then ((artesianlaw23_fails.f k (([1] : List Int)) 1 0 1 1).bind fun t608 => (some t608)) else (none))) else (none))) else (none))) = some r := h
  clear h
  obtain ⟨y572, hy572⟩ : ∃ y_ : List Int, y_ = (([1, 3] : List Int)) := ⟨_, rfl⟩
  replace H : ((mass_Sets.f k y572 3).bind fun bt575 => (if bt575.2 = 0 then ((artesiankit_SameRows.f k bt575.1 (([(([0] : List Int)), (([1] : List Int)), (([2] : List Int)), (([0, 1] : List Int)), (([0, 2] : List Int)), (([1, 2] : List Int))] : List (List Int)))).bind fun t600 => (if t600 = true then ((artesianlaw23_fails.f k (([1, 1] : List Int)) 2 2 3 8).bind fun t604 => (if t604 = true then ((artesianlaw23_fails.f k (([1] : List Int)) 1 0 1 1).bind fun t608 => (some t608)) else (none))) else (none))) else (none))) = some r := by first | (rw [hy572]; with_reducible exact H) | (have H2_ := (Option.bind_some _ _).symm.trans H; rw [hy572]; with_reducible exact H2_) | (have H2_ := (Option.bind_some _ _).symm.trans H; with_reducible exact H2_) | with_reducible exact H | (rw [hy572]; exact H) | exact H
  have Ny572 := Aside0.mk hy572
  clear hy572
  replace H := Option.bind_eq_some_iff.mp H
  obtain ⟨⟨t575, t578⟩, A10, H⟩ := H
  replace H : (if t578 = 0 then ((artesiankit_SameRows.f k t575 (([(([0] : List Int)), (([1] : List Int)), (([2] : List Int)), (([0, 1] : List Int)), (([0, 2] : List Int)), (([1, 2] : List Int))] : List (List Int)))).bind fun t600 => (if t600 = true then ((artesianlaw23_fails.f k (([1, 1] : List Int)) 2 2 3 8).bind fun t604 => (if t604 = true then ((artesianlaw23_fails.f k (([1] : List Int)) 1 0 1 1).bind fun t608 => (some t608)) else (none))) else (none))) else (none)) = some r := H
  have A1 := Aside0.mk A10
  clear A10
  by_cases c2 : t578 = 0
  · rw [if_pos c2] at H
    have c2b0 : (t578 == 0) = true := beq_iff_eq.mpr c2
    have c2b1 : (t578 != 0) = false := bne_eq_false_iff_eq.mpr c2
    clear c2
    obtain ⟨y579, hy579⟩ : ∃ y_ : List Int, y_ = (([0] : List Int)) := ⟨_, rfl⟩
    replace H : ((artesiankit_SameRows.f k t575 (([y579, (([1] : List Int)), (([2] : List Int)), (([0, 1] : List Int)), (([0, 2] : List Int)), (([1, 2] : List Int))] : List (List Int)))).bind fun t600 => (if t600 = true then ((artesianlaw23_fails.f k (([1, 1] : List Int)) 2 2 3 8).bind fun t604 => (if t604 = true then ((artesianlaw23_fails.f k (([1] : List Int)) 1 0 1 1).bind fun t608 => (some t608)) else (none))) else (none))) = some r := by first | (rw [hy579]; with_reducible exact H) | (have H2_ := (Option.bind_some _ _).symm.trans H; rw [hy579]; with_reducible exact H2_) | (have H2_ := (Option.bind_some _ _).symm.trans H; with_reducible exact H2_) | with_reducible exact H | (rw [hy579]; exact H) | exact H
    have Ny579 := Aside0.mk hy579
    clear hy579
    obtain ⟨y582, hy582⟩ : ∃ y_ : List Int, y_ = (([1] : List Int)) := ⟨_, rfl⟩
    replace H : ((artesiankit_SameRows.f k t575 (([y579, y582, (([2] : List Int)), (([0, 1] : List Int)), (([0, 2] : List Int)), (([1, 2] : List Int))] : List (List Int)))).bind fun t600 => (if t600 = true then ((artesianlaw23_fails.f k (([1, 1] : List Int)) 2 2 3 8).bind fun t604 => (if t604 = true then ((artesianlaw23_fails.f k (([1] : List Int)) 1 0 1 1).bind fun t608 => (some t608)) else (none))) else (none))) = some r := by first | (rw [hy582]; with_reducible exact H) | (have H2_ := (Option.bind_some _ _).symm.trans H; rw [hy582]; with_reducible exact H2_) | (have H2_ := (Option.bind_some _ _).symm.trans H; with_reducible exact H2_) | with_reducible exact H | (rw [hy582]; exact H) | exact H
    have Ny582 := Aside0.mk hy582
    clear hy582
    obtain ⟨y585, hy585⟩ : ∃ y_ : List Int, y_ = (([2] : List Int)) := ⟨_, rfl⟩
    replace H : ((artesiankit_SameRows.f k t575 (([y579, y582, y585, (([0, 1] : List Int)), (([0, 2] : List Int)), (([1, 2] : List Int))] : List (List Int)))).bind fun t600 => (if t600 = true then ((artesianlaw23_fails.f k (([1, 1] : List Int)) 2 2 3 8).bind fun t604 => (if t604 = true then ((artesianlaw23_fails.f k (([1] : List Int)) 1 0 1 1).bind fun t608 => (some t608)) else (none))) else (none))) = some r := by first | (rw [hy585]; with_reducible exact H) | (have H2_ := (Option.bind_some _ _).symm.trans H; rw [hy585]; with_reducible exact H2_) | (have H2_ := (Option.bind_some _ _).symm.trans H; with_reducible exact H2_) | with_reducible exact H | (rw [hy585]; exact H) | exact H
    have Ny585 := Aside0.mk hy585
    clear hy585
    obtain ⟨y588, hy588⟩ : ∃ y_ : List Int, y_ = (([0, 1] : List Int)) := ⟨_, rfl⟩
    replace H : ((artesiankit_SameRows.f k t575 (([y579, y582, y585, y588, (([0, 2] : List Int)), (([1, 2] : List Int))] : List (List Int)))).bind fun t600 => (if t600 = true then ((artesianlaw23_fails.f k (([1, 1] : List Int)) 2 2 3 8).bind fun t604 => (if t604 = true then ((artesianlaw23_fails.f k (([1] : List Int)) 1 0 1 1).bind fun t608 => (some t608)) else (none))) else (none))) = some r := by first | (rw [hy588]; with_reducible exact H) | (have H2_ := (Option.bind_some _ _).symm.trans H; rw [hy588]; with_reducible exact H2_) | (have H2_ := (Option.bind_some _ _).symm.trans H; with_reducible exact H2_) | with_reducible exact H | (rw [hy588]; exact H) | exact H
    have Ny588 := Aside0.mk hy588
    clear hy588
    obtain ⟨y591, hy591⟩ : ∃ y_ : List Int, y_ = (([0, 2] : List Int)) := ⟨_, rfl⟩
    replace H : ((artesiankit_SameRows.f k t575 (([y579, y582, y585, y588, y591, (([1, 2] : List Int))] : List (List Int)))).bind fun t600 => (if t600 = true then ((artesianlaw23_fails.f k (([1, 1] : List Int)) 2 2 3 8).bind fun t604 => (if t604 = true then ((artesianlaw23_fails.f k (([1] : List Int)) 1 0 1 1).bind fun t608 => (some t608)) else (none))) else (none))) = some r := by first | (rw [hy591]; with_reducible exact H) | (have H2_ := (Option.bind_some _ _).symm.trans H; rw [hy591]; with_reducible exact H2_) | (have H2_ := (Option.bind_some _ _).symm.trans H; with_reducible exact H2_) | with_reducible exact H | (rw [hy591]; exact H) | exact H
    have Ny591 := Aside0.mk hy591
    clear hy591
    obtain ⟨y594, hy594⟩ : ∃ y_ : List Int, y_ = (([1, 2] : List Int)) := ⟨_, rfl⟩
    replace H : ((artesiankit_SameRows.f k t575 (([y579, y582, y585, y588, y591, y594] : List (List Int)))).bind fun t600 => (if t600 = true then ((artesianlaw23_fails.f k (([1, 1] : List Int)) 2 2 3 8).bind fun t604 => (if t604 = true then ((artesianlaw23_fails.f k (([1] : List Int)) 1 0 1 1).bind fun t608 => (some t608)) else (none))) else (none))) = some r := by first | (rw [hy594]; with_reducible exact H) | (have H2_ := (Option.bind_some _ _).symm.trans H; rw [hy594]; with_reducible exact H2_) | (have H2_ := (Option.bind_some _ _).symm.trans H; with_reducible exact H2_) | with_reducible exact H | (rw [hy594]; exact H) | exact H
    have Ny594 := Aside0.mk hy594
    clear hy594
    obtain ⟨y597, hy597⟩ : ∃ y_ : List (List Int), y_ = (([y579, y582, y585, y588, y591, y594] : List (List Int))) := ⟨_, rfl⟩
    replace H : ((artesiankit_SameRows.f k t575 y597).bind fun t600 => (if t600 = true then ((artesianlaw23_fails.f k (([1, 1] : List Int)) 2 2 3 8).bind fun t604 => (if t604 = true then ((artesianlaw23_fails.f k (([1] : List Int)) 1 0 1 1).bind fun t608 => (some t608)) else (none))) else (none))) = some r := by first | (rw [hy597]; with_reducible exact H) | (have H2_ := (Option.bind_some _ _).symm.trans H; rw [hy597]; with_reducible exact H2_) | (have H2_ := (Option.bind_some _ _).symm.trans H; with_reducible exact H2_) | with_reducible exact H | (rw [hy597]; exact H) | exact H
    have Ny597 := Aside0.mk hy597
    clear hy597
    replace H := Option.bind_eq_some_iff.mp H
    obtain ⟨t600, A30, H⟩ := H
    replace H : (if t600 = true then ((artesianlaw23_fails.f k (([1, 1] : List Int)) 2 2 3 8).bind fun t604 => (if t604 = true then ((artesianlaw23_fails.f k (([1] : List Int)) 1 0 1 1).bind fun t608 => (some t608)) else (none))) else (none)) = some r := H
    have A3 := Aside0.mk A30
    clear A30
    by_cases c4 : t600 = true
    · subst c4
      have H1 : ((artesianlaw23_fails.f k (([1, 1] : List Int)) 2 2 3 8).bind fun t604 => (if t604 = true then ((artesianlaw23_fails.f k (([1] : List Int)) 1 0 1 1).bind fun t608 => (some t608)) else (none))) = some r := by rw [if_pos rfl] at H; exact H
      clear H
      have H := H1
      clear H1
      obtain ⟨y601, hy601⟩ : ∃ y_ : List Int, y_ = (([1, 1] : List Int)) := ⟨_, rfl⟩
      replace H : ((artesianlaw23_fails.f k y601 2 2 3 8).bind fun t604 => (if t604 = true then ((artesianlaw23_fails.f k (([1] : List Int)) 1 0 1 1).bind fun t608 => (some t608)) else (none))) = some r := by first | (rw [hy601]; with_reducible exact H) | (have H2_ := (Option.bind_some _ _).symm.trans H; rw [hy601]; with_reducible exact H2_) | (have H2_ := (Option.bind_some _ _).symm.trans H; with_reducible exact H2_) | with_reducible exact H | (rw [hy601]; exact H) | exact H
      have Ny601 := Aside0.mk hy601
      clear hy601
      replace H := Option.bind_eq_some_iff.mp H
      obtain ⟨t604, A50, H⟩ := H
      replace H : (if t604 = true then ((artesianlaw23_fails.f k (([1] : List Int)) 1 0 1 1).bind fun t608 => (some t608)) else (none)) = some r := H
      have A5 := Aside0.mk A50
      clear A50
      by_cases c6 : t604 = true
      · subst c6
        have H1 : ((artesianlaw23_fails.f k (([1] : List Int)) 1 0 1 1).bind fun t608 => (some t608)) = some r := by rw [if_pos rfl] at H; exact H
        clear H
        have H := H1
        clear H1
        obtain ⟨y605, hy605⟩ : ∃ y_ : List Int, y_ = (([1] : List Int)) := ⟨_, rfl⟩
        replace H : ((artesianlaw23_fails.f k y605 1 0 1 1).bind fun t608 => (some t608)) = some r := by first | (rw [hy605]; with_reducible exact H) | (have H2_ := (Option.bind_some _ _).symm.trans H; rw [hy605]; with_reducible exact H2_) | (have H2_ := (Option.bind_some _ _).symm.trans H; with_reducible exact H2_) | with_reducible exact H | (rw [hy605]; exact H) | exact H
        have Ny605 := Aside0.mk hy605
        clear hy605
        replace H := Option.bind_eq_some_iff.mp H
        obtain ⟨t608, A70, H⟩ := H
        replace H : (some t608) = some r := H
        have A7 := Aside0.mk A70
        clear A70
        obtain rfl := Option.some.inj H
        go_enter Tryz.func15, Tryz.ntmps15
        go_wp2_with (first | ((with_reducible refine gate_dst (N := 4) rfl ?_); (try (refine gate_guard (by rfl) ?_; dsimp only)); refine Kd.R_lit (Kd.int .i64) _ 3 ?hg (N := 4) ?hd (xs := ([1, 3] : List Int)) (inner := [.int .i64 1, .int .i64 3]) (ok := fun _ => True) (okp := fun _ => True) ?hr ?hp (fun _ hk => hk) trivial (Below.refl _ _) (Nat.le_refl _) (by simp) ?_; (case hd => rfl); (case hg => rfl); (case hr => first | (go_simp; done) | (go_simp; rfl)); (case hp => exact (Reps.one (show Kd.M (Kd.int .i64) _ _ _ 1 [.int .i64 1] from rfl) (Reps.one (show Kd.M (Kd.int .i64) _ _ _ 3 [.int .i64 3] from rfl) (Reps.none _ _)))); intro v573 w8 ho9 hb hg_ hnew_; clear hg_ hnew_; (first | rw [← Ny572.out] at ho9 | (simp only [Int.reduceToNat] at ho9; rw [← Ny572.out] at ho9)); have n0_ := Aside0.mk (Kd.R_lower ho9 (below_size (by repeat (first | (with_reducible first | exact HB.out | apply below_alloc | apply pw_below_drewN | apply below_drew1) | exact HB.out)))); have n1_ := Aside0.mk (below_step (by repeat (first | (with_reducible first | exact HB.out | apply below_alloc | apply pw_below_drewN | apply below_drew1) | exact HB.out)) hb); clear HB; have HO574 := n0_; have HB := n1_; clear n0_ n1_; clear hb ho9; obtain ⟨Ao10, co10, eo10⟩ := Kd.R_slice HO574.out; subst eo10) | ((with_reducible refine gate_callee (f := 17) rfl ?_); refine goesL_ (some 5) rfl rfl Tryz.func17 (by kernel_rfl) rfl #[.slice Ao10 y572.length co10, .int .i64 3] rfl (by (try simp only [List.map_toArray, List.map_cons, List.map_nil]); first | done | rfl | (simp only [List.length_drop, List.length_take]; rfl)) ?_; (with_reducible refine (mass_Sets.calls k _ _ y572 3 t575 t578 _ ?side1 ?side2 A1.out).mono ?_); (case side1 => repeat (first | exact (Kd.R_reads' HO574.out).2.2 | (with_reducible refine Kd.C_alloc ?_ _) | (with_reducible refine Kd.C_drewN ?_ _) | (with_reducible refine Kd.C_drew ?_))); (case side2 => exact (Kd.R_reads' HO574.out).2.1); rintro e w11 ⟨v576, rfl, ho0, hb⟩; refine ⟨_, rfl, ?_⟩; have n0_ := Aside0.mk (Kd.R_below (by (with_reducible repeat (first | apply Kd.R_alloc | apply Kd.R_drewN | apply Kd.R_drew)); exact HO574.out) hb); have n1_ := Aside0.mk (Kd.N_lower (Kd.N_mono (ok' := fun k_ => some k_ ≠ (.slice Ao10 y572.length co10 : Value).ownBlock) ho0 (fun k_ hk_ => (Kd.fresh' (Kd.R_lt (by (with_reducible repeat (first | apply Kd.R_alloc | apply Kd.R_drewN | apply Kd.R_drew)); exact HO574.out)) k_ hk_))) (below_size (by repeat (first | (with_reducible first | exact HB.out | apply below_alloc | apply pw_below_drewN | apply below_drew1) | exact HB.out)))); have n2_ := Aside0.mk (below_step (by repeat (first | (with_reducible first | exact HB.out | apply below_alloc | apply pw_below_drewN | apply below_drew1) | exact HB.out)) hb); clear HO574; clear HB; have HO574 := n0_; have HO577 := n1_; have HB := n2_; clear n0_ n1_ n2_; (try clear hb); (try clear hb2); (try clear hk); (try clear hi); (try clear ho0)) | ((with_reducible refine gate_dst (N := 12) rfl ?_); (try (refine gate_guard (by rfl) ?_; dsimp only)); refine Kd.R_lit (Kd.int .i64) _ 3 ?hg (N := 12) ?hd (xs := ([0] : List Int)) (inner := [.int .i64 0]) (ok := fun _ => True) (okp := fun _ => True) ?hr ?hp (fun _ hk => hk) trivial (Below.refl _ _) (Nat.le_refl _) (by simp) ?_; (case hd => rfl); (case hg => rfl); (case hr => first | (go_simp; done) | (go_simp; rfl)); (case hp => exact (Reps.one (show Kd.M (Kd.int .i64) _ _ _ 0 [.int .i64 0] from rfl) (Reps.none _ _))); intro v580 w12 ho13 hb hg_ hnew_; clear hg_ hnew_; (first | rw [← Ny579.out] at ho13 | (simp only [Int.reduceToNat] at ho13; rw [← Ny579.out] at ho13)); have n0_ := Aside0.mk (Kd.R_elder' (by (with_reducible repeat (first | apply Kd.R_alloc | apply Kd.R_drewN | apply Kd.R_drew)); exact HO574.out) (Kd.R_base ho13) hb); have n1_ := Aside0.mk (Kd.N_elder' (by (with_reducible repeat (first | apply Kd.N_alloc | apply Kd.N_drewN | apply Kd.N_drew)); exact HO577.out) (Kd.R_base ho13) hb); have n2_ := Aside0.mk (Kd.R_lower (Kd.R_new' ho13 (Kd.R_lt (by (with_reducible repeat (first | apply Kd.R_alloc | apply Kd.R_drewN | apply Kd.R_drew)); exact HO574.out))) (below_size (by repeat (first | (with_reducible first | exact HB.out | apply below_alloc | apply pw_below_drewN | apply below_drew1) | exact HB.out)))); have n3_ := Aside0.mk (below_step (by repeat (first | (with_reducible first | exact HB.out | apply below_alloc | apply pw_below_drewN | apply below_drew1) | exact HB.out)) hb); clear HO574; clear HO577; clear HB; have HO574 := n0_; have HO577 := n1_; have HO581 := n2_; have HB := n3_; clear n0_ n1_ n2_ n3_; clear hb ho13) | ((with_reducible refine gate_dst (N := 13) rfl ?_); (try (refine gate_guard (by rfl) ?_; dsimp only)); refine Kd.R_lit (Kd.int .i64) _ 3 ?hg (N := 13) ?hd (xs := ([1] : List Int)) (inner := [.int .i64 1]) (ok := fun _ => True) (okp := fun _ => True) ?hr ?hp (fun _ hk => hk) trivial (Below.refl _ _) (Nat.le_refl _) (by simp) ?_; (case hd => rfl); (case hg => rfl); (case hr => first | (go_simp; done) | (go_simp; rfl)); (case hp => exact (Reps.one (show Kd.M (Kd.int .i64) _ _ _ 1 [.int .i64 1] from rfl) (Reps.none _ _))); intro v583 w14 ho15 hb hg_ hnew_; clear hg_ hnew_; (first | rw [← Ny582.out] at ho15 | (simp only [Int.reduceToNat] at ho15; rw [← Ny582.out] at ho15)); have n0_ := Aside0.mk (Kd.R_elder' (by (with_reducible repeat (first | apply Kd.R_alloc | apply Kd.R_drewN | apply Kd.R_drew)); exact HO574.out) (Kd.R_base ho15) hb); have n1_ := Aside0.mk (Kd.N_elder' (by (with_reducible repeat (first | apply Kd.N_alloc | apply Kd.N_drewN | apply Kd.N_drew)); exact HO577.out) (Kd.R_base ho15) hb); have n2_ := Aside0.mk (Kd.R_elder' (by (with_reducible repeat (first | apply Kd.R_alloc | apply Kd.R_drewN | apply Kd.R_drew)); exact HO581.out) (Kd.R_base ho15) hb); have n3_ := Aside0.mk (Kd.R_lower (Kd.R_new' (Kd.R_new' ho15 (Kd.R_lt (by (with_reducible repeat (first | apply Kd.R_alloc | apply Kd.R_drewN | apply Kd.R_drew)); exact HO574.out))) (Kd.R_lt (by (with_reducible repeat (first | apply Kd.R_alloc | apply Kd.R_drewN | apply Kd.R_drew)); exact HO581.out))) (below_size (by repeat (first | (with_reducible first | exact HB.out | apply below_alloc | apply pw_below_drewN | apply below_drew1) | exact HB.out)))); have n4_ := Aside0.mk (below_step (by repeat (first | (with_reducible first | exact HB.out | apply below_alloc | apply pw_below_drewN | apply below_drew1) | exact HB.out)) hb); clear HO574; clear HO577; clear HO581; clear HB; have HO574 := n0_; have HO577 := n1_; have HO581 := n2_; have HO584 := n3_; have HB := n4_; clear n0_ n1_ n2_ n3_ n4_; clear hb ho15) | ((with_reducible refine gate_dst (N := 14) rfl ?_); (try (refine gate_guard (by rfl) ?_; dsimp only)); refine Kd.R_lit (Kd.int .i64) _ 3 ?hg (N := 14) ?hd (xs := ([2] : List Int)) (inner := [.int .i64 2]) (ok := fun _ => True) (okp := fun _ => True) ?hr ?hp (fun _ hk => hk) trivial (Below.refl _ _) (Nat.le_refl _) (by simp) ?_; (case hd => rfl); (case hg => rfl); (case hr => first | (go_simp; done) | (go_simp; rfl)); (case hp => exact (Reps.one (show Kd.M (Kd.int .i64) _ _ _ 2 [.int .i64 2] from rfl) (Reps.none _ _))); intro v586 w16 ho17 hb hg_ hnew_; clear hg_ hnew_; (first | rw [← Ny585.out] at ho17 | (simp only [Int.reduceToNat] at ho17; rw [← Ny585.out] at ho17)); have n0_ := Aside0.mk (Kd.R_elder' (by (with_reducible repeat (first | apply Kd.R_alloc | apply Kd.R_drewN | apply Kd.R_drew)); exact HO574.out) (Kd.R_base ho17) hb); have n1_ := Aside0.mk (Kd.N_elder' (by (with_reducible repeat (first | apply Kd.N_alloc | apply Kd.N_drewN | apply Kd.N_drew)); exact HO577.out) (Kd.R_base ho17) hb); have n2_ := Aside0.mk (Kd.R_elder' (by (with_reducible repeat (first | apply Kd.R_alloc | apply Kd.R_drewN | apply Kd.R_drew)); exact HO581.out) (Kd.R_base ho17) hb); have n3_ := Aside0.mk (Kd.R_elder' (by (with_reducible repeat (first | apply Kd.R_alloc | apply Kd.R_drewN | apply Kd.R_drew)); exact HO584.out) (Kd.R_base ho17) hb); have n4_ := Aside0.mk (Kd.R_lower (Kd.R_new' (Kd.R_new' (Kd.R_new' ho17 (Kd.R_lt (by (with_reducible repeat (first | apply Kd.R_alloc | apply Kd.R_drewN | apply Kd.R_drew)); exact HO574.out))) (Kd.R_lt (by (with_reducible repeat (first | apply Kd.R_alloc | apply Kd.R_drewN | apply Kd.R_drew)); exact HO581.out))) (Kd.R_lt (by (with_reducible repeat (first | apply Kd.R_alloc | apply Kd.R_drewN | apply Kd.R_drew)); exact HO584.out))) (below_size (by repeat (first | (with_reducible first | exact HB.out | apply below_alloc | apply pw_below_drewN | apply below_drew1) | exact HB.out)))); have n5_ := Aside0.mk (below_step (by repeat (first | (with_reducible first | exact HB.out | apply below_alloc | apply pw_below_drewN | apply below_drew1) | exact HB.out)) hb); clear HO574; clear HO577; clear HO581; clear HO584; clear HB; have HO574 := n0_; have HO577 := n1_; have HO581 := n2_; have HO584 := n3_; have HO587 := n4_; have HB := n5_; clear n0_ n1_ n2_ n3_ n4_ n5_; clear hb ho17) | ((with_reducible refine gate_dst (N := 15) rfl ?_); (try (refine gate_guard (by rfl) ?_; dsimp only)); refine Kd.R_lit (Kd.int .i64) _ 3 ?hg (N := 15) ?hd (xs := ([0, 1] : List Int)) (inner := [.int .i64 0, .int .i64 1]) (ok := fun _ => True) (okp := fun _ => True) ?hr ?hp (fun _ hk => hk) trivial (Below.refl _ _) (Nat.le_refl _) (by simp) ?_; (case hd => rfl); (case hg => rfl); (case hr => first | (go_simp; done) | (go_simp; rfl)); (case hp => exact (Reps.one (show Kd.M (Kd.int .i64) _ _ _ 0 [.int .i64 0] from rfl) (Reps.one (show Kd.M (Kd.int .i64) _ _ _ 1 [.int .i64 1] from rfl) (Reps.none _ _)))); intro v589 w18 ho19 hb hg_ hnew_; clear hg_ hnew_; (first | rw [← Ny588.out] at ho19 | (simp only [Int.reduceToNat] at ho19; rw [← Ny588.out] at ho19)); have n0_ := Aside0.mk (Kd.R_elder' (by (with_reducible repeat (first | apply Kd.R_alloc | apply Kd.R_drewN | apply Kd.R_drew)); exact HO574.out) (Kd.R_base ho19) hb); have n1_ := Aside0.mk (Kd.N_elder' (by (with_reducible repeat (first | apply Kd.N_alloc | apply Kd.N_drewN | apply Kd.N_drew)); exact HO577.out) (Kd.R_base ho19) hb); have n2_ := Aside0.mk (Kd.R_elder' (by (with_reducible repeat (first | apply Kd.R_alloc | apply Kd.R_drewN | apply Kd.R_drew)); exact HO581.out) (Kd.R_base ho19) hb); have n3_ := Aside0.mk (Kd.R_elder' (by (with_reducible repeat (first | apply Kd.R_alloc | apply Kd.R_drewN | apply Kd.R_drew)); exact HO584.out) (Kd.R_base ho19) hb); have n4_ := Aside0.mk (Kd.R_elder' (by (with_reducible repeat (first | apply Kd.R_alloc | apply Kd.R_drewN | apply Kd.R_drew)); exact HO587.out) (Kd.R_base ho19) hb); have n5_ := Aside0.mk (Kd.R_lower (Kd.R_new' (Kd.R_new' (Kd.R_new' (Kd.R_new' ho19 (Kd.R_lt (by (with_reducible repeat (first | apply Kd.R_alloc | apply Kd.R_drewN | apply Kd.R_drew)); exact HO574.out))) (Kd.R_lt (by (with_reducible repeat (first | apply Kd.R_alloc | apply Kd.R_drewN | apply Kd.R_drew)); exact HO581.out))) (Kd.R_lt (by (with_reducible repeat (first | apply Kd.R_alloc | apply Kd.R_drewN | apply Kd.R_drew)); exact HO584.out))) (Kd.R_lt (by (with_reducible repeat (first | apply Kd.R_alloc | apply Kd.R_drewN | apply Kd.R_drew)); exact HO587.out))) (below_size (by repeat (first | (with_reducible first | exact HB.out | apply below_alloc | apply pw_below_drewN | apply below_drew1) | exact HB.out)))); have n6_ := Aside0.mk (below_step (by repeat (first | (with_reducible first | exact HB.out | apply below_alloc | apply pw_below_drewN | apply below_drew1) | exact HB.out)) hb); clear HO574; clear HO577; clear HO581; clear HO584; clear HO587; clear HB; have HO574 := n0_; have HO577 := n1_; have HO581 := n2_; have HO584 := n3_; have HO587 := n4_; have HO590 := n5_; have HB := n6_; clear n0_ n1_ n2_ n3_ n4_ n5_ n6_; clear hb ho19) | ((with_reducible refine gate_dst (N := 16) rfl ?_); (try (refine gate_guard (by rfl) ?_; dsimp only)); refine Kd.R_lit (Kd.int .i64) _ 3 ?hg (N := 16) ?hd (xs := ([0, 2] : List Int)) (inner := [.int .i64 0, .int .i64 2]) (ok := fun _ => True) (okp := fun _ => True) ?hr ?hp (fun _ hk => hk) trivial (Below.refl _ _) (Nat.le_refl _) (by simp) ?_; (case hd => rfl); (case hg => rfl); (case hr => first | (go_simp; done) | (go_simp; rfl)); (case hp => exact (Reps.one (show Kd.M (Kd.int .i64) _ _ _ 0 [.int .i64 0] from rfl) (Reps.one (show Kd.M (Kd.int .i64) _ _ _ 2 [.int .i64 2] from rfl) (Reps.none _ _)))); intro v592 w20 ho21 hb hg_ hnew_; clear hg_ hnew_; (first | rw [← Ny591.out] at ho21 | (simp only [Int.reduceToNat] at ho21; rw [← Ny591.out] at ho21)); have n0_ := Aside0.mk (Kd.R_elder' (by (with_reducible repeat (first | apply Kd.R_alloc | apply Kd.R_drewN | apply Kd.R_drew)); exact HO574.out) (Kd.R_base ho21) hb); have n1_ := Aside0.mk (Kd.N_elder' (by (with_reducible repeat (first | apply Kd.N_alloc | apply Kd.N_drewN | apply Kd.N_drew)); exact HO577.out) (Kd.R_base ho21) hb); have n2_ := Aside0.mk (Kd.R_elder' (by (with_reducible repeat (first | apply Kd.R_alloc | apply Kd.R_drewN | apply Kd.R_drew)); exact HO581.out) (Kd.R_base ho21) hb); have n3_ := Aside0.mk (Kd.R_elder' (by (with_reducible repeat (first | apply Kd.R_alloc | apply Kd.R_drewN | apply Kd.R_drew)); exact HO584.out) (Kd.R_base ho21) hb); have n4_ := Aside0.mk (Kd.R_elder' (by (with_reducible repeat (first | apply Kd.R_alloc | apply Kd.R_drewN | apply Kd.R_drew)); exact HO587.out) (Kd.R_base ho21) hb); have n5_ := Aside0.mk (Kd.R_elder' (by (with_reducible repeat (first | apply Kd.R_alloc | apply Kd.R_drewN | apply Kd.R_drew)); exact HO590.out) (Kd.R_base ho21) hb); have n6_ := Aside0.mk (Kd.R_lower (Kd.R_new' (Kd.R_new' (Kd.R_new' (Kd.R_new' (Kd.R_new' ho21 (Kd.R_lt (by (with_reducible repeat (first | apply Kd.R_alloc | apply Kd.R_drewN | apply Kd.R_drew)); exact HO574.out))) (Kd.R_lt (by (with_reducible repeat (first | apply Kd.R_alloc | apply Kd.R_drewN | apply Kd.R_drew)); exact HO581.out))) (Kd.R_lt (by (with_reducible repeat (first | apply Kd.R_alloc | apply Kd.R_drewN | apply Kd.R_drew)); exact HO584.out))) (Kd.R_lt (by (with_reducible repeat (first | apply Kd.R_alloc | apply Kd.R_drewN | apply Kd.R_drew)); exact HO587.out))) (Kd.R_lt (by (with_reducible repeat (first | apply Kd.R_alloc | apply Kd.R_drewN | apply Kd.R_drew)); exact HO590.out))) (below_size (by repeat (first | (with_reducible first | exact HB.out | apply below_alloc | apply pw_below_drewN | apply below_drew1) | exact HB.out)))); have n7_ := Aside0.mk (below_step (by repeat (first | (with_reducible first | exact HB.out | apply below_alloc | apply pw_below_drewN | apply below_drew1) | exact HB.out)) hb); clear HO574; clear HO577; clear HO581; clear HO584; clear HO587; clear HO590; clear HB; have HO574 := n0_; have HO577 := n1_; have HO581 := n2_; have HO584 := n3_; have HO587 := n4_; have HO590 := n5_; have HO593 := n6_; have HB := n7_; clear n0_ n1_ n2_ n3_ n4_ n5_ n6_ n7_; clear hb ho21) | ((with_reducible refine gate_dst (N := 17) rfl ?_); (try (refine gate_guard (by rfl) ?_; dsimp only)); refine Kd.R_lit (Kd.int .i64) _ 3 ?hg (N := 17) ?hd (xs := ([1, 2] : List Int)) (inner := [.int .i64 1, .int .i64 2]) (ok := fun _ => True) (okp := fun _ => True) ?hr ?hp (fun _ hk => hk) trivial (Below.refl _ _) (Nat.le_refl _) (by simp) ?_; (case hd => rfl); (case hg => rfl); (case hr => first | (go_simp; done) | (go_simp; rfl)); (case hp => exact (Reps.one (show Kd.M (Kd.int .i64) _ _ _ 1 [.int .i64 1] from rfl) (Reps.one (show Kd.M (Kd.int .i64) _ _ _ 2 [.int .i64 2] from rfl) (Reps.none _ _)))); intro v595 w22 ho23 hb hg_ hnew_; clear hg_ hnew_; (first | rw [← Ny594.out] at ho23 | (simp only [Int.reduceToNat] at ho23; rw [← Ny594.out] at ho23)); have n0_ := Aside0.mk (Kd.R_elder' (by (with_reducible repeat (first | apply Kd.R_alloc | apply Kd.R_drewN | apply Kd.R_drew)); exact HO574.out) (Kd.R_base ho23) hb); have n1_ := Aside0.mk (Kd.N_elder' (by (with_reducible repeat (first | apply Kd.N_alloc | apply Kd.N_drewN | apply Kd.N_drew)); exact HO577.out) (Kd.R_base ho23) hb); have n2_ := Aside0.mk (Kd.R_elder' (by (with_reducible repeat (first | apply Kd.R_alloc | apply Kd.R_drewN | apply Kd.R_drew)); exact HO581.out) (Kd.R_base ho23) hb); have n3_ := Aside0.mk (Kd.R_elder' (by (with_reducible repeat (first | apply Kd.R_alloc | apply Kd.R_drewN | apply Kd.R_drew)); exact HO584.out) (Kd.R_base ho23) hb); have n4_ := Aside0.mk (Kd.R_elder' (by (with_reducible repeat (first | apply Kd.R_alloc | apply Kd.R_drewN | apply Kd.R_drew)); exact HO587.out) (Kd.R_base ho23) hb); have n5_ := Aside0.mk (Kd.R_elder' (by (with_reducible repeat (first | apply Kd.R_alloc | apply Kd.R_drewN | apply Kd.R_drew)); exact HO590.out) (Kd.R_base ho23) hb); have n6_ := Aside0.mk (Kd.R_elder' (by (with_reducible repeat (first | apply Kd.R_alloc | apply Kd.R_drewN | apply Kd.R_drew)); exact HO593.out) (Kd.R_base ho23) hb); have n7_ := Aside0.mk (Kd.R_lower (Kd.R_new' (Kd.R_new' (Kd.R_new' (Kd.R_new' (Kd.R_new' (Kd.R_new' ho23 (Kd.R_lt (by (with_reducible repeat (first | apply Kd.R_alloc | apply Kd.R_drewN | apply Kd.R_drew)); exact HO574.out))) (Kd.R_lt (by (with_reducible repeat (first | apply Kd.R_alloc | apply Kd.R_drewN | apply Kd.R_drew)); exact HO581.out))) (Kd.R_lt (by (with_reducible repeat (first | apply Kd.R_alloc | apply Kd.R_drewN | apply Kd.R_drew)); exact HO584.out))) (Kd.R_lt (by (with_reducible repeat (first | apply Kd.R_alloc | apply Kd.R_drewN | apply Kd.R_drew)); exact HO587.out))) (Kd.R_lt (by (with_reducible repeat (first | apply Kd.R_alloc | apply Kd.R_drewN | apply Kd.R_drew)); exact HO590.out))) (Kd.R_lt (by (with_reducible repeat (first | apply Kd.R_alloc | apply Kd.R_drewN | apply Kd.R_drew)); exact HO593.out))) (below_size (by repeat (first | (with_reducible first | exact HB.out | apply below_alloc | apply pw_below_drewN | apply below_drew1) | exact HB.out)))); have n8_ := Aside0.mk (below_step (by repeat (first | (with_reducible first | exact HB.out | apply below_alloc | apply pw_below_drewN | apply below_drew1) | exact HB.out)) hb); clear HO574; clear HO577; clear HO581; clear HO584; clear HO587; clear HO590; clear HO593; clear HB; have HO574 := n0_; have HO577 := n1_; have HO581 := n2_; have HO584 := n3_; have HO587 := n4_; have HO590 := n5_; have HO593 := n6_; have HO596 := n7_; have HB := n8_; clear n0_ n1_ n2_ n3_ n4_ n5_ n6_ n7_ n8_; clear hb ho23; obtain ⟨Ao24, co24, eo24⟩ := Kd.R_slice HO581.out; subst eo24; obtain ⟨Ao25, co25, eo25⟩ := Kd.R_slice HO584.out; subst eo25; obtain ⟨Ao26, co26, eo26⟩ := Kd.R_slice HO587.out; subst eo26; obtain ⟨Ao27, co27, eo27⟩ := Kd.R_slice HO590.out; subst eo27; obtain ⟨Ao28, co28, eo28⟩ := Kd.R_slice HO593.out; subst eo28; obtain ⟨Ao29, co29, eo29⟩ := Kd.R_slice HO596.out; subst eo29) | ((with_reducible refine gate_dst (N := 18) rfl ?_); (try (refine gate_guard (by rfl) ?_; dsimp only)); refine Kd.N_lit (Kd.slice 3 (Kd.int .i64)) _ 22 ?hg (N' := 18) ?hd (xs := ([y579, y582, y585, y588, y591, y594] : List (List Int))) (inner := [.slice Ao24 y579.length co24, .slice Ao25 y582.length co25, .slice Ao26 y585.length co26, .slice Ao27 y588.length co27, .slice Ao28 y591.length co28, .slice Ao29 y594.length co29]) (ok := (fun k_ => some k_ ≠ (.slice Ao10 y572.length co10 : Value).ownBlock ∧ some k_ ≠ (v576 : Value).ownBlock)) (okp := (fun k_ => some k_ ≠ (.slice Ao10 y572.length co10 : Value).ownBlock ∧ some k_ ≠ (v576 : Value).ownBlock)) ?hr ?hp (fun _ hk => hk) ((show ∀ k_, w22.heap.size ≤ k_ → (fun k_ => some k_ ≠ (.slice Ao10 y572.length co10 : Value).ownBlock ∧ some k_ ≠ (v576 : Value).ownBlock) k_ from fun k_ hk => ⟨Kd.fresh' (Kd.R_lt (by (with_reducible repeat (first | apply Kd.R_alloc | apply Kd.R_drewN | apply Kd.R_drew)); exact HO574.out)) k_ hk, Kd.fresh' (Kd.N_lt (by (with_reducible repeat (first | apply Kd.N_alloc | apply Kd.N_drewN | apply Kd.N_drew)); exact HO577.out)) k_ hk⟩) _ (Nat.le_refl _)) (Below.refl _ _) (Nat.le_refl _) (by simp) ?_; (case hd => rfl); (case hg => rfl); (case hr => first | (go_simp; done) | (go_simp; rfl)); (case hp => exact (Reps.one (show Kd.FK (Kd.slice 3 (Kd.int .i64)) _ _ y579 [.slice Ao24 y579.length co24] from (Kd.FK_slice_mk (Kd.R_reads' (Kd.R_mono (ok' := (fun k_ => some k_ ≠ (.slice Ao10 y572.length co10 : Value).ownBlock ∧ some k_ ≠ (v576 : Value).ownBlock)) (Kd.R_apart' (HO581.out) (Kd.N_typed HO577.out) (by decide)) (fun k_ hk => ⟨hk.1.1.1.1.1.1.2, hk.2⟩))).2.1 (Kd.R_F (Kd.R_mono (ok' := (fun k_ => some k_ ≠ (.slice Ao10 y572.length co10 : Value).ownBlock ∧ some k_ ≠ (v576 : Value).ownBlock)) (Kd.R_apart' (HO581.out) (Kd.N_typed HO577.out) (by decide)) (fun k_ hk => ⟨hk.1.1.1.1.1.1.2, hk.2⟩))))) (Reps.one (show Kd.FK (Kd.slice 3 (Kd.int .i64)) _ _ y582 [.slice Ao25 y582.length co25] from (Kd.FK_slice_mk (Kd.R_reads' (Kd.R_mono (ok' := (fun k_ => some k_ ≠ (.slice Ao10 y572.length co10 : Value).ownBlock ∧ some k_ ≠ (v576 : Value).ownBlock)) (Kd.R_apart' (HO584.out) (Kd.N_typed HO577.out) (by decide)) (fun k_ hk => ⟨hk.1.1.1.1.1.1.2, hk.2⟩))).2.1 (Kd.R_F (Kd.R_mono (ok' := (fun k_ => some k_ ≠ (.slice Ao10 y572.length co10 : Value).ownBlock ∧ some k_ ≠ (v576 : Value).ownBlock)) (Kd.R_apart' (HO584.out) (Kd.N_typed HO577.out) (by decide)) (fun k_ hk => ⟨hk.1.1.1.1.1.1.2, hk.2⟩))))) (Reps.one (show Kd.FK (Kd.slice 3 (Kd.int .i64)) _ _ y585 [.slice Ao26 y585.length co26] from (Kd.FK_slice_mk (Kd.R_reads' (Kd.R_mono (ok' := (fun k_ => some k_ ≠ (.slice Ao10 y572.length co10 : Value).ownBlock ∧ some k_ ≠ (v576 : Value).ownBlock)) (Kd.R_apart' (HO587.out) (Kd.N_typed HO577.out) (by decide)) (fun k_ hk => ⟨hk.1.1.1.1.1.1.2, hk.2⟩))).2.1 (Kd.R_F (Kd.R_mono (ok' := (fun k_ => some k_ ≠ (.slice Ao10 y572.length co10 : Value).ownBlock ∧ some k_ ≠ (v576 : Value).ownBlock)) (Kd.R_apart' (HO587.out) (Kd.N_typed HO577.out) (by decide)) (fun k_ hk => ⟨hk.1.1.1.1.1.1.2, hk.2⟩))))) (Reps.one (show Kd.FK (Kd.slice 3 (Kd.int .i64)) _ _ y588 [.slice Ao27 y588.length co27] from (Kd.FK_slice_mk (Kd.R_reads' (Kd.R_mono (ok' := (fun k_ => some k_ ≠ (.slice Ao10 y572.length co10 : Value).ownBlock ∧ some k_ ≠ (v576 : Value).ownBlock)) (Kd.R_apart' (HO590.out) (Kd.N_typed HO577.out) (by decide)) (fun k_ hk => ⟨hk.1.1.1.1.1.1.2, hk.2⟩))).2.1 (Kd.R_F (Kd.R_mono (ok' := (fun k_ => some k_ ≠ (.slice Ao10 y572.length co10 : Value).ownBlock ∧ some k_ ≠ (v576 : Value).ownBlock)) (Kd.R_apart' (HO590.out) (Kd.N_typed HO577.out) (by decide)) (fun k_ hk => ⟨hk.1.1.1.1.1.1.2, hk.2⟩))))) (Reps.one (show Kd.FK (Kd.slice 3 (Kd.int .i64)) _ _ y591 [.slice Ao28 y591.length co28] from (Kd.FK_slice_mk (Kd.R_reads' (Kd.R_mono (ok' := (fun k_ => some k_ ≠ (.slice Ao10 y572.length co10 : Value).ownBlock ∧ some k_ ≠ (v576 : Value).ownBlock)) (Kd.R_apart' (HO593.out) (Kd.N_typed HO577.out) (by decide)) (fun k_ hk => ⟨hk.1.1.1.1.1.1.2, hk.2⟩))).2.1 (Kd.R_F (Kd.R_mono (ok' := (fun k_ => some k_ ≠ (.slice Ao10 y572.length co10 : Value).ownBlock ∧ some k_ ≠ (v576 : Value).ownBlock)) (Kd.R_apart' (HO593.out) (Kd.N_typed HO577.out) (by decide)) (fun k_ hk => ⟨hk.1.1.1.1.1.1.2, hk.2⟩))))) (Reps.one (show Kd.FK (Kd.slice 3 (Kd.int .i64)) _ _ y594 [.slice Ao29 y594.length co29] from (Kd.FK_slice_mk (Kd.R_reads' (Kd.R_mono (ok' := (fun k_ => some k_ ≠ (.slice Ao10 y572.length co10 : Value).ownBlock ∧ some k_ ≠ (v576 : Value).ownBlock)) (Kd.R_apart' (HO596.out) (Kd.N_typed HO577.out) (by decide)) (fun k_ hk => ⟨hk.1.1.1.1.1.1.2, hk.2⟩))).2.1 (Kd.R_F (Kd.R_mono (ok' := (fun k_ => some k_ ≠ (.slice Ao10 y572.length co10 : Value).ownBlock ∧ some k_ ≠ (v576 : Value).ownBlock)) (Kd.R_apart' (HO596.out) (Kd.N_typed HO577.out) (by decide)) (fun k_ hk => ⟨hk.1.1.1.1.1.1.2, hk.2⟩))))) (Reps.none _ _)))))))); intro v598 w30 ho31 hb hg_ hnew_; clear hg_ hnew_; (first | rw [← Ny597.out] at ho31 | (simp only [Int.reduceToNat] at ho31; rw [← Ny597.out] at ho31)); have n0_ := Aside0.mk (Kd.R_below (by (with_reducible repeat (first | apply Kd.R_alloc | apply Kd.R_drewN | apply Kd.R_drew)); exact HO574.out) hb); have n1_ := Aside0.mk (Kd.N_elder' (by (with_reducible repeat (first | apply Kd.N_alloc | apply Kd.N_drewN | apply Kd.N_drew)); exact HO577.out) (Kd.N_base ho31) hb); have n2_ := Aside0.mk (Kd.N_lower ho31 (below_size (by repeat (first | (with_reducible first | exact HB.out | apply below_alloc | apply pw_below_drewN | apply below_drew1) | exact HB.out)))); have n3_ := Aside0.mk (below_step (by repeat (first | (with_reducible first | exact HB.out | apply below_alloc | apply pw_below_drewN | apply below_drew1) | exact HB.out)) hb); clear HO574; clear HO577; clear HB; clear HO581; clear HO584; clear HO587; clear HO590; clear HO593; clear HO596; have HO574 := n0_; have HO577 := n1_; have HO599 := n2_; have HB := n3_; clear n0_ n1_ n2_ n3_; clear hb ho31; obtain ⟨Ao32, co32, eo32⟩ := Kd.N_slice HO577.out; subst eo32; obtain ⟨Ao33, co33, eo33⟩ := Kd.N_slice HO599.out; subst eo33) | (go_at_call 19; (with_reducible refine (artesiankit_SameRows.calls k _ _ t575 _ _ y597 true _ ?side1 ?side2 ?side3 ?side4 A3.out).mono ?_); (case side1 => repeat (first | exact (Kd.N_reads' HO577.out).2.2 | (with_reducible refine Kd.C_alloc ?_ _) | (with_reducible refine Kd.C_drewN ?_ _) | (with_reducible refine Kd.C_drew ?_))); (case side2 => exact (Kd.N_reads' HO577.out).2.1); (case side3 => repeat (first | exact (Kd.N_reads' HO599.out).2.2 | (with_reducible refine Kd.C_alloc ?_ _) | (with_reducible refine Kd.C_drewN ?_ _) | (with_reducible refine Kd.C_drew ?_))); (case side4 => exact (Kd.N_reads' HO599.out).2.1); rintro e w' ⟨rfl, ⟨nd, rfl⟩⟩) | ((with_reducible refine gate_dst (N := 22) rfl ?_); (try (refine gate_guard (by rfl) ?_; dsimp only)); refine Kd.R_lit (Kd.int .i64) _ 3 ?hg (N := 22) ?hd (xs := ([1, 1] : List Int)) (inner := [.int .i64 1, .int .i64 1]) (ok := fun _ => True) (okp := fun _ => True) ?hr ?hp (fun _ hk => hk) trivial (Below.refl _ _) (Nat.le_refl _) (by simp) ?_; (case hd => rfl); (case hg => rfl); (case hr => first | (go_simp; done) | (go_simp; rfl)); (case hp => exact (Reps.one (show Kd.M (Kd.int .i64) _ _ _ 1 [.int .i64 1] from rfl) (Reps.one (show Kd.M (Kd.int .i64) _ _ _ 1 [.int .i64 1] from rfl) (Reps.none _ _)))); intro v602 w34 ho35 hb hg_ hnew_; clear hg_ hnew_; (first | rw [← Ny601.out] at ho35 | (simp only [Int.reduceToNat] at ho35; rw [← Ny601.out] at ho35)); have n0_ := Aside0.mk (Kd.R_elder' (by (with_reducible repeat (first | apply Kd.R_alloc | apply Kd.R_drewN | apply Kd.R_drew)); exact HO574.out) (Kd.R_base ho35) hb); have n1_ := Aside0.mk (Kd.N_elder' (by (with_reducible repeat (first | apply Kd.N_alloc | apply Kd.N_drewN | apply Kd.N_drew)); exact HO577.out) (Kd.R_base ho35) hb); have n2_ := Aside0.mk (Kd.N_elder' (by (with_reducible repeat (first | apply Kd.N_alloc | apply Kd.N_drewN | apply Kd.N_drew)); exact HO599.out) (Kd.R_base ho35) hb); have n3_ := Aside0.mk (Kd.R_lower (Kd.R_new' ho35 (Kd.R_lt (by (with_reducible repeat (first | apply Kd.R_alloc | apply Kd.R_drewN | apply Kd.R_drew)); exact HO574.out))) (below_size (by repeat (first | (with_reducible first | exact HB.out | apply below_alloc | apply pw_below_drewN | apply below_drew1) | exact HB.out)))); have n4_ := Aside0.mk (below_step (by repeat (first | (with_reducible first | exact HB.out | apply below_alloc | apply pw_below_drewN | apply below_drew1) | exact HB.out)) hb); clear HO574; clear HO577; clear HO599; clear HB; have HO574 := n0_; have HO577 := n1_; have HO599 := n2_; have HO603 := n3_; have HB := n4_; clear n0_ n1_ n2_ n3_ n4_; clear hb ho35; obtain ⟨Ao36, co36, eo36⟩ := Kd.R_slice HO603.out; subst eo36) | (go_at_call 56; (with_reducible refine (artesianlaw23_fails.calls k _ _ y601 2 2 3 8 true _ ?side1 ?side2 A5.out).mono ?_); (case side1 => repeat (first | exact (Kd.R_reads' HO603.out).2.2 | (with_reducible refine Kd.C_alloc ?_ _) | (with_reducible refine Kd.C_drewN ?_ _) | (with_reducible refine Kd.C_drew ?_))); (case side2 => exact (Kd.R_reads' HO603.out).2.1); rintro e w37 ⟨rfl, hb⟩; have n0_ := Aside0.mk (Kd.R_below (by (with_reducible repeat (first | apply Kd.R_alloc | apply Kd.R_drewN | apply Kd.R_drew)); exact HO574.out) hb); have n1_ := Aside0.mk (Kd.N_below (by (with_reducible repeat (first | apply Kd.N_alloc | apply Kd.N_drewN | apply Kd.N_drew)); exact HO577.out) hb); have n2_ := Aside0.mk (Kd.N_below (by (with_reducible repeat (first | apply Kd.N_alloc | apply Kd.N_drewN | apply Kd.N_drew)); exact HO599.out) hb); have n3_ := Aside0.mk (Kd.R_below (by (with_reducible repeat (first | apply Kd.R_alloc | apply Kd.R_drewN | apply Kd.R_drew)); exact HO603.out) hb); have n4_ := Aside0.mk (below_step (by repeat (first | (with_reducible first | exact HB.out | apply below_alloc | apply pw_below_drewN | apply below_drew1) | exact HB.out)) hb); clear HO574; clear HO577; clear HO599; clear HO603; clear HB; have HO574 := n0_; have HO577 := n1_; have HO599 := n2_; have HO603 := n3_; have HB := n4_; clear n0_ n1_ n2_ n3_ n4_; (try clear hb); (try clear hb2); (try clear hk); (try clear hi)) | ((with_reducible refine gate_dst (N := 26) rfl ?_); (try (refine gate_guard (by rfl) ?_; dsimp only)); refine Kd.R_lit (Kd.int .i64) _ 3 ?hg (N := 26) ?hd (xs := ([1] : List Int)) (inner := [.int .i64 1]) (ok := fun _ => True) (okp := fun _ => True) ?hr ?hp (fun _ hk => hk) trivial (Below.refl _ _) (Nat.le_refl _) (by simp) ?_; (case hd => rfl); (case hg => rfl); (case hr => first | (go_simp; done) | (go_simp; rfl)); (case hp => exact (Reps.one (show Kd.M (Kd.int .i64) _ _ _ 1 [.int .i64 1] from rfl) (Reps.none _ _))); intro v606 w38 ho39 hb hg_ hnew_; clear hg_ hnew_; (first | rw [← Ny605.out] at ho39 | (simp only [Int.reduceToNat] at ho39; rw [← Ny605.out] at ho39)); have n0_ := Aside0.mk (Kd.R_elder' (by (with_reducible repeat (first | apply Kd.R_alloc | apply Kd.R_drewN | apply Kd.R_drew)); exact HO574.out) (Kd.R_base ho39) hb); have n1_ := Aside0.mk (Kd.N_elder' (by (with_reducible repeat (first | apply Kd.N_alloc | apply Kd.N_drewN | apply Kd.N_drew)); exact HO577.out) (Kd.R_base ho39) hb); have n2_ := Aside0.mk (Kd.N_elder' (by (with_reducible repeat (first | apply Kd.N_alloc | apply Kd.N_drewN | apply Kd.N_drew)); exact HO599.out) (Kd.R_base ho39) hb); have n3_ := Aside0.mk (Kd.R_elder' (by (with_reducible repeat (first | apply Kd.R_alloc | apply Kd.R_drewN | apply Kd.R_drew)); exact HO603.out) (Kd.R_base ho39) hb); have n4_ := Aside0.mk (Kd.R_lower (Kd.R_new' (Kd.R_new' ho39 (Kd.R_lt (by (with_reducible repeat (first | apply Kd.R_alloc | apply Kd.R_drewN | apply Kd.R_drew)); exact HO574.out))) (Kd.R_lt (by (with_reducible repeat (first | apply Kd.R_alloc | apply Kd.R_drewN | apply Kd.R_drew)); exact HO603.out))) (below_size (by repeat (first | (with_reducible first | exact HB.out | apply below_alloc | apply pw_below_drewN | apply below_drew1) | exact HB.out)))); have n5_ := Aside0.mk (below_step (by repeat (first | (with_reducible first | exact HB.out | apply below_alloc | apply pw_below_drewN | apply below_drew1) | exact HB.out)) hb); clear HO574; clear HO577; clear HO599; clear HO603; clear HB; have HO574 := n0_; have HO577 := n1_; have HO599 := n2_; have HO603 := n3_; have HO607 := n4_; have HB := n5_; clear n0_ n1_ n2_ n3_ n4_ n5_; clear hb ho39; obtain ⟨Ao40, co40, eo40⟩ := Kd.R_slice HO607.out; subst eo40) | (go_at_call 56; (with_reducible refine (artesianlaw23_fails.calls k _ _ y605 1 0 1 1 t608 _ ?side1 ?side2 A7.out).mono ?_); (case side1 => repeat (first | exact (Kd.R_reads' HO607.out).2.2 | (with_reducible refine Kd.C_alloc ?_ _) | (with_reducible refine Kd.C_drewN ?_ _) | (with_reducible refine Kd.C_drew ?_))); (case side2 => exact (Kd.R_reads' HO607.out).2.1); rintro e w41 ⟨rfl, hb⟩; have n0_ := Aside0.mk (Kd.R_below (by (with_reducible repeat (first | apply Kd.R_alloc | apply Kd.R_drewN | apply Kd.R_drew)); exact HO574.out) hb); have n1_ := Aside0.mk (Kd.N_below (by (with_reducible repeat (first | apply Kd.N_alloc | apply Kd.N_drewN | apply Kd.N_drew)); exact HO577.out) hb); have n2_ := Aside0.mk (Kd.N_below (by (with_reducible repeat (first | apply Kd.N_alloc | apply Kd.N_drewN | apply Kd.N_drew)); exact HO599.out) hb); have n3_ := Aside0.mk (Kd.R_below (by (with_reducible repeat (first | apply Kd.R_alloc | apply Kd.R_drewN | apply Kd.R_drew)); exact HO603.out) hb); have n4_ := Aside0.mk (Kd.R_below (by (with_reducible repeat (first | apply Kd.R_alloc | apply Kd.R_drewN | apply Kd.R_drew)); exact HO607.out) hb); have n5_ := Aside0.mk (below_step (by repeat (first | (with_reducible first | exact HB.out | apply below_alloc | apply pw_below_drewN | apply below_drew1) | exact HB.out)) hb); clear HO574; clear HO577; clear HO599; clear HO603; clear HO607; clear HB; have HO574 := n0_; have HO577 := n1_; have HO599 := n2_; have HO603 := n3_; have HO607 := n4_; have HB := n5_; clear n0_ n1_ n2_ n3_ n4_ n5_; (try clear hb); (try clear hb2); (try clear hk); (try clear hi)))
        go_ret
        exact ⟨by first | rfl | (simp [errW_none, errW_some] <;> rfl) | (simp [*, errW_none, errW_some] <;> rfl), by repeat (first | (with_reducible first | exact HB.out | apply below_alloc | apply pw_below_drewN | apply below_drew1) | exact HB.out)⟩
      · rw [if_neg c6] at H; cases H
    · rw [if_neg c4] at H; cases H
  · rw [if_neg c2] at H; cases H
end Go.Proofs.YtjeepapdaciieaaGreat.X
namespace Go.Proofs.YtjeepapdaciieaaGreat.Pure
open Go.RowKit Go.Proofs.YtjeepapdaciieaaGreat.X Go.Proofs.YtjeepapdaciieaaGreatW.PrintWords Go.Proofs.YtjeepapdaciieaaGreatW.PrintLast Go.Proofs.YtjeepapdaciieaaGreatW.PrintMore
open Sizes
section
set_option maxRecDepth 100000 in
theorem awake_true : artesianlaw23_awake.f 200 = some true := by decide +kernel
def marks (K : Nat) (xs : List (List Int)) : List Bool := (List.range (2 ^ K)).map fun a => xs.any fun s => mask s == a
theorem marks_len (K : Nat) (xs : List (List Int)) : (marks K xs).length = 2 ^ K := by simp [marks]
theorem marks_nil (K : Nat) : marks K [] = List.replicate (2 ^ K) false := by
  apply List.ext_getElem
  · simp [marks]
  · intro i h1 h2
    simp [marks]
theorem marks_at (K : Nat) (xs : List (List Int)) (a : Nat) (ha : a < 2 ^ K) : rdOf false (marks K xs) (a : Int) = xs.any fun s => mask s == a := by
  simp [rdOf, marks, ha]
theorem marks_snoc (K : Nat) (xs : List (List Int)) (s : List Int) : (marks K xs).set (mask s) true = marks K (xs ++ [s]) := by
  apply List.ext_getElem
  · simp [marks]
  · intro i h1 h2
    rw [List.getElem_set]
    simp only [marks, List.getElem_map, List.getElem_range, List.any_append, List.any_cons, List.any_nil, Bool.or_false]
    by_cases h : mask s = i
    · simp [h]
    · have : (mask s == i) = false := by simpa using h
      simp [h, this]
theorem mask_take {s : List Int} {j : Nat} (hj : j < s.length) : mask (s.take (j + 1)) = mask (s.take j) + 2 ^ (s[j]).toNat := by
  rw [List.take_succ_eq_append_getElem hj, mask_snoc]
theorem mask_take_le (s : List Int) : ∀ (m j : Nat), j + m = s.length → mask (s.take j) ≤ mask s
  | 0, j, h => by rw [List.take_of_length_le (by omega)]; exact Nat.le_refl _
  | m + 1, j, h => by
    have h1 := mask_take_le s m (j + 1) (by omega)
    rw [mask_take (by omega)] at h1
    exact Nat.le_trans (Nat.le_add_right _ _) h1
theorem pow_le {K : Nat} (hK : K ≤ 10) : 2 ^ K ≤ 1024 := Nat.le_trans (Nat.pow_le_pow_right (by omega) hK) (by decide)
section
variable {K : Nat} {t : List Int} {l : List (List Int)}
structure Good (K : Nat) (t : List Int) (l : List (List Int)) : Prop where
  each : ∀ s ∈ l, Rises K 0 s ∧ 1 ≤ s.length ∧ s.length ≤ t.length ∧ t.getD (s.length - 1) 0 ≠ 0
  ahead : l.Pairwise Ahead
  few : l.length ≤ 4096
theorem not_ahead_self (s : List Int) : ¬ Ahead s s := by
  rintro (h | ⟨_, p, u, v, a, b, h1, h2, h3⟩)
  · omega
  · have h4 := List.append_cancel_left (h1.symm.trans h2)
    injection h4 with h4
    omega
theorem Good.fresh (hK : K ≤ 10) (h : Good K t l) {i : Nat} (hi : i < l.length) : ((l.take i).any fun s => mask s == mask l[i]) = false := by
  rw [Bool.eq_false_iff]
  intro ha
  rw [List.any_eq_true] at ha
  obtain ⟨s, hs, hm⟩ := ha
  have hm : mask s = mask l[i] := by simpa using hm
  obtain ⟨j, hj, rfl⟩ := List.mem_iff_getElem.1 hs
  rw [List.getElem_take] at hm
  rw [List.length_take] at hj
  have hjl : j < l.length := by omega
  have h1 := h.each _ (List.getElem_mem hjl)
  have h2 := h.each _ (List.getElem_mem hi)
  have e1 := (Sizes.bits_mask hK h1.1 (fun e => by have := h1.2.1; rw [e] at this; simp at this)).2
  have e2 := (Sizes.bits_mask hK h2.1 (fun e => by have := h2.2.1; rw [e] at this; simp at this)).2
  have e3 : l[j] = l[i] := by rw [← e1, ← e2, hm]
  have h3 := List.pairwise_iff_getElem.1 h.ahead j i hjl hi (by omega)
  rw [e3] at h3
  exact not_ahead_self _ h3
theorem rd_L1_at {i : Nat} (hi : i < l.length) : rd_L1 l (i : Int) = l[i] := by simp [rd_L1, hi]
end
theorem good_all {K : Nat} (hK : K ≤ 10) {t : List Int} (ht : t.length ≤ K) : Good K t (mass_Sets.all K t) := by
  refine ⟨fun s hs => ?_, from_ahead K t 0, all_len hK ht⟩
  obtain ⟨h1, h2, h3, h4⟩ := (mem_from K t 0 s).1 hs
  exact ⟨h4, h1, by omega, h3⟩
theorem seen_all {K : Nat} (hK : K ≤ 10) {t : List Int} (h0 : ∀ x ∈ t, 0 ≤ x ∧ x < 4) (a : Nat) (ha0 : 1 ≤ a) (ha : a < 2 ^ K) : rdOf false (marks K (mass_Sets.all K t)) (a : Int) = (decide ((Sizes.bits K a).length ≤ t.length) && decide (0 < t.getD ((Sizes.bits K a).length - 1) 0)) := by
  rw [marks_at _ _ _ ha, Bool.eq_iff_iff, List.any_eq_true, Bool.and_eq_true, decide_eq_true_iff, decide_eq_true_iff]
  have hb0 : 1 ≤ (Sizes.bits K a).length := by
    have h1 := mask_bits hK ha
    rcases Nat.eq_zero_or_pos (Sizes.bits K a).length with h | h
    · rw [List.length_eq_zero_iff.1 h] at h1
      simp [mask] at h1
      omega
    · exact h
  have hpos : ∀ n, t.getD n 0 ≠ 0 ↔ 0 < t.getD n 0 := by
    intro n
    rw [List.getD_eq_getElem?_getD]
    cases hn : t[n]? with
    | none => simp
    | some v =>
      have := h0 v (List.mem_of_getElem? hn)
      simp only [Option.getD_some]
      omega
  constructor
  · rintro ⟨s, hs, hm⟩
    have hm : mask s = a := by simpa using hm
    obtain ⟨h1, h2, h3, h4⟩ := (mem_from K t 0 s).1 hs
    have e := (Sizes.bits_mask hK h4 (fun e => by rw [e] at h1; simp at h1)).2
    rw [hm] at e
    rw [e]
    exact ⟨by omega, (hpos _).1 h3⟩
  · rintro ⟨h1, h2⟩
    exact ⟨Sizes.bits K a, (mem_from K t 0 _).2 ⟨by omega, by omega, (hpos _).2 h2, bits_rises K a⟩, by simpa using mask_bits hK ha⟩
attribute [local go_sem] max2_int max_two
theorem mask_round {M M' x : Nat} (h : M' = M + 2 ^ x) (hx : x ≤ 10) (hM : M' ≤ 100000) : Value.int .i64 (wrap64 ((M : Int) + wrap64 (2 ^ x))) = .int .i64 (M' : Int) := by
  have h2 := pow_le hx
  have e : ((2 : Int) ^ x) = ((2 ^ x : Nat) : Int) := by simp
  rw [e]
  generalize 2 ^ x = P at h h2
  rw [X.wrap_small (x := (P : Int)) (by omega) (by omega), X.wrap_small (by omega) (by omega), h]
  simp
theorem bits_round (a j : Nat) (hj : j ≤ 10) : Value.int .i64 (wrap64 ((((Sizes.bits j a).length : Nat) : Int) + Int.tmod ((a : Int) / 2 ^ j) 2)) = .int .i64 (((Sizes.bits (j + 1) a).length : Nat) : Int) := by
  have h := bits_len a j
  have h1 : (Sizes.bits j a).length ≤ j := by have := (bits_rises j a).len; omega
  rw [show ((a : Int) / 2 ^ j) = ((a / 2 ^ j : Nat) : Int) by simp, show Int.tmod ((a / 2 ^ j : Nat) : Int) 2 = ((a / 2 ^ j % 2 : Nat) : Int) from rfl]
  have h2 : a / 2 ^ j % 2 < 2 := Nat.mod_lt _ (by omega)
  generalize a / 2 ^ j % 2 = r at h h2 ⊢
  rw [X.wrap_small (by omega) (by omega), h]
  simp
theorem since_set {w W : World} {g i : Nat} (h : Since w W) (hg : w.heap.size ≤ g) (v : Value) : Since w (W.setCell ⟨g, i, none⟩ v) := Below.setCell h (p := ⟨g, i, none⟩) hg v
def bools (ms : List Bool) : Array Value := (ms.map Value.bool).toArray
def MarksAt (W : World) (g : Nat) (ms : List Bool) : Prop := W.heap[g]? = some (.cells (bools ms) 4 (0, 0))
theorem MarksAt.cell {W : World} {g : Nat} {ms : List Bool} (h : MarksAt W g ms) {i : Nat} (hi : i < ms.length) : W.cell? ⟨g, i, none⟩ = some (.bool ms[i]) := by
  unfold MarksAt bools at h
  simp [World.cell?, h, hi]
theorem MarksAt.frozen {W : World} {g : Nat} {ms : List Bool} (h : MarksAt W g ms) (i : Nat) : W.frozen? ⟨g, i, none⟩ = false := by
  unfold MarksAt at h
  simp [World.frozen?, h]
theorem MarksAt.set {W : World} {g : Nat} {ms : List Bool} (h : MarksAt W g ms) (i : Nat) (b : Bool) : MarksAt (W.setCell ⟨g, i, none⟩ (.bool b)) g (ms.set i b) := by
  unfold MarksAt at h ⊢
  rw [setCell_eq_setRow W g i _ 4 (0, 0) _ h, setRow_heap W g _ _ 4 (0, 0) h]
  simp [bools, List.map_set]
set_option linter.unusedVariables false
set_option linter.unusedSimpArgs false
set_option maxRecDepth 100000 in
set_option maxHeartbeats 4000000 in
theorem true_way (A0 : Option Addr) (c0 : Nat) (l0 : List Int) (a1 : Int) (w : World) (hr0 : Kd.C (Kd.int .i64) w A0 l0.length l0) (hc0 : l0.length ≤ c0) :
    Calls Tryz.prog 4 #[.slice A0 l0.length c0, .int .i64 a1] w fun e w' => e = .returned (.bool true) ∧ Below w.heap.size w w' := by
  obtain ⟨p, hp, hp0, hp1⟩ := pick_tells a1 10 (by omega) (by omega)
  obtain ⟨m, rfl⟩ : ∃ m : Nat, p = (m : Int) := ⟨p.toNat, by omega⟩
  have hm : m < 10 := by omega
  obtain ⟨t, e, ht, h04, hc, hs⟩ := small_ends l0 (m + 1) (by omega)
  obtain ⟨ks, hks⟩ := hs.get
  rw [show (((m + 1 : Nat) : Int)) = 1 + (m : Int) by omega] at hks hc
  have HS := Aside0.mk hks
  have HR := Aside0.mk hr0
  have H04 := Aside0.mk h04
  have HC := Aside0.mk hc
  clear hks hs hr0 h04 hc hp0 hp1
  go_enter Tryz.func4, Tryz.ntmps4
  go_wp2_with fail
  refine (artesianlaw23_awake.calls 200 true _ awake_true).mono ?_
  rintro _ w1 ⟨rfl, hb1⟩
  have B1 := Aside0.mk hb1
  clear hb1
  go_wp2_with fail
  refine (artesiankit_Pick.calls a1 10 m _ hp).mono ?_
  rintro _ w2 ⟨rfl, hb2⟩
  have B2 := Aside0.mk (Since.trans B1.out hb2.below)
  clear hb2 B1
  go_wp2_with fail
  refine (artesianlaw23_small.calls ks A0 c0 l0 (1 + (m : Int)) t (e == 0) _ (Kd.C_below HR.out B2.out) hc0 HS.out).mono ?_
  rintro _ w3 ⟨v3, rfl, hv3, hb3⟩
  obtain ⟨At, ct, rfl, lt, Ct⟩ := Kd.R_reads hv3
  have B3 := Aside0.mk (Since.trans B2.out hb3)
  have T := Aside0.mk Ct
  clear hb3 B2 hv3 Ct hp
  by_cases he : e = 0
  · subst he
    obtain ⟨kt, hn⟩ := HC.out
    have hal := all_len (K := m + 1) (by omega) ht
    rw [show (((m + 1 : Nat) : Int)) = 1 + (m : Int) by omega] at hal
    have hkt : mass_Sets.f kt t (1 + (m : Int)) = some (mass_Sets.all (1 + (m : Int)) t, 0) := by
      rw [mass_Sets.f, (show soliton_Check.f kt t (1 + (m : Int)) = some 0 from hn kt (Nat.le_refl _)), Option.bind_some, if_pos rfl, if_pos ⟨by omega, by omega, by omega⟩, if_pos hal]
    have hgood := good_all (K := m + 1) (by omega) ht
    have hseen := fun a h1 h2 => seen_all (K := m + 1) (by omega) H04.out a h1 h2
    rw [show (((m + 1 : Nat) : Int)) = 1 + (m : Int) by omega] at hgood hseen
    obtain ⟨l, hl⟩ : ∃ l, mass_Sets.all (1 + (m : Int)) t = l := ⟨_, rfl⟩
    rw [hl] at hkt hgood hseen
    have HSets := Aside0.mk hkt
    have HG := Aside0.mk hgood
    have HSeen := Aside0.mk hseen
    clear hn hal hl hkt hgood hseen
    clear HC
    go_wp2_with fail
    refine (mass_Sets.calls kt At ct t (1 + (m : Int)) _ 0 _ T.out lt HSets.out).mono ?_
    rintro _ w4 ⟨v4, rfl, hv4, hb4⟩
    obtain ⟨Al, cl, rfl, ll, Cl⟩ := Kd.N_reads hv4
    have B4 := Aside0.mk (Since.trans B3.out hb4)
    have T4 := Aside0.mk (Kd.C_below T.out hb4)
    have L4 := Aside0.mk Cl
    clear hb4 hv4 Cl T B3 HSets
    obtain ⟨N, hN⟩ : ∃ N : Nat, 2 ^ (m + 1) = N := ⟨_, rfl⟩
    have hN1 : N ≤ 1024 := hN ▸ pow_le (by omega)
    have hmake : ∀ W, (Instr.makeSlice 37 (.int .i64 (wrap64 (2 ^ (1 + m)))) (.int .i64 (wrap64 (2 ^ (1 + m))))).run Tryz.prog W = .ok (.slice (some ⟨W.heap.size, 0, none⟩) N N) (W.alloc (.cells (bools (List.replicate N false)) 4)) := by
      intro W
      obtain ⟨i0, hi, hz⟩ := Option.map_eq_some_iff.1 info4
      simp only [Prod.mk.injEq] at hz
      obtain ⟨hz0, hz1, hz2⟩ := hz
      have e : wrap64 (2 ^ (1 + m)) = (N : Int) := by
        rw [show ((2 : Int) ^ (1 + m)) = ((2 ^ (m + 1) : Nat) : Int) by rw [Nat.add_comm 1 m]; simp, hN, X.wrap_small (by omega) (by omega)]
      rw [e]
      have h := run_make W 37 4 i0 (.bool false) Tryz.underlying37 hi hz0 .i64 .i64 (N : Int) (N : Int) (by omega) (Int.le_refl _) (by rw [hz2]; omega) (by omega)
      have hmade : madeCells (Value.bool false).cells N = bools (List.replicate N false) := by
        apply Array.ext
        · simp [madeCells, bools]
        · intro i h1 h2
          simp [madeCells, bools, Value.cells, Nat.mod_one]
      rw [h, hz1, Int.toNat_natCast, Nat.mul_one, hmade]
    have HN := Aside0.mk (And.intro hN hN1)
    clear hN hN1
    go_wp2
    obtain ⟨g, hg⟩ : ∃ g, w4.heap.size = g := ⟨_, rfl⟩
    rw [hg]
    have hfew := HG.out.few
    obtain ⟨w5, hw5⟩ : ∃ w5, w4.alloc (.cells (bools (List.replicate N false)) 4) = w5 := ⟨_, rfl⟩
    have M5 : MarksAt w5 g (marks (m + 1) []) := by rw [← hw5, ← hg, marks_nil, HN.out.1]; exact heap_alloc_new _ _
    have S5 : Since w4 w5 := by rw [← hw5]; exact (Since.refl _).alloc _
    rw [hw5]
    have HM5 := Aside0.mk (And.intro M5 S5)
    have HGe := Aside0.mk (show w4.heap.size ≤ g by omega)
    clear M5 S5 hw5
    go_loopw [11] (fun v11 wr => ∃ i : Nat, i ≤ l.length ∧ v11 = .int .i64 (i : Int) ∧ Aside0 (MarksAt wr g (marks (m + 1) (l.take i)) ∧ Since w4 wr)) (fun v11 _ => l.length - (intOf v11).toNat)
    case atStart => exact ⟨0, Nat.zero_le _, rfl, HM5⟩
    case round =>
      obtain ⟨i, hi, rfl, HM⟩ := hrel
      by_cases hlt : i < l.length
      · obtain ⟨ad, A1, c1, e1, hx, hl1, hC1⟩ := at_L1 (Kd.C_below L4.out HM.out.2) (i : Int) (by omega) (by omega)
        subst e1
        rw [Int.toNat_natCast, rd_L1_at hlt] at hx
        rw [rd_L1_at hlt] at hl1 hC1
        obtain ⟨hR, hs1, hs2, hs3⟩ := HG.out.each _ (List.getElem_mem hlt)
        have HR1 := Aside0.mk hR
        have hlen : (l[i]).length ≤ 10 := by have := hR.len; omega
        have hml : mask l[i] < 2 ^ (m + 1) := (Sizes.bits_mask (by omega) hR (fun e => by rw [e] at hs1; simp at hs1)).1
        rw [HN.out.1] at hml
        have hN1 := HN.out.2
        have HC1 := Aside0.mk hC1
        clear hR hC1
        go_wp2
        obtain ⟨wo, rfl⟩ : ∃ wo : World, wo = wr := ⟨_, rfl⟩
        go_loopw [12, 13] (fun v12 v13 wx => ∃ j : Nat, j ≤ (l[i]).length ∧ v12 = .int .i64 ((mask ((l[i]).take j) : Nat) : Int) ∧ v13 = .int .i64 (j : Int) ∧ Aside0 (MarksAt wx g (marks (m + 1) (l.take i)) ∧ Since w4 wx)) (fun _ v13 _ => (l[i]).length - (intOf v13).toNat)
        case atStart => exact ⟨0, Nat.zero_le _, rfl, rfl, HM⟩
        case round =>
          obtain ⟨j, hj, rfl, rfl, HX⟩ := hrel
          obtain ⟨ad', A1', c1', e1', hx', hl1', hC1'⟩ := at_L1 (Kd.C_below L4.out HX.out.2) (i : Int) (by omega) (by omega)
          injection e1' with e1'
          subst e1'
          rw [Int.toNat_natCast, rd_L1_at hlt] at hx'
          rw [rd_L1_at hlt] at hl1' hC1'
          have HC2 := Aside0.mk hC1'
          clear hC1' hx HC1
          by_cases hjl : j < (l[i]).length
          · obtain ⟨ae, ee, hxe⟩ := Kd.at_int HC2.out (j : Int) (by omega) (by omega)
            obtain ⟨hx0, hx1⟩ := HR1.out.2 _ (List.getElem_mem hjl)
            obtain ⟨x, hxx⟩ : ∃ x : Nat, (l[i])[j] = (x : Int) := ⟨((l[i])[j]).toNat, by omega⟩
            rw [hxx] at hx0 hx1
            rw [show rd l[i] (j : Int) = (x : Int) by simp [rd, hjl, hxx], Int.toNat_natCast] at hxe
            subst ee
            have hmt := mask_take hjl
            have hle := mask_take_le l[i] ((l[i]).length - (j + 1)) (j + 1) (by omega)
            rw [hxx, Int.toNat_natCast] at hmt
            by_cases hj0 : 0 < j
            · obtain ⟨q, hq⟩ : ∃ q : Nat, j = q + 1 := ⟨j - 1, by omega⟩
              have hql : q < (l[i]).length := by omega
              obtain ⟨ap, ep, hxp⟩ := Kd.at_int HC2.out (q : Int) (by omega) (by omega)
              obtain rfl : ae = ap := by injection ep
              obtain ⟨hy0, _⟩ := HR1.out.2 _ (List.getElem_mem hql)
              obtain ⟨y, hyy⟩ : ∃ y : Nat, (l[i])[q] = (y : Int) := ⟨((l[i])[q]).toNat, by omega⟩
              have hlt2 := List.pairwise_iff_getElem.1 HR1.out.1 q j hql hjl (by omega)
              rw [hxx, hyy] at hlt2
              rw [show rd l[i] (q : Int) = (y : Int) by simp [rd, hql, hyy], Int.toNat_natCast] at hxp
              have hw1 : IntKind.i64.wrap ((j : Int) - 1) = (q : Int) := by rw [IntWalk.i64_in _ (by omega)]; omega
              have p1 : (0 : Int) ≤ (i : Int) := by omega
              have p2 : (i : Int) < (l.length : Int) := by omega
              have p3 : (0 : Int) ≤ (j : Int) := by omega
              have p4 : (j : Int) < ((l[i]).length : Int) := by omega
              have p5 : (0 : Int) ≤ (q : Int) := by omega
              have p6 : (q : Int) < ((l[i]).length : Int) := by omega
              have d1 : decide ((x : Int) < 0) = false := decide_eq_false (by omega)
              have d2 : decide (1 + (m : Int) ≤ (x : Int)) = false := decide_eq_false (by omega)
              have d3 : decide ((0 : Int) < (j : Int)) = true := decide_eq_true (by omega)
              have d4 : decide (x ≤ y) = false := decide_eq_false (by omega)
              have d5 : decide ((x : Int) ≤ (y : Int)) = false := decide_eq_false (by omega)
              have HMT := Aside0.mk (And.intro hmt hle)
              clear hle hmt hlt2 hy0 hyy hxx hq
              go_wp2_with fail
              go_quiet (fail)
              go_wp2
              go_roundw
              case rel => exact ⟨j + 1, hjl, mask_round HMT.out.1 (by omega) (by have := HMT.out.2; omega), by go_num, ⟨⟨HX.out.1, pw_below_drewN HX.out.2 _⟩⟩⟩
              case measure => simp [intOf]; omega
            · have p1 : (0 : Int) ≤ (i : Int) := by omega
              have p2 : (i : Int) < (l.length : Int) := by omega
              have p3 : (0 : Int) ≤ (j : Int) := by omega
              have p4 : (j : Int) < ((l[i]).length : Int) := by omega
              have d1 : decide ((x : Int) < 0) = false := decide_eq_false (by omega)
              have d2 : decide (1 + (m : Int) ≤ (x : Int)) = false := decide_eq_false (by omega)
              have d3 : decide ((0 : Int) < (j : Int)) = false := decide_eq_false (by omega)
              have HMT := Aside0.mk (And.intro hmt hle)
              clear hle hmt hxx
              go_wp2_with fail
              go_quiet (fail)
              go_wp2
              go_roundw
              case rel => exact ⟨j + 1, hjl, mask_round HMT.out.1 (by omega) (by have := HMT.out.2; omega), by go_num, ⟨⟨HX.out.1, pw_below_drewN HX.out.2 _⟩⟩⟩
              case measure => simp [intOf]; omega
          · obtain rfl : j = (l[i]).length := by omega
            rw [List.take_length]
            obtain ⟨M, hM⟩ : ∃ M, mask l[i] = M := ⟨_, rfl⟩
            rw [hM] at hml ⊢
            obtain ⟨q, hq⟩ : ∃ q : Nat, (l[i]).length = q + 1 := ⟨(l[i]).length - 1, by omega⟩
            have hqt : q < t.length := by omega
            obtain ⟨at_, et, hxt⟩ := Kd.at_int (Kd.C_below T4.out HX.out.2) (q : Int) (by omega) (by omega)
            obtain ⟨c, hc⟩ : ∃ c, rd t (q : Int) = c := ⟨_, rfl⟩
            have hc0 : (c == 0) = false := by
              rw [beq_eq_false_iff_ne, ← hc]
              have : (l[i]).length - 1 = q := by omega
              rw [this] at hs3
              simpa [rd] using hs3
            rw [hc, Int.toNat_natCast] at hxt
            subst et
            have hlm : (marks (m + 1) (l.take i)).length = N := by rw [marks_len, HN.out.1]
            have hcm := HX.out.1.cell (i := M) (by omega)
            have hfr := HG.out.fresh (by omega) hlt
            have hmf : (marks (m + 1) (l.take i))[M] = false := by
              have h1 := marks_at (m + 1) (l.take i) M (by rw [HN.out.1]; exact hml)
              rw [hM] at hfr
              rw [hfr] at h1
              simpa [rdOf, hml, hlm] using h1
            rw [hmf] at hcm
            have hfz := HX.out.1.frozen M
            have hw1 : IntKind.i64.wrap (((l[i]).length : Int) - 1) = (q : Int) := by rw [IntWalk.i64_in _ (by omega)]; omega
            have p1 : (0 : Int) ≤ (i : Int) := by omega
            have p2 : (i : Int) < (l.length : Int) := by omega
            have p5 : (0 : Int) ≤ (q : Int) := by omega
            have p6 : (q : Int) < (t.length : Int) := by omega
            have p7 : (0 : Int) ≤ (M : Int) := by omega
            have p8 : (M : Int) < (N : Int) := by omega
            have d1 : decide (N ≤ M) = false := decide_eq_false (by omega)
            have d2 : decide (((l[i]).length : Int) < 1) = false := decide_eq_false (by omega)
            have d3 : decide (t.length < (l[i]).length) = false := decide_eq_false (by omega)
            have HMM := Aside0.mk (And.intro hM (And.intro hfr hlm))
            clear hM hq hqt hc hmf hs3 hfr hlm
            go_wp2
            have hset : (marks (m + 1) (l.take i)).set M true = marks (m + 1) (l.take (i + 1)) := by rw [← HMM.out.1, marks_snoc, List.take_succ_eq_append_getElem hlt]
            have HX2 := Aside0.mk (And.intro (hset ▸ HX.out.1.set M true) (since_set (i := M) HX.out.2 HGe.out (.bool true)))
            clear hset hcm hfz hxt HMM
            by_cases hi0 : 0 < i
            · obtain ⟨q2, hq2⟩ : ∃ q2 : Nat, i = q2 + 1 := ⟨i - 1, by omega⟩
              have hq2l : q2 < l.length := by omega
              obtain ⟨ad2, A2, c2, e2, hx2, hl2, hC2⟩ := at_L1 (Kd.C_below L4.out HX2.out.2) (q2 : Int) (by omega) (by omega)
              injection e2 with e2
              subst e2
              rw [Int.toNat_natCast, rd_L1_at hq2l] at hx2
              rw [rd_L1_at hq2l] at hl2 hC2
              obtain ⟨ad3, A3, c3, e3, hx3, hl3, hC3⟩ := at_L1 (Kd.C_below L4.out HX2.out.2) (i : Int) (by omega) (by omega)
              injection e3 with e3
              subst e3
              rw [Int.toNat_natCast, rd_L1_at hlt] at hx3
              rw [rd_L1_at hlt] at hl3 hC3
              have hlen2 : (l[q2]).length ≤ 1000000 := by have := (HG.out.each _ (List.getElem_mem hq2l)).1.len; omega
              obtain ⟨kA, hA⟩ := (ahead_ends hlen2 (List.pairwise_iff_getElem.1 HG.out.ahead q2 i hq2l hlt (by omega))).get
              have H2 := Aside0.mk hC2
              have H3 := Aside0.mk hC3
              have HA := Aside0.mk hA
              have hw2 : IntKind.i64.wrap ((i : Int) - 1) = (q2 : Int) := by rw [IntWalk.i64_in _ (by omega)]; omega
              have p9 : (0 : Int) ≤ (q2 : Int) := by omega
              have p10 : (q2 : Int) < (l.length : Int) := by omega
              have d4 : decide ((0 : Int) < (i : Int)) = true := decide_eq_true (by omega)
              clear hC2 hC3 hA hlen2 hq2
              go_quiet ((go_at_call 24; refine (artesianlaw23_ahead.calls kA A2 c2 _ A3 c3 _ true _ (Kd.C_drewN H2.out _) hl2 (Kd.C_drewN H3.out _) hl3 HA.out).mono ?_; rintro _ w' ⟨rfl, hd⟩; obtain ⟨nd, rfl⟩ := hd.out; exact ⟨rfl, _, World.drewN_drewN _ _ _⟩))
              go_wp2
              go_roundw
              case rel => exact ⟨i + 1, hlt, by go_num, ⟨⟨HX2.out.1, pw_below_drewN HX2.out.2 _⟩⟩⟩
              case measure => simp [intOf]; omega
            · have d4 : decide ((0 : Int) < (i : Int)) = false := decide_eq_false (by omega)
              go_quiet (fail)
              go_wp2
              go_roundw
              case rel => exact ⟨i + 1, hlt, by go_num, ⟨⟨HX2.out.1, pw_below_drewN HX2.out.2 _⟩⟩⟩
              case measure => simp [intOf]; omega
      · obtain rfl : i = l.length := by omega
        rw [List.take_length] at HM
        go_wp2
        obtain ⟨wo, rfl⟩ : ∃ wo : World, wo = wr := ⟨_, rfl⟩
        have hN1 := HN.out.2
        have hNp : 1 ≤ N := by have := HN.out.1; have := Nat.one_le_two_pow (n := m + 1); omega
        go_loopw [14] (fun v14 wx => ∃ a : Nat, 1 ≤ a ∧ a ≤ N ∧ v14 = .int .i64 (a : Int) ∧ Aside0 (MarksAt wx g (marks (m + 1) l) ∧ Since w4 wx)) (fun v14 _ => N - (intOf v14).toNat)
        case atStart => exact ⟨1, Nat.le_refl _, hNp, rfl, HM⟩
        case round =>
          obtain ⟨a, ha1, haN, rfl, HX⟩ := hrel
          by_cases hal : a < N
          · go_wp2
            obtain ⟨wp, rfl⟩ : ∃ wp : World, wp = wr := ⟨_, rfl⟩
            go_loopw [15, 16] (fun v15 v16 wy => ∃ j : Nat, j ≤ m + 1 ∧ v15 = .int .i64 (((Sizes.bits j a).length : Nat) : Int) ∧ v16 = .int .i64 (j : Int) ∧ Aside0 (MarksAt wy g (marks (m + 1) l) ∧ Since w4 wy)) (fun _ v16 _ => (m + 1) - (intOf v16).toNat)
            case atStart => exact ⟨0, Nat.zero_le _, by simp [Sizes.bits], rfl, HX⟩
            case round =>
              obtain ⟨j, hj, rfl, rfl, HY⟩ := hrel
              by_cases hjl : j < m + 1
              · have q1 : (j : Int) < 1 + (m : Int) := by omega
                go_wp2
                exact ⟨⟨j + 1, hjl, bits_round a j (by omega), by go_num, HY⟩, by simp [intOf]; omega⟩
              · obtain rfl : j = m + 1 := by omega
                have q1 : ¬ (((m + 1 : Nat) : Int) < 1 + (m : Int)) := by omega
                have q1' : decide (((m : Int) + 1) < 1 + (m : Int)) = false := decide_eq_false (by omega)
                have hsa := HSeen.out a ha1 (by rw [HN.out.1]; exact hal)
                obtain ⟨D, hD⟩ : ∃ D, (Sizes.bits (m + 1) a).length = D := ⟨_, rfl⟩
                have hD0 : 1 ≤ D := by
                  have h1 := mask_bits (K := m + 1) (by omega) (a := a) (by rw [HN.out.1]; exact hal)
                  rw [← hD]
                  rcases Nat.eq_zero_or_pos (Sizes.bits (m + 1) a).length with h | h
                  · rw [List.length_eq_zero_iff.1 h] at h1
                    simp [mask] at h1
                    omega
                  · exact h
                have hDm : D ≤ m + 1 := by have := (bits_rises (m + 1) a).len; omega
                rw [hD] at hsa ⊢
                have hlm : (marks (m + 1) l).length = N := by rw [marks_len, HN.out.1]
                have hcm := HY.out.1.cell (i := a) (by omega)
                obtain ⟨b, hb⟩ : ∃ b, (marks (m + 1) l)[a] = b := ⟨_, rfl⟩
                have hbs : b = (decide (D ≤ t.length) && decide (0 < t.getD (D - 1) 0)) := by
                  rw [← hsa, ← hb]
                  simp [rdOf, hlm, hal]
                rw [hb] at hcm
                have p1 : (0 : Int) ≤ (a : Int) := by omega
                have p2 : (a : Int) < (N : Int) := by omega
                have HB := Aside0.mk hbs
                clear hsa hlm hb hbs hD
                by_cases hDt : D ≤ t.length
                · obtain ⟨q, hq⟩ : ∃ q : Nat, D = q + 1 := ⟨D - 1, by omega⟩
                  have hqt : q < t.length := by omega
                  obtain ⟨at_, et, hxt⟩ := Kd.at_int (Kd.C_below T4.out HY.out.2) (q : Int) (by omega) (by omega)
                  obtain ⟨c, hc⟩ : ∃ c, rd t (q : Int) = c := ⟨_, rfl⟩
                  rw [hc, Int.toNat_natCast] at hxt
                  subst et
                  have hbc : b = decide (0 < c) := by
                    rw [HB.out, decide_eq_true hDt, Bool.true_and, ← hc, hq]
                    simp [rd]
                  have hmx : mx (D : Int) 1 = (D : Int) := by unfold mx; rw [if_neg (by omega)]
                  have hw1 : IntKind.i64.wrap ((D : Int) - 1) = (q : Int) := by rw [IntWalk.i64_in _ (by omega)]; omega
                  have d1 : decide (D ≤ t.length) = true := decide_eq_true hDt
                  have p5 : (0 : Int) ≤ (q : Int) := by omega
                  have p6 : (q : Int) < (t.length : Int) := by omega
                  clear hq hc
                  by_cases hc0 : 0 < c
                  · have hbt : b = true := by rw [hbc, decide_eq_true hc0]
                    subst hbt
                    have d2 : decide (0 < c) = true := decide_eq_true hc0
                    clear hbc
                    go_wp2_with fail
                    go_quiet (fail)
                    go_wp2
                    go_roundw
                    case rel => exact ⟨a + 1, by omega, hal, by go_num, ⟨⟨HY.out.1, pw_below_drewN HY.out.2 _⟩⟩⟩
                    case measure => simp [intOf]; omega
                  · have hbt : b = false := by rw [hbc, decide_eq_false hc0]
                    subst hbt
                    have d2 : decide (0 < c) = false := decide_eq_false hc0
                    clear hbc
                    go_wp2_with fail
                    go_quiet (fail)
                    go_wp2
                    go_roundw
                    case rel => exact ⟨a + 1, by omega, hal, by go_num, ⟨⟨HY.out.1, pw_below_drewN HY.out.2 _⟩⟩⟩
                    case measure => simp [intOf]; omega
                · have hbt : b = false := by rw [HB.out, decide_eq_false hDt, Bool.false_and]
                  subst hbt
                  have d1 : decide (D ≤ t.length) = false := decide_eq_false hDt
                  go_wp2_with fail
                  go_quiet (fail)
                  go_wp2
                  go_roundw
                  case rel => exact ⟨a + 1, by omega, hal, by go_num, ⟨⟨HY.out.1, pw_below_drewN HY.out.2 _⟩⟩⟩
                  case measure => simp [intOf]; omega
          · go_wp2
            go_ret
            exact ⟨rfl, Below.trans B4.out (HX.out.2.mono B4.out.size)⟩
  · have he' : (e == 0) = false := by simpa using he
    go_wp2
    go_ret
    exact ⟨rfl, B3.out⟩
theorem massSizes_walk (a0 : Option Addr) (len0 cap0 : Nat) (z0 : List Int) (a1 : Int) (w : World) (w0 : (a0 = none ∧ len0 = 0 ∧ cap0 = 0 ∧ z0 = []) ∨ ∃ x, a0 = some x ∧ len0 ≤ cap0 ∧ cap0 ≤ maxLen ∧ z0.length = cap0 ∧ (∀ i, i < z0.length → w.cell? (x.add i) = some (.int .i64 (z0.getD i 0))) ∧ ∀ n ∈ z0, (Lit.int .i64 n).wf = true) :
    Calls Tryz.prog 4 #[.slice a0 len0 cap0, .int .i64 a1] w fun e w' => e = .returned (.bool true) ∧ Below w.heap.size w w' := by
  obtain ⟨l0, rfl, hr0, hm0, hw0, hc0⟩ := ReadsInt.ofRowC w0
  exact true_way a0 cap0 l0 a1 w (Kd.C_of_reads (d := (0 : Int)) (h1 := fun _ => rfl) hr0) hc0
end
end Go.Proofs.YtjeepapdaciieaaGreat.Pure
namespace Go.Proofs.YtjeepapdaciieaaGreat.massSizes
open Go.ChangeShapes Go.WideShapes Go.ChangeAt Go.RowKit
open Go.ChangeMaps (open_string shut_string)
set_option linter.unusedVariables false
theorem own : ownKnob Tryz.prog.godebug = none := by kernel_rfl
theorem laidOut : laidOutB Tryz.prog = true := by kernel_rfl
def IsRow (k : IntKind) (w : World) (a : Option Addr) (len cap : Nat) (zs : List Int) : Prop :=
  (a = none ∧ len = 0 ∧ cap = 0 ∧ zs = []) ∨
  ∃ x, a = some x ∧ len ≤ cap ∧ cap ≤ maxLen ∧ zs.length = cap ∧ (∀ i, i < zs.length → w.cell? (x.add i) = some (.int k (zs.getD i 0))) ∧ ∀ n ∈ zs, (Lit.int k n).wf = true
set_option maxRecDepth 100000 in
theorem lifted (os : Os) (started : os.Started) (H : Type) (enc : TypeId × Value → H) :
    ReturnsInHanded {} Tryz.checked os 4 .any (Rows.massSizesSpec.pre6 enc Tryz.prog Tryz.f4 Rows.massSizesRow.domain false) (Rows.massSizesSpec.post enc Tryz.prog Tryz.f4 false true false false) := by
  refine returnsInHanded_of_change_sized (C := Tryz.checked) own started (by kernel_rfl) Tryz.func4
    (ChangeSpec.witness6 (enc := enc) (C := Tryz.checked) false ⟨#[], #[.slice none 0 0, .int .i64 0], []⟩ 8 (by kernel_rfl) (by kernel_rfl) (by kernel_rfl) (by kernel_rfl)) ?_
  intro W base args ds gs before hval0 hW hcnd hsz0 _
  have hsz : (DataW.weightsEach Tryz.prog (Tryz.f4.params.toList ++ Rows.massSizesSpec.plain.varTypes Tryz.prog) (ds ++ gs)).all (· ≤ reachBytes) = true := hsz0
  have hval : ∀ (j : Nat) t v, Tryz.f4.params[j]? = some t → args[j]? = some v → Value.okWide Tryz.prog W .any base t v := hval0
  have hW' := hW
  obtain ⟨p, q, hA0, hV, rfl, hfz, hnd⟩ := hW
  have hA : DataW.TrodAll enc Tryz.prog W 0 (fun _ => true) true Tryz.f4.params.toList args.toList ds p := hA0
  rw [Tryz.params4] at hA hval hsz
  obtain ⟨v0, vs0, d0, ds0, p0, q0, hargs, rfl, rfl, h0, r0⟩ := trodAll_cons hA
  obtain ⟨v1, vs1, d1, ds1, p1, q1, rfl, rfl, rfl, h1, r1⟩ := trodAll_cons r0
  obtain ⟨rfl, rfl, rfl⟩ := trodAll_nil r1
  obtain rfl : args = #[v0, v1] := by cases args; simp_all
  obtain ⟨rfl, rfl⟩ := trodVars_none hV
  obtain ⟨a0, len0, cap0, rfl⟩ := okWide_slice Tryz.underlying22 (hval 0 22 v0 rfl rfl)
  have k0 := h0
  have lt0 : ∀ x ∈ p0, x.block < W.heap.size := by obtain ⟨m, hm⟩ := k0; exact DataW.trod_lt m _ _ _ hm
  obtain ⟨z0, w0⟩ : ∃ zs, IsRow .i64 W a0 len0 cap0 zs := by
    obtain ⟨fuel, hf⟩ := h0
    rcases open_ints Tryz.underlying22 Tryz.underlying3 (by kernel_rfl) hf with ⟨hcs, _⟩ | ⟨x, l, c, zs, hcs, _, hl, hm, hz, _, hcell, hwz⟩
    · simp [Value.cells] at hcs
      obtain ⟨rfl, rfl, rfl⟩ := hcs
      exact ⟨[], .inl ⟨rfl, rfl, rfl, rfl⟩⟩
    · simp [Value.cells] at hcs
      obtain ⟨rfl, rfl, rfl⟩ := hcs
      exact ⟨zs, .inr ⟨_, rfl, hl, hm, by simpa using hz, hcell, hwz⟩⟩
  have y0 : len0 * 8 ≤ 140737488351232 := Go.Proofs.YtjeepapdaciieaaGreatW.PrintWords.sized_ints hsz (j := 0) (t := 22) rfl rfl Tryz.underlying22 Tryz.underlying3 (by kernel_rfl) (by kernel_rfl) h0
  obtain ⟨a1, rfl, rfl, rfl, w1⟩ := open_int Tryz.underlying3 (hval 1 3 v1 rfl rfl) h1
  clear hA0 hval0 hsz0 hsz
  refine (Pure.massSizes_walk a0 len0 cap0 z0 a1 W w0).mono fun e W' ⟨he, bel⟩ => ?_
  subst he
  exact ⟨_, rfl, _, _, _, [], _, [], hW', trodAll_mk1 (shut_bool Tryz.underlying4 _), (trodAll_cons_mk (Below.trod laidOut (by kernel_rfl) (of_decide_eq_true (by kernel_rfl)) k0 bel lt0) (trodAll_cons_mk (shut_int Tryz.underlying3 w1) trodAll_mk0)), rfl, bel.frame _, fun h => by cases h⟩
theorem over : Rows.massSizesRow.holds Tryz.pinned (OpenSpec.ofChange Rows.massSizesSpec) :=
  OpenClaim.holds_of_wide 4 Tryz.f4 rfl rfl rfl rfl rfl rfl rfl ⟨rfl, rfl, rfl, rfl, rfl⟩ rfl rfl rfl rfl rfl fact_named Tryz.func4 fact_closed
    fact_instance fact_wrapper
    (fun os started H enc _ => lifted os started H enc)
theorem proved : Rows.MassSizesSaid := over
#print axioms proved
end Go.Proofs.YtjeepapdaciieaaGreat.massSizes
namespace Go.Proofs.YtjeepapdaciieaaGreat
theorem massSizes_holds : Rows.MassSizesSaid := massSizes.proved
end Go.Proofs.YtjeepapdaciieaaGreat
