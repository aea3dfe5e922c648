/- Part 4 of the proof of MassSizes: what the program's functions compute, function by function. -/
import Derived.Laws.EntriesVeiled
import Derived.Defers
import Derived.Test.YtjeepapdaciieaaGreatMMassSizes0
import Derived.Test.YtjeepapdaciieaaGreatMMassSizes1
import Derived.Test.YtjeepapdaciieaaGreatMMassSizes2
import Derived.Test.YtjeepapdaciieaaGreatMMassSizes3
namespace Go.Proofs.YtjeepapdaciieaaGreat.X
open Go.RowKit Go.Proofs.YtjeepapdaciieaaGreatW.PrintWords Go.Proofs.YtjeepapdaciieaaGreatW.PrintLast Go.Proofs.YtjeepapdaciieaaGreatW.PrintMore
attribute [local go_sem] max2_int min2_int max_two min_two max_three min_three max_four min_four
set_option linter.unusedVariables false
set_option linter.unusedSimpArgs false
def row_Chance.f (k : Nat) (l0 : List Int) (a1 : Int) (a2 : Int) : Option (Bool × List Int × List Int × Int) := (soliton_Check.f k l0 a1).bind fun t285 => (if t285 = 0 then (if a2 < 1 then (some (false, ([] : List Int), ([] : List Int), 3)) else (if a2 > (l0.length : Int) then (some (false, ([] : List Int), ([] : List Int), 3)) else ((binom_Choose.f k a1 a2).bind fun bt286 => (if 0 ≤ (wrap64 (a2 - 1)) then (if (wrap64 (a2 - 1)) < (l0.length : Int) then ((limbs_Of.f k (IntKind.u64.wrap (rd l0 (wrap64 (a2 - 1))))).bind fun t291 => ((signed_Make.f k false t291).bind fun bt294 => ((soliton_Total.f l0).bind fun t298 => ((times_Grow.f bt286.1 (IntKind.u64.wrap (t298))).bind fun t299 => ((ratio_Make.f k bt294.1 bt294.2 t299).bind fun bt302 => (some (bt302.1, bt302.2.1, bt302.2.2.1, bt302.2.2.2))))))) else (none)) else (none))))) else (some (false, ([] : List Int), ([] : List Int), 13)))
set_option maxHeartbeats 8000000 in
set_option maxRecDepth 100000 in
theorem row_Chance.calls (k : Nat) (A0 : Option Addr) (c0 : Nat) (l0 : List Int) (a1 : Int) (a2 : Int) (r1 : Bool) (r2 : List Int) (r3 : List Int) (r4 : Int) (w : World) (hr0 : Kd.C (Kd.int .i64) w A0 l0.length l0) (hc0 : l0.length ≤ c0) (h : row_Chance.f k l0 a1 a2 = some (r1, r2, r3, r4)) :
    Calls Tryz.prog 37 #[.slice A0 l0.length c0, .int .i64 a1, .int .i64 a2] w fun e w' => ∃ v1_ v2_ : Value, e = .returned (.tuple #[.agg #[.bool r1, v1_, v2_], .int .i64 r4]) ∧ Kd.R (Kd.int .u64) 112 w' w.heap.size (fun k_ => some k_ ≠ (v2_ : Value).ownBlock) v1_ r2 ∧ Kd.R (Kd.int .u64) 112 w' w.heap.size (fun k_ => some k_ ≠ (v1_ : Value).ownBlock) v2_ r3 ∧ Below w.heap.size w w' := by
  have hu44 := Tryz.underlying44
  have HR0 := Aside0.mk hr0
  have HC0 := Aside0.mk hc0
  clear hr0 hc0
  have HB := Aside0.mk (Below.refl w.heap.size w)
  have H : ((soliton_Check.f k l0 a1).bind fun t285 => (if t285 = 0 then (if a2 < 1 then (some (false, ([] : List Int), ([] : List Int), 3)) else (if a2 > (l0.length : Int) then (some (false, ([] : List Int), ([] : List Int), 3)) else ((binom_Choose.f k a1 a2).bind fun bt286 => (if 0 ≤ (wrap64 (a2 - 1)) then (if (wrap64 (a2 - 1)) < (l0.length : Int) then ((limbs_Of.f k (IntKind.u64.wrap (rd l0 (wrap64 (a2 - 1))))).bind fun t291 => ((signed_Make.f k false t291).bind fun bt294 => ((soliton_Total.f l0).bind fun t298 => ((times_Grow.f bt286.1 (IntKind.u64.wrap (t298))).bind fun t299 => ((ratio_Make.f k bt294.1 bt294.2 t299).bind fun bt302 => (some (bt302.1, bt302.2.1, bt302.2.2.1, bt302.2.2.2))))))) else (none)) else (none))))) else (some (false, ([] : List Int), ([] : List Int), 13)))) = some (r1, r2, r3, r4) := h
  clear h
  replace H := Option.bind_eq_some_iff.mp H
  obtain ⟨t285, A40, H⟩ := H
  replace H : (if t285 = 0 then (if a2 < 1 then (some (false, ([] : List Int), ([] : List Int), 3)) else (if a2 > (l0.length : Int) then (some (false, ([] : List Int), ([] : List Int), 3)) else ((binom_Choose.f k a1 a2).bind fun bt286 => (if 0 ≤ (wrap64 (a2 - 1)) then (if (wrap64 (a2 - 1)) < (l0.length : Int) then ((limbs_Of.f k (IntKind.u64.wrap (rd l0 (wrap64 (a2 - 1))))).bind fun t291 => ((signed_Make.f k false t291).bind fun bt294 => ((soliton_Total.f l0).bind fun t298 => ((times_Grow.f bt286.1 (IntKind.u64.wrap (t298))).bind fun t299 => ((ratio_Make.f k bt294.1 bt294.2 t299).bind fun bt302 => (some (bt302.1, bt302.2.1, bt302.2.2.1, bt302.2.2.2))))))) else (none)) else (none))))) else (some (false, ([] : List Int), ([] : List Int), 13))) = some (r1, r2, r3, r4) := H
  have A4 := Aside0.mk A40
  clear A40
  by_cases c5 : t285 = 0
  · rw [if_pos c5] at H
    have c5b0 : (t285 == 0) = true := beq_iff_eq.mpr c5
    have c5b1 : (t285 != 0) = false := bne_eq_false_iff_eq.mpr c5
    clear c5
    by_cases c6 : a2 < 1
    · rw [if_pos c6] at H
      have c6b0 : decide (a2 < 1) = true := decide_eq_true c6
      clear c6
      simp only [Option.some.injEq, Prod.mk.injEq] at H
      obtain ⟨rfl, rfl, rfl, rfl⟩ := H
      go_enter Tryz.func37, Tryz.ntmps37
      go_wp2_with (first | ((with_reducible refine gate_dst (N := 6) rfl ?_); (try (refine gate_guard (by rfl) ?_; dsimp only)); refine box_event ?hg (N := 6) ?hd (cs := #[.bool false, .slice none 0 0, .slice none 0 0]) (t := 44) ?hr ?_; (case hd => rfl); (case hg => rfl); (case hr => first | (go_simp; done) | (go_simp; rfl)); intro gb284 hg w7 hbox hb; have n0_ := Aside0.mk (below_step (by repeat (first | (with_reducible first | exact HB.out | apply below_alloc | apply pw_below_drewN | apply below_drew1) | exact HB.out)) hb); have n1_ := Aside0.mk (hbox); have n2_ := Aside0.mk ((by rw [hg]; exact (below_size (by repeat (first | (with_reducible first | exact HB.out | apply below_alloc | apply pw_below_drewN | apply below_drew1) | exact HB.out))) : w.heap.size ≤ gb284)); have n3_ := Aside0.mk ((by rw [hg]; exact (below_size (by repeat (first | (with_reducible first | exact HB.out | apply below_alloc | apply pw_below_drewN | apply below_drew1) | exact HB.out))) : w.heap.size ≤ gb284)); clear HB; have HB := n0_; have BK284 := n1_; have GW284 := n2_; have GE284 := n3_; clear n0_ n1_ n2_ n3_; clear hb hbox hg) | ((with_reducible refine gate_callee (f := 47) rfl ?_); refine goesL_ (some 13) rfl rfl Tryz.func47 (by kernel_rfl) rfl #[.slice A0 l0.length c0, .int .i64 a1] rfl (by (try simp only [List.map_toArray, List.map_cons, List.map_nil]); first | done | rfl | (simp only [List.length_drop, List.length_take]; rfl)) ?_; (with_reducible refine (soliton_Check.calls k _ _ l0 a1 t285 _ ?side1 ?side2 A4.out).mono ?_); (case side1 => repeat (first | exact (Kd.C_below HR0.out HB.out) | (with_reducible refine Kd.C_alloc ?_ _) | (with_reducible refine Kd.C_drewN ?_ _) | (with_reducible refine Kd.C_drew ?_))); (case side2 => exact HC0.out); rintro e w' ⟨rfl, ⟨nd, rfl⟩⟩; refine ⟨_, rfl, ?_⟩; (try (rw [drewN_self w7]; generalize hq_ : World.drewN w7 _ = w7; have n0_ : Aside0 (w7.heap[gb284]? = some (.cells #[.bool false, .slice none 0 0, .slice none 0 0] 44 (0, 0))) := ⟨by rw [← hq_]; exact (by (with_reducible repeat (first | refine blk_drewN ?_ _ | refine blk_drew ?_ | refine blk_alloc ?_ _)); exact BK284.out)⟩; have n1_ : Aside0 (Below w.heap.size w w7) := ⟨by rw [← hq_]; exact (by repeat (first | (with_reducible first | exact HB.out | apply below_alloc | apply pw_below_drewN | apply below_drew1 | refine below_set ?_ GE284.out) | exact HB.out))⟩; clear BK284 HB hq_; have BK284 := n0_; have HB := n1_; clear n0_ n1_)); have hcz8_0 : w7.cell? ⟨gb284, 0, none⟩ = some (.bool false) := (blk_cell BK284.out 0).trans rfl; have hcz8_1 : w7.cell? ⟨gb284, 1, none⟩ = some (.slice none 0 0) := (blk_cell BK284.out 1).trans rfl; have hcz8_2 : w7.cell? ⟨gb284, 2, none⟩ = some (.slice none 0 0) := (blk_cell BK284.out 2).trans rfl; have hfz8_0 := blk_frozen BK284.out 0; have hfz8_1 := blk_frozen BK284.out 1; have hfz8_2 := blk_frozen BK284.out 2))
      refine bodyPost_ret (results_ct rfl _ _ gb284 44 #[.bool false, .slice none 0 0, .slice none 0 0] (0, 0) _ rfl (by (with_reducible repeat (first | refine blk_drewN ?_ _ | refine blk_drew ?_ | refine blk_alloc ?_ _)); refine blk_put (cs := #[.bool false, .slice none 0 0, .slice none 0 0]) ?_ 2 _ rfl; (with_reducible repeat (first | refine blk_drewN ?_ _ | refine blk_drew ?_ | refine blk_alloc ?_ _)); refine blk_put (cs := #[.bool false, .slice none 0 0, .slice none 0 0]) ?_ 1 _ rfl; (with_reducible repeat (first | refine blk_drewN ?_ _ | refine blk_drew ?_ | refine blk_alloc ?_ _)); refine blk_put (cs := #[.bool false, .slice none 0 0, .slice none 0 0]) ?_ 0 _ rfl; (with_reducible repeat (first | refine blk_drewN ?_ _ | refine blk_drew ?_ | refine blk_alloc ?_ _)); exact BK284.out) Tryz.underlying44 rfl (by kernel_rfl)) rfl ?_
      exact ⟨_, _, by first | rfl | (simp [errW_none, errW_some] <;> rfl) | (simp [*, errW_none, errW_some] <;> rfl), by first | exact Kd.R_nil _ _ _ _ _ | exact Kd.N_nil _ _ _ _ _ | exact Kd.V_nil _ _ _ _ _ | exact Kd.Q_nil _ _ _ _ _ | exact Kd.S_nil _ _ _ _ _, by first | exact Kd.R_nil _ _ _ _ _ | exact Kd.N_nil _ _ _ _ _ | exact Kd.V_nil _ _ _ _ _ | exact Kd.Q_nil _ _ _ _ _ | exact Kd.S_nil _ _ _ _ _, by repeat (first | (with_reducible first | exact HB.out | apply below_alloc | apply pw_below_drewN | apply below_drew1 | refine below_set ?_ GE284.out) | exact HB.out)⟩
    · rw [if_neg c6] at H
      have c6b0 : decide (a2 < 1) = false := decide_eq_false c6
      clear c6
      by_cases c9 : a2 > (l0.length : Int)
      · rw [if_pos c9] at H
        have c9b0 : decide ((l0.length : Int) < a2) = true := decide_eq_true c9
        clear c9
        simp only [Option.some.injEq, Prod.mk.injEq] at H
        obtain ⟨rfl, rfl, rfl, rfl⟩ := H
        go_enter Tryz.func37, Tryz.ntmps37
        go_wp2_with (first | ((with_reducible refine gate_dst (N := 6) rfl ?_); (try (refine gate_guard (by rfl) ?_; dsimp only)); refine box_event ?hg (N := 6) ?hd (cs := #[.bool false, .slice none 0 0, .slice none 0 0]) (t := 44) ?hr ?_; (case hd => rfl); (case hg => rfl); (case hr => first | (go_simp; done) | (go_simp; rfl)); intro gb284 hg w10 hbox hb; have n0_ := Aside0.mk (below_step (by repeat (first | (with_reducible first | exact HB.out | apply below_alloc | apply pw_below_drewN | apply below_drew1) | exact HB.out)) hb); have n1_ := Aside0.mk (hbox); have n2_ := Aside0.mk ((by rw [hg]; exact (below_size (by repeat (first | (with_reducible first | exact HB.out | apply below_alloc | apply pw_below_drewN | apply below_drew1) | exact HB.out))) : w.heap.size ≤ gb284)); have n3_ := Aside0.mk ((by rw [hg]; exact (below_size (by repeat (first | (with_reducible first | exact HB.out | apply below_alloc | apply pw_below_drewN | apply below_drew1) | exact HB.out))) : w.heap.size ≤ gb284)); clear HB; have HB := n0_; have BK284 := n1_; have GW284 := n2_; have GE284 := n3_; clear n0_ n1_ n2_ n3_; clear hb hbox hg) | ((with_reducible refine gate_callee (f := 47) rfl ?_); refine goesL_ (some 13) rfl rfl Tryz.func47 (by kernel_rfl) rfl #[.slice A0 l0.length c0, .int .i64 a1] rfl (by (try simp only [List.map_toArray, List.map_cons, List.map_nil]); first | done | rfl | (simp only [List.length_drop, List.length_take]; rfl)) ?_; (with_reducible refine (soliton_Check.calls k _ _ l0 a1 t285 _ ?side1 ?side2 A4.out).mono ?_); (case side1 => repeat (first | exact (Kd.C_below HR0.out HB.out) | (with_reducible refine Kd.C_alloc ?_ _) | (with_reducible refine Kd.C_drewN ?_ _) | (with_reducible refine Kd.C_drew ?_))); (case side2 => exact HC0.out); rintro e w' ⟨rfl, ⟨nd, rfl⟩⟩; refine ⟨_, rfl, ?_⟩; (try (rw [drewN_self w10]; generalize hq_ : World.drewN w10 _ = w10; have n0_ : Aside0 (w10.heap[gb284]? = some (.cells #[.bool false, .slice none 0 0, .slice none 0 0] 44 (0, 0))) := ⟨by rw [← hq_]; exact (by (with_reducible repeat (first | refine blk_drewN ?_ _ | refine blk_drew ?_ | refine blk_alloc ?_ _)); exact BK284.out)⟩; have n1_ : Aside0 (Below w.heap.size w w10) := ⟨by rw [← hq_]; exact (by repeat (first | (with_reducible first | exact HB.out | apply below_alloc | apply pw_below_drewN | apply below_drew1 | refine below_set ?_ GE284.out) | exact HB.out))⟩; clear BK284 HB hq_; have BK284 := n0_; have HB := n1_; clear n0_ n1_)); have hcz11_0 : w10.cell? ⟨gb284, 0, none⟩ = some (.bool false) := (blk_cell BK284.out 0).trans rfl; have hcz11_1 : w10.cell? ⟨gb284, 1, none⟩ = some (.slice none 0 0) := (blk_cell BK284.out 1).trans rfl; have hcz11_2 : w10.cell? ⟨gb284, 2, none⟩ = some (.slice none 0 0) := (blk_cell BK284.out 2).trans rfl; have hfz11_0 := blk_frozen BK284.out 0; have hfz11_1 := blk_frozen BK284.out 1; have hfz11_2 := blk_frozen BK284.out 2))
        refine bodyPost_ret (results_ct rfl _ _ gb284 44 #[.bool false, .slice none 0 0, .slice none 0 0] (0, 0) _ rfl (by (with_reducible repeat (first | refine blk_drewN ?_ _ | refine blk_drew ?_ | refine blk_alloc ?_ _)); refine blk_put (cs := #[.bool false, .slice none 0 0, .slice none 0 0]) ?_ 2 _ rfl; (with_reducible repeat (first | refine blk_drewN ?_ _ | refine blk_drew ?_ | refine blk_alloc ?_ _)); refine blk_put (cs := #[.bool false, .slice none 0 0, .slice none 0 0]) ?_ 1 _ rfl; (with_reducible repeat (first | refine blk_drewN ?_ _ | refine blk_drew ?_ | refine blk_alloc ?_ _)); refine blk_put (cs := #[.bool false, .slice none 0 0, .slice none 0 0]) ?_ 0 _ rfl; (with_reducible repeat (first | refine blk_drewN ?_ _ | refine blk_drew ?_ | refine blk_alloc ?_ _)); exact BK284.out) Tryz.underlying44 rfl (by kernel_rfl)) rfl ?_
        exact ⟨_, _, by first | rfl | (simp [errW_none, errW_some] <;> rfl) | (simp [*, errW_none, errW_some] <;> rfl), by first | exact Kd.R_nil _ _ _ _ _ | exact Kd.N_nil _ _ _ _ _ | exact Kd.V_nil _ _ _ _ _ | exact Kd.Q_nil _ _ _ _ _ | exact Kd.S_nil _ _ _ _ _, by first | exact Kd.R_nil _ _ _ _ _ | exact Kd.N_nil _ _ _ _ _ | exact Kd.V_nil _ _ _ _ _ | exact Kd.Q_nil _ _ _ _ _ | exact Kd.S_nil _ _ _ _ _, by repeat (first | (with_reducible first | exact HB.out | apply below_alloc | apply pw_below_drewN | apply below_drew1 | refine below_set ?_ GE284.out) | exact HB.out)⟩
      · rw [if_neg c9] at H
        have c9b0 : decide ((l0.length : Int) < a2) = false := decide_eq_false c9
        clear c9
        replace H := Option.bind_eq_some_iff.mp H
        obtain ⟨⟨t286, t287⟩, A120, H⟩ := H
        replace H : (if 0 ≤ (wrap64 (a2 - 1)) then (if (wrap64 (a2 - 1)) < (l0.length : Int) then ((limbs_Of.f k (IntKind.u64.wrap (rd l0 (wrap64 (a2 - 1))))).bind fun t291 => ((signed_Make.f k false t291).bind fun bt294 => ((soliton_Total.f l0).bind fun t298 => ((times_Grow.f t286 (IntKind.u64.wrap (t298))).bind fun t299 => ((ratio_Make.f k bt294.1 bt294.2 t299).bind fun bt302 => (some (bt302.1, bt302.2.1, bt302.2.2.1, bt302.2.2.2))))))) else (none)) else (none)) = some (r1, r2, r3, r4) := H
        have A12 := Aside0.mk A120
        clear A120
        obtain ⟨ji13, hji13⟩ : ∃ j_ : Int, (wrap64 (a2 - 1)) = j_ := ⟨_, rfl⟩
        replace H : (if 0 ≤ (ji13) then (if (ji13) < (l0.length : Int) then ((limbs_Of.f k (IntKind.u64.wrap (rd l0 (ji13)))).bind fun t291 => ((signed_Make.f k false t291).bind fun bt294 => ((soliton_Total.f l0).bind fun t298 => ((times_Grow.f t286 (IntKind.u64.wrap (t298))).bind fun t299 => ((ratio_Make.f k bt294.1 bt294.2 t299).bind fun bt302 => (some (bt302.1, bt302.2.1, bt302.2.2.1, bt302.2.2.2))))))) else (none)) else (none)) = some (r1, r2, r3, r4) := by first | (rw [hji13] at H; exact H) | (simp only [hji13] at H ⊢; exact H)
        (try rw [hji13] at A4)
        (try rw [hji13] at A12)
        have hji13w : (IntKind.i64.wrap (a2 - 1)) = ji13 := (i64_w _).trans hji13
        by_cases c14 : 0 ≤ (ji13)
        · rw [if_pos c14] at H
          have c14b0 : decide (0 ≤ (ji13)) = true := decide_eq_true c14
          clear c14
          by_cases c15 : (ji13) < (l0.length : Int)
          · rw [if_pos c15] at H
            have c15b0 : decide ((ji13) < (l0.length : Int)) = true := decide_eq_true c15
            clear c15
            replace H := Option.bind_eq_some_iff.mp H
            obtain ⟨t291, A160, H⟩ := H
            replace H : ((signed_Make.f k false t291).bind fun bt294 => ((soliton_Total.f l0).bind fun t298 => ((times_Grow.f t286 (IntKind.u64.wrap (t298))).bind fun t299 => ((ratio_Make.f k bt294.1 bt294.2 t299).bind fun bt302 => (some (bt302.1, bt302.2.1, bt302.2.2.1, bt302.2.2.2)))))) = some (r1, r2, r3, r4) := H
            have A16 := Aside0.mk A160
            clear A160
            replace H := Option.bind_eq_some_iff.mp H
            obtain ⟨⟨t294, t295⟩, A170, H⟩ := H
            replace H : ((soliton_Total.f l0).bind fun t298 => ((times_Grow.f t286 (IntKind.u64.wrap (t298))).bind fun t299 => ((ratio_Make.f k t294 t295 t299).bind fun bt302 => (some (bt302.1, bt302.2.1, bt302.2.2.1, bt302.2.2.2))))) = some (r1, r2, r3, r4) := H
            have A17 := Aside0.mk A170
            clear A170
            replace H := Option.bind_eq_some_iff.mp H
            obtain ⟨t298, A180, H⟩ := H
            replace H : ((times_Grow.f t286 (IntKind.u64.wrap (t298))).bind fun t299 => ((ratio_Make.f k t294 t295 t299).bind fun bt302 => (some (bt302.1, bt302.2.1, bt302.2.2.1, bt302.2.2.2)))) = some (r1, r2, r3, r4) := H
            have A18 := Aside0.mk A180
            clear A180
            replace H := Option.bind_eq_some_iff.mp H
            obtain ⟨t299, A190, H⟩ := H
            replace H : ((ratio_Make.f k t294 t295 t299).bind fun bt302 => (some (bt302.1, bt302.2.1, bt302.2.2.1, bt302.2.2.2))) = some (r1, r2, r3, r4) := H
            have A19 := Aside0.mk A190
            clear A190
            replace H := Option.bind_eq_some_iff.mp H
            obtain ⟨⟨t302, t303, t306, t309⟩, A200, H⟩ := H
            replace H : (some (t302, t303, t306, t309)) = some (r1, r2, r3, r4) := H
            have A20 := Aside0.mk A200
            clear A200
            simp only [Option.some.injEq, Prod.mk.injEq] at H
            obtain ⟨rfl, rfl, rfl, rfl⟩ := H
            go_enter Tryz.func37, Tryz.ntmps37
            go_wp2_with (first | ((with_reducible refine gate_dst (N := 6) rfl ?_); (try (refine gate_guard (by rfl) ?_; dsimp only)); refine box_event ?hg (N := 6) ?hd (cs := #[.bool false, .slice none 0 0, .slice none 0 0]) (t := 44) ?hr ?_; (case hd => rfl); (case hg => rfl); (case hr => first | (go_simp; done) | (go_simp; rfl)); intro gb284 hg w21 hbox hb; have n0_ := Aside0.mk (below_step (by repeat (first | (with_reducible first | exact HB.out | apply below_alloc | apply pw_below_drewN | apply below_drew1) | exact HB.out)) hb); have n1_ := Aside0.mk (hbox); have n2_ := Aside0.mk ((by rw [hg]; exact (below_size (by repeat (first | (with_reducible first | exact HB.out | apply below_alloc | apply pw_below_drewN | apply below_drew1) | exact HB.out))) : w.heap.size ≤ gb284)); have n3_ := Aside0.mk ((by rw [hg]; exact (below_size (by repeat (first | (with_reducible first | exact HB.out | apply below_alloc | apply pw_below_drewN | apply below_drew1) | exact HB.out))) : w.heap.size ≤ gb284)); clear HB; have HB := n0_; have BK284 := n1_; have GW284 := n2_; have GE284 := n3_; clear n0_ n1_ n2_ n3_; clear hb hbox hg) | ((with_reducible refine gate_callee (f := 47) rfl ?_); refine goesL_ (some 13) rfl rfl Tryz.func47 (by kernel_rfl) rfl #[.slice A0 l0.length c0, .int .i64 a1] rfl (by (try simp only [List.map_toArray, List.map_cons, List.map_nil]); first | done | rfl | (simp only [List.length_drop, List.length_take]; rfl)) ?_; (with_reducible refine (soliton_Check.calls k _ _ l0 a1 t285 _ ?side1 ?side2 A4.out).mono ?_); (case side1 => repeat (first | exact (Kd.C_below HR0.out HB.out) | (with_reducible refine Kd.C_alloc ?_ _) | (with_reducible refine Kd.C_drewN ?_ _) | (with_reducible refine Kd.C_drew ?_))); (case side2 => exact HC0.out); rintro e w' ⟨rfl, ⟨nd, rfl⟩⟩; refine ⟨_, rfl, ?_⟩; (try (rw [drewN_self w21]; generalize hq_ : World.drewN w21 _ = w21; have n0_ : Aside0 (w21.heap[gb284]? = some (.cells #[.bool false, .slice none 0 0, .slice none 0 0] 44 (0, 0))) := ⟨by rw [← hq_]; exact (by (with_reducible repeat (first | refine blk_drewN ?_ _ | refine blk_drew ?_ | refine blk_alloc ?_ _)); exact BK284.out)⟩; have n1_ : Aside0 (Below w.heap.size w w21) := ⟨by rw [← hq_]; exact (by repeat (first | (with_reducible first | exact HB.out | apply below_alloc | apply pw_below_drewN | apply below_drew1 | refine below_set ?_ GE284.out) | exact HB.out))⟩; clear BK284 HB hq_; have BK284 := n0_; have HB := n1_; clear n0_ n1_))) | ((with_reducible refine gate_callee (f := 88) rfl ?_); refine goesL_ (some 29) rfl rfl Tryz.func88 (by kernel_rfl) rfl #[.int .i64 a1, .int .i64 a2] rfl (by (try simp only [List.map_toArray, List.map_cons, List.map_nil]); first | done | rfl | (simp only [List.length_drop, List.length_take]; rfl)) ?_; (with_reducible refine (binom_Choose.calls k a1 a2 t286 t287 _ A12.out).mono ?_); rintro e w22 ⟨v288, rfl, ho0, hb⟩; refine ⟨_, rfl, ?_⟩; have n0_ := Aside0.mk (Kd.R_lower ho0 (below_size (by repeat (first | (with_reducible first | exact HB.out | apply below_alloc | apply pw_below_drewN | apply below_drew1 | refine below_set ?_ GE284.out) | exact HB.out)))); have n1_ := Aside0.mk (blk_below (g := gb284) (o := .cells #[.bool false, .slice none 0 0, .slice none 0 0] 44 (0, 0)) (by (with_reducible repeat (first | refine blk_drewN ?_ _ | refine blk_drew ?_ | refine blk_alloc ?_ _)); exact BK284.out) hb); have n2_ := Aside0.mk (below_step (by repeat (first | (with_reducible first | exact HB.out | apply below_alloc | apply pw_below_drewN | apply below_drew1 | refine below_set ?_ GE284.out) | exact HB.out)) hb); clear BK284; clear HB; have HO289 := n0_; have BK284 := n1_; have HB := n2_; clear n0_ n1_ n2_; (try clear hb); (try clear hb2); (try clear hk); (try clear hi); (try clear ho0); have p290 : 0 ≤ ((ji13) : Int) := of_decide_eq_true (by first | (with_reducible assumption) | assumption); have q290 : (ji13) < (l0.length : Int) := of_decide_eq_true (by first | (with_reducible assumption) | assumption); obtain ⟨ad290, e290, hx290_0⟩ := Kd.at_int HR0.out (ji13) p290 q290; cases e290; replace hx290_0 := (HB.out.cell (World.block_lt_of_cell? w _ hx290_0)).trans hx290_0; replace p290 := eq_true p290; replace q290 := eq_true q290) | ((with_reducible refine gate_callee (f := 89) rfl ?_); refine goesL_ (some 38) rfl rfl Tryz.func89 (by kernel_rfl) rfl #[.int .u64 (IntKind.u64.wrap (rd l0 (ji13)))] rfl (by (try simp only [List.map_toArray, List.map_cons, List.map_nil]); first | done | (simp only [hji13]; rfl) | rfl | (simp only [List.length_drop, List.length_take]; rfl)) ?_; (with_reducible refine (limbs_Of.calls k (IntKind.u64.wrap (rd l0 (ji13))) t291 _ A16.out).mono ?_); rintro e w23 ⟨v292, rfl, ho0, hb⟩; refine ⟨_, rfl, ?_⟩; have n0_ := Aside0.mk (Kd.R_elder' (by (with_reducible repeat (first | apply Kd.R_alloc | apply Kd.R_drewN | apply Kd.R_drew)); exact HO289.out) (Kd.R_base ho0) hb); have n1_ := Aside0.mk (Kd.R_lower (Kd.R_new' ho0 (Kd.R_lt (by (with_reducible repeat (first | apply Kd.R_alloc | apply Kd.R_drewN | apply Kd.R_drew)); exact HO289.out))) (below_size (by repeat (first | (with_reducible first | exact HB.out | apply below_alloc | apply pw_below_drewN | apply below_drew1 | refine below_set ?_ GE284.out) | exact HB.out)))); have n2_ := Aside0.mk (blk_below (g := gb284) (o := .cells #[.bool false, .slice none 0 0, .slice none 0 0] 44 (0, 0)) (by (with_reducible repeat (first | refine blk_drewN ?_ _ | refine blk_drew ?_ | refine blk_alloc ?_ _)); exact BK284.out) hb); have n3_ := Aside0.mk (below_step (by repeat (first | (with_reducible first | exact HB.out | apply below_alloc | apply pw_below_drewN | apply below_drew1 | refine below_set ?_ GE284.out) | exact HB.out)) hb); clear HO289; clear BK284; clear HB; have HO289 := n0_; have HO293 := n1_; have BK284 := n2_; have HB := n3_; clear n0_ n1_ n2_ n3_; (try clear hb); (try clear hb2); (try clear hk); (try clear hi); (try clear ho0); obtain ⟨Ao24, co24, eo24⟩ := Kd.R_slice HO293.out; subst eo24) | ((with_reducible refine gate_callee (f := 69) rfl ?_); refine goesL_ (some 39) rfl rfl Tryz.func69 (by kernel_rfl) rfl #[.bool false, .slice Ao24 t291.length co24] rfl (by (try simp only [List.map_toArray, List.map_cons, List.map_nil]); first | done | rfl | (simp only [List.length_drop, List.length_take]; rfl)) ?_; (with_reducible refine (signed_Make.calls k false _ _ t291 t294 t295 _ ?side1 ?side2 A17.out).mono ?_); (case side1 => repeat (first | exact (Kd.R_reads' HO293.out).2.2 | (with_reducible refine Kd.C_alloc ?_ _) | (with_reducible refine Kd.C_drewN ?_ _) | (with_reducible refine Kd.C_drew ?_))); (case side2 => exact (Kd.R_reads' HO293.out).2.1); rintro e w25 ⟨v296, rfl, ho0, hb⟩; refine ⟨_, rfl, ?_⟩; have n0_ := Aside0.mk (Kd.R_elder' (by (with_reducible repeat (first | apply Kd.R_alloc | apply Kd.R_drewN | apply Kd.R_drew)); exact HO289.out) (Kd.R_base ho0) hb); have n1_ := Aside0.mk (Kd.R_elder' (by (with_reducible repeat (first | apply Kd.R_alloc | apply Kd.R_drewN | apply Kd.R_drew)); exact HO293.out) (Kd.R_base ho0) hb); have n2_ := Aside0.mk (Kd.R_lower (Kd.R_new' (Kd.R_new' ho0 (Kd.R_lt (by (with_reducible repeat (first | apply Kd.R_alloc | apply Kd.R_drewN | apply Kd.R_drew)); exact HO289.out))) (Kd.R_lt (by (with_reducible repeat (first | apply Kd.R_alloc | apply Kd.R_drewN | apply Kd.R_drew)); exact HO293.out))) (below_size (by repeat (first | (with_reducible first | exact HB.out | apply below_alloc | apply pw_below_drewN | apply below_drew1 | refine below_set ?_ GE284.out) | exact HB.out)))); have n3_ := Aside0.mk (blk_below (g := gb284) (o := .cells #[.bool false, .slice none 0 0, .slice none 0 0] 44 (0, 0)) (by (with_reducible repeat (first | refine blk_drewN ?_ _ | refine blk_drew ?_ | refine blk_alloc ?_ _)); exact BK284.out) hb); have n4_ := Aside0.mk (below_step (by repeat (first | (with_reducible first | exact HB.out | apply below_alloc | apply pw_below_drewN | apply below_drew1 | refine below_set ?_ GE284.out) | exact HB.out)) hb); clear HO289; clear HO293; clear BK284; clear HB; have HO289 := n0_; have HO293 := n1_; have HO297 := n2_; have BK284 := n3_; have HB := n4_; clear n0_ n1_ n2_ n3_ n4_; (try clear hb); (try clear hb2); (try clear hk); (try clear hi); (try clear ho0)) | ((with_reducible refine gate_callee (f := 90) rfl ?_); refine goesL_ (some 42) rfl rfl Tryz.func90 (by kernel_rfl) rfl #[.slice (some ad290) l0.length c0] rfl (by (try simp only [List.map_toArray, List.map_cons, List.map_nil]); first | done | rfl | (simp only [List.length_drop, List.length_take]; rfl)) ?_; (with_reducible refine (soliton_Total.calls _ _ l0 t298 _ ?side1 ?side2 A18.out).mono ?_); (case side1 => repeat (first | exact (Kd.C_below HR0.out HB.out) | (with_reducible refine Kd.C_alloc ?_ _) | (with_reducible refine Kd.C_drewN ?_ _) | (with_reducible refine Kd.C_drew ?_))); (case side2 => exact HC0.out); rintro e w26 ⟨rfl, hb⟩; refine ⟨_, rfl, ?_⟩; have n0_ := Aside0.mk (Kd.R_below (by (with_reducible repeat (first | apply Kd.R_alloc | apply Kd.R_drewN | apply Kd.R_drew)); exact HO289.out) hb); have n1_ := Aside0.mk (Kd.R_below (by (with_reducible repeat (first | apply Kd.R_alloc | apply Kd.R_drewN | apply Kd.R_drew)); exact HO293.out) hb); have n2_ := Aside0.mk (Kd.R_below (by (with_reducible repeat (first | apply Kd.R_alloc | apply Kd.R_drewN | apply Kd.R_drew)); exact HO297.out) hb); have n3_ := Aside0.mk (blk_below (g := gb284) (o := .cells #[.bool false, .slice none 0 0, .slice none 0 0] 44 (0, 0)) (by (with_reducible repeat (first | refine blk_drewN ?_ _ | refine blk_drew ?_ | refine blk_alloc ?_ _)); exact BK284.out) hb); have n4_ := Aside0.mk (below_step (by repeat (first | (with_reducible first | exact HB.out | apply below_alloc | apply pw_below_drewN | apply below_drew1 | refine below_set ?_ GE284.out) | exact HB.out)) hb); clear HO289; clear HO293; clear HO297; clear BK284; clear HB; have HO289 := n0_; have HO293 := n1_; have HO297 := n2_; have BK284 := n3_; have HB := n4_; clear n0_ n1_ n2_ n3_ n4_; (try clear hb); (try clear hb2); (try clear hk); (try clear hi); obtain ⟨Ao27, co27, eo27⟩ := Kd.R_slice HO289.out; subst eo27) | ((with_reducible refine gate_callee (f := 87) rfl ?_); refine goesL_ (some 44) rfl rfl Tryz.func87 (by kernel_rfl) rfl #[.slice Ao27 t286.length co27, .int .u64 (IntKind.u64.wrap (t298))] rfl (by (try simp only [List.map_toArray, List.map_cons, List.map_nil]); first | done | rfl | (simp only [List.length_drop, List.length_take]; rfl)) ?_; (with_reducible refine (times_Grow.calls _ _ t286 (IntKind.u64.wrap (t298)) t299 _ ?side1 ?side2 A19.out).mono ?_); (case side1 => repeat (first | exact (Kd.R_reads' HO289.out).2.2 | (with_reducible refine Kd.C_alloc ?_ _) | (with_reducible refine Kd.C_drewN ?_ _) | (with_reducible refine Kd.C_drew ?_))); (case side2 => exact (Kd.R_reads' HO289.out).2.1); rintro e w28 ⟨v300, rfl, ho0, hb⟩; refine ⟨_, rfl, ?_⟩; have n0_ := Aside0.mk (Kd.R_elder' (by (with_reducible repeat (first | apply Kd.R_alloc | apply Kd.R_drewN | apply Kd.R_drew)); exact HO289.out) (Kd.R_base ho0) hb); have n1_ := Aside0.mk (Kd.R_elder' (by (with_reducible repeat (first | apply Kd.R_alloc | apply Kd.R_drewN | apply Kd.R_drew)); exact HO293.out) (Kd.R_base ho0) hb); have n2_ := Aside0.mk (Kd.R_elder' (by (with_reducible repeat (first | apply Kd.R_alloc | apply Kd.R_drewN | apply Kd.R_drew)); exact HO297.out) (Kd.R_base ho0) hb); have n3_ := Aside0.mk (Kd.R_lower (Kd.R_new' (Kd.R_new' (Kd.R_new' ho0 (Kd.R_lt (by (with_reducible repeat (first | apply Kd.R_alloc | apply Kd.R_drewN | apply Kd.R_drew)); exact HO289.out))) (Kd.R_lt (by (with_reducible repeat (first | apply Kd.R_alloc | apply Kd.R_drewN | apply Kd.R_drew)); exact HO293.out))) (Kd.R_lt (by (with_reducible repeat (first | apply Kd.R_alloc | apply Kd.R_drewN | apply Kd.R_drew)); exact HO297.out))) (below_size (by repeat (first | (with_reducible first | exact HB.out | apply below_alloc | apply pw_below_drewN | apply below_drew1 | refine below_set ?_ GE284.out) | exact HB.out)))); have n4_ := Aside0.mk (blk_below (g := gb284) (o := .cells #[.bool false, .slice none 0 0, .slice none 0 0] 44 (0, 0)) (by (with_reducible repeat (first | refine blk_drewN ?_ _ | refine blk_drew ?_ | refine blk_alloc ?_ _)); exact BK284.out) hb); have n5_ := Aside0.mk (below_step (by repeat (first | (with_reducible first | exact HB.out | apply below_alloc | apply pw_below_drewN | apply below_drew1 | refine below_set ?_ GE284.out) | exact HB.out)) hb); clear HO289; clear HO293; clear HO297; clear BK284; clear HB; have HO289 := n0_; have HO293 := n1_; have HO297 := n2_; have HO301 := n3_; have BK284 := n4_; have HB := n5_; clear n0_ n1_ n2_ n3_ n4_ n5_; (try clear hb); (try clear hb2); (try clear hk); (try clear hi); (try clear ho0); obtain ⟨Ao29, co29, eo29⟩ := Kd.R_slice HO297.out; subst eo29; obtain ⟨Ao30, co30, eo30⟩ := Kd.R_slice HO301.out; subst eo30) | ((with_reducible refine gate_callee (f := 68) rfl ?_); refine goesL_ (some 45) rfl rfl Tryz.func68 (by kernel_rfl) rfl #[.agg #[.bool t294, .slice Ao29 t295.length co29], .slice Ao30 t299.length co30] rfl (by (try simp only [List.map_toArray, List.map_cons, List.map_nil]); first | done | rfl | (simp only [List.length_drop, List.length_take]; rfl)) ?_; (with_reducible refine (ratio_Make.calls k t294 _ _ t295 _ _ t299 t302 t303 t306 t309 _ ?side1 ?side2 ?side3 ?side4 A20.out).mono ?_); (case side1 => repeat (first | exact (Kd.R_reads' HO297.out).2.2 | (with_reducible refine Kd.C_alloc ?_ _) | (with_reducible refine Kd.C_drewN ?_ _) | (with_reducible refine Kd.C_drew ?_))); (case side2 => exact (Kd.R_reads' HO297.out).2.1); (case side3 => repeat (first | exact (Kd.R_reads' HO301.out).2.2 | (with_reducible refine Kd.C_alloc ?_ _) | (with_reducible refine Kd.C_drewN ?_ _) | (with_reducible refine Kd.C_drew ?_))); (case side4 => exact (Kd.R_reads' HO301.out).2.1); rintro e w31 ⟨v304, v307, rfl, ho0, ho1, hb⟩; refine ⟨_, rfl, ?_⟩; have n0_ := Aside0.mk (Kd.R_mono (Kd.R_told (Kd.R_told (Kd.R_old (by (with_reducible repeat (first | apply Kd.R_alloc | apply Kd.R_drewN | apply Kd.R_drew)); exact HO289.out) hb) (Kd.R_base ho0)) (Kd.R_base ho1)) (fun _ h_ => h_.1)); have n1_ := Aside0.mk (Kd.R_mono (Kd.R_told (Kd.R_told (Kd.R_old (by (with_reducible repeat (first | apply Kd.R_alloc | apply Kd.R_drewN | apply Kd.R_drew)); exact HO293.out) hb) (Kd.R_base ho0)) (Kd.R_base ho1)) (fun _ h_ => h_.1)); have n2_ := Aside0.mk (Kd.R_mono (Kd.R_told (Kd.R_told (Kd.R_old (by (with_reducible repeat (first | apply Kd.R_alloc | apply Kd.R_drewN | apply Kd.R_drew)); exact HO297.out) hb) (Kd.R_base ho0)) (Kd.R_base ho1)) (fun _ h_ => h_.1)); have n3_ := Aside0.mk (Kd.R_mono (Kd.R_told (Kd.R_told (Kd.R_old (by (with_reducible repeat (first | apply Kd.R_alloc | apply Kd.R_drewN | apply Kd.R_drew)); exact HO301.out) hb) (Kd.R_base ho0)) (Kd.R_base ho1)) (fun _ h_ => h_.1)); have n4_ := Aside0.mk (Kd.R_lower (Kd.R_new' (Kd.R_new' (Kd.R_new' (Kd.R_new' ho0 (Kd.R_lt (by (with_reducible repeat (first | apply Kd.R_alloc | apply Kd.R_drewN | apply Kd.R_drew)); exact HO289.out))) (Kd.R_lt (by (with_reducible repeat (first | apply Kd.R_alloc | apply Kd.R_drewN | apply Kd.R_drew)); exact HO293.out))) (Kd.R_lt (by (with_reducible repeat (first | apply Kd.R_alloc | apply Kd.R_drewN | apply Kd.R_drew)); exact HO297.out))) (Kd.R_lt (by (with_reducible repeat (first | apply Kd.R_alloc | apply Kd.R_drewN | apply Kd.R_drew)); exact HO301.out))) (below_size (by repeat (first | (with_reducible first | exact HB.out | apply below_alloc | apply pw_below_drewN | apply below_drew1 | refine below_set ?_ GE284.out) | exact HB.out)))); have n5_ := Aside0.mk (Kd.R_lower (Kd.R_new' (Kd.R_new' (Kd.R_new' (Kd.R_new' ho1 (Kd.R_lt (by (with_reducible repeat (first | apply Kd.R_alloc | apply Kd.R_drewN | apply Kd.R_drew)); exact HO289.out))) (Kd.R_lt (by (with_reducible repeat (first | apply Kd.R_alloc | apply Kd.R_drewN | apply Kd.R_drew)); exact HO293.out))) (Kd.R_lt (by (with_reducible repeat (first | apply Kd.R_alloc | apply Kd.R_drewN | apply Kd.R_drew)); exact HO297.out))) (Kd.R_lt (by (with_reducible repeat (first | apply Kd.R_alloc | apply Kd.R_drewN | apply Kd.R_drew)); exact HO301.out))) (below_size (by repeat (first | (with_reducible first | exact HB.out | apply below_alloc | apply pw_below_drewN | apply below_drew1 | refine below_set ?_ GE284.out) | exact HB.out)))); have n6_ := Aside0.mk (blk_below (g := gb284) (o := .cells #[.bool false, .slice none 0 0, .slice none 0 0] 44 (0, 0)) (by (with_reducible repeat (first | refine blk_drewN ?_ _ | refine blk_drew ?_ | refine blk_alloc ?_ _)); exact BK284.out) hb); have n7_ := Aside0.mk (below_step (by repeat (first | (with_reducible first | exact HB.out | apply below_alloc | apply pw_below_drewN | apply below_drew1 | refine below_set ?_ GE284.out) | exact HB.out)) hb); clear HO289; clear HO293; clear HO297; clear HO301; clear BK284; clear HB; have HO289 := n0_; have HO293 := n1_; have HO297 := n2_; have HO301 := n3_; have HO305 := n4_; have HO308 := n5_; have BK284 := n6_; have HB := n7_; clear n0_ n1_ n2_ n3_ n4_ n5_ n6_ n7_; (try clear hb); (try clear hb2); (try clear hk); (try clear hi); (try clear ho0); (try clear ho1); have hcz32_0 : w31.cell? ⟨gb284, 0, none⟩ = some (.bool false) := (blk_cell BK284.out 0).trans rfl; have hcz32_1 : w31.cell? ⟨gb284, 1, none⟩ = some (.slice none 0 0) := (blk_cell BK284.out 1).trans rfl; have hcz32_2 : w31.cell? ⟨gb284, 2, none⟩ = some (.slice none 0 0) := (blk_cell BK284.out 2).trans rfl; have hfz32_0 := blk_frozen BK284.out 0; have hfz32_1 := blk_frozen BK284.out 1; have hfz32_2 := blk_frozen BK284.out 2; obtain ⟨Ao33, co33, eo33⟩ := Kd.R_slice HO305.out; subst eo33; obtain ⟨Ao34, co34, eo34⟩ := Kd.R_slice HO308.out; subst eo34))
            refine bodyPost_ret (results_ct rfl _ _ gb284 44 #[.bool t302, .slice Ao33 t303.length co33, .slice Ao34 t306.length co34] (0, 0) _ rfl (by (with_reducible repeat (first | refine blk_drewN ?_ _ | refine blk_drew ?_ | refine blk_alloc ?_ _)); refine blk_put (cs := #[.bool t302, .slice Ao33 t303.length co33, .slice none 0 0]) ?_ 2 _ rfl; (with_reducible repeat (first | refine blk_drewN ?_ _ | refine blk_drew ?_ | refine blk_alloc ?_ _)); refine blk_put (cs := #[.bool t302, .slice none 0 0, .slice none 0 0]) ?_ 1 _ rfl; (with_reducible repeat (first | refine blk_drewN ?_ _ | refine blk_drew ?_ | refine blk_alloc ?_ _)); refine blk_put (cs := #[.bool false, .slice none 0 0, .slice none 0 0]) ?_ 0 _ rfl; (with_reducible repeat (first | refine blk_drewN ?_ _ | refine blk_drew ?_ | refine blk_alloc ?_ _)); exact BK284.out) Tryz.underlying44 rfl (by kernel_rfl)) rfl ?_
            exact ⟨_, _, by first | rfl | (simp [errW_none, errW_some] <;> rfl) | (simp only [← hji13]; first | rfl | (simp [errW_none, errW_some] <;> rfl)) | (simp [*, errW_none, errW_some] <;> rfl), by (with_reducible repeat (first | apply Kd.R_alloc | apply Kd.R_drewN | apply Kd.R_drew)); exact Kd.R_mono (Kd.R_far (p := ⟨gb284, 2, none⟩) (Kd.R_far (p := ⟨gb284, 1, none⟩) (Kd.R_far (p := ⟨gb284, 0, none⟩) (Kd.R_types HO305.out BK284.out (by decide)) (fun _ hk => hk.2) (.bool t302)) (fun _ hk => hk.2) (.slice Ao33 t303.length co33)) (fun _ hk => hk.2) (.slice Ao34 t306.length co34)) (fun _ hk => hk.1.1.1.1.1), by (with_reducible repeat (first | apply Kd.R_alloc | apply Kd.R_drewN | apply Kd.R_drew)); exact Kd.R_mono (Kd.R_far (p := ⟨gb284, 2, none⟩) (Kd.R_far (p := ⟨gb284, 1, none⟩) (Kd.R_far (p := ⟨gb284, 0, none⟩) (Kd.R_types HO308.out BK284.out (by decide)) (fun _ hk => hk.2) (.bool t302)) (fun _ hk => hk.2) (.slice Ao33 t303.length co33)) (fun _ hk => hk.2) (.slice Ao34 t306.length co34)) (fun _ hk => hk.1.1.1.1.1), by repeat (first | (with_reducible first | exact HB.out | apply below_alloc | apply pw_below_drewN | apply below_drew1 | refine below_set ?_ GE284.out) | exact HB.out)⟩
          · rw [if_neg c15] at H
            exact absurd H (by simp)
        · rw [if_neg c14] at H
          exact absurd H (by simp)
  · rw [if_neg c5] at H
    have c5b0 : (t285 == 0) = false := beq_eq_false_iff_ne.mpr c5
    have c5b1 : (t285 != 0) = true := bne_iff_ne.mpr c5
    simp only [Option.some.injEq, Prod.mk.injEq] at H
    obtain ⟨rfl, rfl, rfl, rfl⟩ := H
    go_enter Tryz.func37, Tryz.ntmps37
    go_wp2_with (first | ((with_reducible refine gate_dst (N := 6) rfl ?_); (try (refine gate_guard (by rfl) ?_; dsimp only)); refine box_event ?hg (N := 6) ?hd (cs := #[.bool false, .slice none 0 0, .slice none 0 0]) (t := 44) ?hr ?_; (case hd => rfl); (case hg => rfl); (case hr => first | (go_simp; done) | (go_simp; rfl)); intro gb284 hg w35 hbox hb; have n0_ := Aside0.mk (below_step (by repeat (first | (with_reducible first | exact HB.out | apply below_alloc | apply pw_below_drewN | apply below_drew1) | exact HB.out)) hb); have n1_ := Aside0.mk (hbox); have n2_ := Aside0.mk ((by rw [hg]; exact (below_size (by repeat (first | (with_reducible first | exact HB.out | apply below_alloc | apply pw_below_drewN | apply below_drew1) | exact HB.out))) : w.heap.size ≤ gb284)); have n3_ := Aside0.mk ((by rw [hg]; exact (below_size (by repeat (first | (with_reducible first | exact HB.out | apply below_alloc | apply pw_below_drewN | apply below_drew1) | exact HB.out))) : w.heap.size ≤ gb284)); clear HB; have HB := n0_; have BK284 := n1_; have GW284 := n2_; have GE284 := n3_; clear n0_ n1_ n2_ n3_; clear hb hbox hg) | ((with_reducible refine gate_callee (f := 47) rfl ?_); refine goesL_ (some 13) rfl rfl Tryz.func47 (by kernel_rfl) rfl #[.slice A0 l0.length c0, .int .i64 a1] rfl (by (try simp only [List.map_toArray, List.map_cons, List.map_nil]); first | done | rfl | (simp only [List.length_drop, List.length_take]; rfl)) ?_; (with_reducible refine (soliton_Check.calls k _ _ l0 a1 t285 _ ?side1 ?side2 A4.out).mono ?_); (case side1 => repeat (first | exact (Kd.C_below HR0.out HB.out) | (with_reducible refine Kd.C_alloc ?_ _) | (with_reducible refine Kd.C_drewN ?_ _) | (with_reducible refine Kd.C_drew ?_))); (case side2 => exact HC0.out); rintro e w' ⟨rfl, ⟨nd, rfl⟩⟩; refine ⟨_, rfl, ?_⟩; (try (rw [drewN_self w35]; generalize hq_ : World.drewN w35 _ = w35; have n0_ : Aside0 (w35.heap[gb284]? = some (.cells #[.bool false, .slice none 0 0, .slice none 0 0] 44 (0, 0))) := ⟨by rw [← hq_]; exact (by (with_reducible repeat (first | refine blk_drewN ?_ _ | refine blk_drew ?_ | refine blk_alloc ?_ _)); exact BK284.out)⟩; have n1_ : Aside0 (Below w.heap.size w w35) := ⟨by rw [← hq_]; exact (by repeat (first | (with_reducible first | exact HB.out | apply below_alloc | apply pw_below_drewN | apply below_drew1 | refine below_set ?_ GE284.out) | exact HB.out))⟩; clear BK284 HB hq_; have BK284 := n0_; have HB := n1_; clear n0_ n1_)); have hcz36_0 : w35.cell? ⟨gb284, 0, none⟩ = some (.bool false) := (blk_cell BK284.out 0).trans rfl; have hcz36_1 : w35.cell? ⟨gb284, 1, none⟩ = some (.slice none 0 0) := (blk_cell BK284.out 1).trans rfl; have hcz36_2 : w35.cell? ⟨gb284, 2, none⟩ = some (.slice none 0 0) := (blk_cell BK284.out 2).trans rfl; have hfz36_0 := blk_frozen BK284.out 0; have hfz36_1 := blk_frozen BK284.out 1; have hfz36_2 := blk_frozen BK284.out 2))
    refine bodyPost_ret (results_ct rfl _ _ gb284 44 #[.bool false, .slice none 0 0, .slice none 0 0] (0, 0) _ rfl (by (with_reducible repeat (first | refine blk_drewN ?_ _ | refine blk_drew ?_ | refine blk_alloc ?_ _)); refine blk_put (cs := #[.bool false, .slice none 0 0, .slice none 0 0]) ?_ 2 _ rfl; (with_reducible repeat (first | refine blk_drewN ?_ _ | refine blk_drew ?_ | refine blk_alloc ?_ _)); refine blk_put (cs := #[.bool false, .slice none 0 0, .slice none 0 0]) ?_ 1 _ rfl; (with_reducible repeat (first | refine blk_drewN ?_ _ | refine blk_drew ?_ | refine blk_alloc ?_ _)); refine blk_put (cs := #[.bool false, .slice none 0 0, .slice none 0 0]) ?_ 0 _ rfl; (with_reducible repeat (first | refine blk_drewN ?_ _ | refine blk_drew ?_ | refine blk_alloc ?_ _)); exact BK284.out) Tryz.underlying44 rfl (by kernel_rfl)) rfl ?_
    exact ⟨_, _, by first | rfl | (simp [errW_none, errW_some] <;> rfl) | (simp [*, errW_none, errW_some] <;> rfl), by first | exact Kd.R_nil _ _ _ _ _ | exact Kd.N_nil _ _ _ _ _ | exact Kd.V_nil _ _ _ _ _ | exact Kd.Q_nil _ _ _ _ _ | exact Kd.S_nil _ _ _ _ _, by first | exact Kd.R_nil _ _ _ _ _ | exact Kd.N_nil _ _ _ _ _ | exact Kd.V_nil _ _ _ _ _ | exact Kd.Q_nil _ _ _ _ _ | exact Kd.S_nil _ _ _ _ _, by repeat (first | (with_reducible first | exact HB.out | apply below_alloc | apply pw_below_drewN | apply below_drew1 | refine below_set ?_ GE284.out) | exact HB.out)⟩
def mass_drawn.l0 : Nat → List Int → Int → Int → List (S150) → List (List Int) → Int → Int → Option ((List (S150)) × Int)
  | 0, _, _, _, _, _, _, _ => none
  | k + 1, x0, x1, x10, x11, x29, x30, x31 => if x31 < x30 then (if 0 ≤ x31 then (if x31 < (x29.length : Int) then ((row_Chance.f k x0 x1 ((rd_L1 x29 x31).length : Int)).bind fun bt317 => (if x11.length < 1759218604441 then (mass_drawn.l0 k x0 x1 x10 (x11 ++ [(⟨rd_L1 x29 x31, (⟨(⟨bt317.1, bt317.2.1⟩ : S42), bt317.2.2.1⟩ : S44)⟩ : S150)]) x29 x30 (wrap64 (x31 + 1))) else (none))) else (none)) else (none)) else (some (x11, x10))
def mass_drawn.f (k : Nat) (l0 : List Int) (a1 : Int) (a2 : Int) : Option ((List (S150)) × Int) := (mass_refuses.f k l0 a1 a2).bind fun t311 => (if t311 = 0 then ((mass_Sets.f k l0 a1).bind fun bt312 => (mass_drawn.l0 k l0 a1 bt312.2 ([] : List (S150)) bt312.1 (bt312.1.length : Int) 0)) else (some (([] : List (S150)), t311)))
set_option maxHeartbeats 8000000 in
set_option maxRecDepth 100000 in
theorem mass_drawn.calls (k : Nat) (A0 : Option Addr) (c0 : Nat) (l0 : List Int) (a1 : Int) (a2 : Int) (r1 : List (S150)) (r2 : Int) (w : World) (hr0 : Kd.C (Kd.int .i64) w A0 l0.length l0) (hc0 : l0.length ≤ c0) (h : mass_drawn.f k l0 a1 a2 = some (r1, r2)) :
    Calls Tryz.prog 63 #[.slice A0 l0.length c0, .int .i64 a1, .int .i64 a2] w fun e w' => ∃ v0_ : Value, e = .returned (.tuple #[v0_, .int .i64 r2]) ∧ Kd.N k150 150 w' w.heap.size (fun k_ => (w.heap.size ≤ k_)) v0_ r1 ∧ Below w.heap.size w w' := by
  have hu44 := Tryz.underlying44
  have hu150 := Tryz.underlying150
  have HR0 := Aside0.mk hr0
  have HC0 := Aside0.mk hc0
  clear hr0 hc0
  have HB := Aside0.mk (Below.refl w.heap.size w)
  have H : ((mass_refuses.f k l0 a1 a2).bind fun t311 => (if t311 = 0 then ((mass_Sets.f k l0 a1).bind fun bt312 => (mass_drawn.l0 k l0 a1 bt312.2 ([] : List (S150)) bt312.1 (bt312.1.length : Int) 0)) else (some (([] : List (S150)), t311)))) = some (r1, r2) := h
  clear h
  replace H := Option.bind_eq_some_iff.mp H
  obtain ⟨t311, A40, H⟩ := H
  replace H : (if t311 = 0 then ((mass_Sets.f k l0 a1).bind fun bt312 => (mass_drawn.l0 k l0 a1 bt312.2 ([] : List (S150)) bt312.1 (bt312.1.length : Int) 0)) else (some (([] : List (S150)), t311))) = some (r1, r2) := H
  have A4 := Aside0.mk A40
  clear A40
  by_cases c5 : t311 = 0
  · rw [if_pos c5] at H
    have c5b0 : (t311 == 0) = true := beq_iff_eq.mpr c5
    have c5b1 : (t311 != 0) = false := bne_eq_false_iff_eq.mpr c5
    clear c5
    replace H := Option.bind_eq_some_iff.mp H
    obtain ⟨⟨t312, t315⟩, A60, H⟩ := H
    replace H : (mass_drawn.l0 k l0 a1 t315 ([] : List (S150)) t312 (t312.length : Int) 0) = some (r1, r2) := H
    have A6 := Aside0.mk A60
    clear A60
    have H' := Aside0.mk H
    clear H
    go_enter Tryz.func63, Tryz.ntmps63
    go_wp2_with (first | ((with_reducible refine gate_callee (f := 117) rfl ?_); refine goesL_ (some 19) rfl rfl Tryz.func117 (by kernel_rfl) rfl #[.slice A0 l0.length c0, .int .i64 a1, .int .i64 a2] rfl (by (try simp only [List.map_toArray, List.map_cons, List.map_nil]); first | done | rfl | (simp only [List.length_drop, List.length_take]; rfl)) ?_; (with_reducible refine (mass_refuses.calls k _ _ l0 a1 a2 t311 _ ?side1 ?side2 A4.out).mono ?_); (case side1 => repeat (first | exact HR0.out | (with_reducible refine Kd.C_alloc ?_ _) | (with_reducible refine Kd.C_drewN ?_ _) | (with_reducible refine Kd.C_drew ?_))); (case side2 => exact HC0.out); rintro e w' ⟨rfl, ⟨nd, rfl⟩⟩; refine ⟨_, rfl, ?_⟩) | ((with_reducible refine gate_callee (f := 17) rfl ?_); refine goesL_ (some 26) rfl rfl Tryz.func17 (by kernel_rfl) rfl #[.slice A0 l0.length c0, .int .i64 a1] rfl (by (try simp only [List.map_toArray, List.map_cons, List.map_nil]); first | done | rfl | (simp only [List.length_drop, List.length_take]; rfl)) ?_; (with_reducible refine (mass_Sets.calls k _ _ l0 a1 t312 t315 _ ?side1 ?side2 A6.out).mono ?_); (case side1 => repeat (first | exact HR0.out | (with_reducible refine Kd.C_alloc ?_ _) | (with_reducible refine Kd.C_drewN ?_ _) | (with_reducible refine Kd.C_drew ?_))); (case side2 => exact HC0.out); rintro e w7 ⟨v313, rfl, ho0, hb⟩; refine ⟨_, rfl, ?_⟩; have n0_ := Aside0.mk (Kd.N_lower (Kd.N_mono (ok' := fun k_ => (w.heap.size ≤ k_)) ho0 (fun k_ hk_ => (Nat.le_trans (below_size (by repeat (first | (with_reducible first | exact HB.out | apply below_alloc | apply pw_below_drewN | apply below_drew1) | exact HB.out))) hk_))) (below_size (by repeat (first | (with_reducible first | exact HB.out | apply below_alloc | apply pw_below_drewN | apply below_drew1) | exact HB.out)))); have n1_ := Aside0.mk (below_step (by repeat (first | (with_reducible first | exact HB.out | apply below_alloc | apply pw_below_drewN | apply below_drew1) | exact HB.out)) hb); clear HB; have HO314 := n0_; have HB := n1_; clear n0_ n1_; (try clear hb); (try clear hb2); (try clear hk); (try clear hi); (try clear ho0); obtain ⟨Ao8, co8, eo8⟩ := Kd.N_slice HO314.out; subst eo8))
    go_loopg [11, 31] k (fun kq v11 v31 w' => ∃ (x11_1 : List (S150)) (x31_1 : Int), v31 = .int .i64 x31_1 ∧ Aside0 (mass_drawn.l0 kq l0 a1 t315 x11_1 t312 (t312.length : Int) x31_1 = some (r1, r2)) ∧ Aside0 (kq ≤ k) ∧ Aside0 (Kd.N k150 150 w' w.heap.size (fun k_ => (w.heap.size ≤ k_) ∧ some k_ ≠ ((.slice Ao8 t312.length co8) : Value).ownBlock) v11 x11_1) ∧ Aside0 (Kd.N (Kd.slice 3 (Kd.int .i64)) 22 w' w.heap.size (fun k_ => (w.heap.size ≤ k_) ∧ some k_ ≠ (v11 : Value).ownBlock) (.slice Ao8 t312.length co8) t312) ∧ Aside0 (Below w.heap.size w w'))
    case atStart => exact ⟨(([] : List (S150))), (0), (by first | rfl | (simp; done) | (simp [*]; done)), H', ⟨Nat.le_refl _⟩, ⟨by first | exact Kd.S_nil _ _ _ _ _ | exact Kd.N_nil _ _ _ _ _ | exact Kd.V_nil _ _ _ _ _ | exact Kd.Q_nil _ _ _ _ _ | exact Kd.R_nil _ _ _ _ _⟩, ⟨by (with_reducible repeat (first | apply Kd.N_alloc | apply Kd.N_drewN | apply Kd.N_drew)); exact Kd.N_mono HO314.out (fun _ hk => ⟨hk, (by simp [Value.ownBlock])⟩)⟩, ⟨by repeat (first | (with_reducible first | exact HB.out | apply below_alloc | apply pw_below_drewN | apply below_drew1) | exact HB.out)⟩⟩
    case round =>
      clear H'
      try clear c1
      try clear p2
      try clear c5
      try clear c5b0
      try clear c5b1
      try clear c6
      obtain ⟨x11_1, x31_1, rfl, HA, HK1, HO_11, HO_29, HB⟩ := hrel
      cases gk with
      | zero => exact absurd HA.out (by simp [mass_drawn.l0])
      | succ k1 =>
        have H := HA.out
        clear HA
        simp only [mass_drawn.l0] at H
        by_cases c9 : x31_1 < (t312.length : Int)
        · rw [if_pos c9] at H
          have c9b0 : decide (x31_1 < (t312.length : Int)) = true := decide_eq_true c9
          clear c9
          by_cases c10 : 0 ≤ x31_1
          · rw [if_pos c10] at H
            have c10b0 : decide (0 ≤ x31_1) = true := decide_eq_true c10
            clear c10
            by_cases c11 : x31_1 < (t312.length : Int)
            · rw [if_pos c11] at H
              have c11b0 : decide (x31_1 < (t312.length : Int)) = true := decide_eq_true c11
              clear c11
              replace H := Option.bind_eq_some_iff.mp H
              obtain ⟨⟨t317, t318, t321, t324⟩, A120, H⟩ := H
              replace H : (if x11_1.length < 1759218604441 then (mass_drawn.l0 k1 l0 a1 t315 (x11_1 ++ [(⟨rd_L1 t312 x31_1, (⟨(⟨t317, t318⟩ : S42), t321⟩ : S44)⟩ : S150)]) t312 (t312.length : Int) (wrap64 (x31_1 + 1))) else (none)) = some (r1, r2) := H
              have A12 := Aside0.mk A120
              clear A120
              by_cases c13 : x11_1.length < 1759218604441
              · rw [if_pos c13] at H
                have LMc13 := Aside0.mk c13
                clear c13
                obtain ⟨y326, hy326⟩ : ∃ y_ : List (S150), y_ = (x11_1 ++ [(⟨rd_L1 t312 x31_1, (⟨(⟨t317, t318⟩ : S42), t321⟩ : S44)⟩ : S150)]) := ⟨_, rfl⟩
                replace H : (mass_drawn.l0 k1 l0 a1 t315 y326 t312 (t312.length : Int) (wrap64 (x31_1 + 1))) = some (r1, r2) := by first | (rw [hy326]; with_reducible exact H) | (have H2_ := (Option.bind_some _ _).symm.trans H; rw [hy326]; with_reducible exact H2_) | (have H2_ := (Option.bind_some _ _).symm.trans H; with_reducible exact H2_) | with_reducible exact H | (rw [hy326]; exact H) | exact H
                have Ny326 := Aside0.mk hy326
                clear hy326
                have H' := Aside0.mk H
                clear H
                have p316 : 0 ≤ (x31_1 : Int) := of_decide_eq_true (by first | (with_reducible assumption) | assumption)
                have q316 : x31_1 < (t312.length : Int) := of_decide_eq_true (by first | (with_reducible assumption) | assumption)
                obtain ⟨ad316, A316_0, c316_0, e316, hx316_0, hl316_0, hi316_0⟩ := at_L1 (Kd.N_reads' HO_29.out).2.2 x31_1 p316 q316
                cases e316
                obtain ⟨ce316, hce316, hMe316, hcc316⟩ := Kd.N_get HO_29.out [] x31_1 p316 (by first | exact q316 | exact of_decide_eq_true (by first | (with_reducible assumption) | assumption) | (have e_ := (Kd.N_reads' HO_29.out).1; omega))
                obtain ⟨ua316_0, uc316_0, rfl, ul316_0, ge316_0⟩ := Kd.FK_slice_open hMe316
                have hv316_0 := hcc316 0 _ rfl
                rw [Nat.add_zero, show ((Kd.slice 3 (Kd.int .i64))).sz = 1 from rfl, Nat.mul_one] at hv316_0
                replace hv316_0 := Option.some.inj (hv316_0.symm.trans hx316_0)
                injection hv316_0 with hva_ hvn_ hvc_
                rw [hva_] at ge316_0
                rw [hvc_] at ul316_0
                have HL316_0 := Aside0.mk (show Kd.V (Kd.int .i64) 3 _ w.heap.size _ _ (rd_L1 t312 x31_1) from Kd.V_mk ul316_0 ge316_0)
                clear hva_ hvn_ hvc_ ge316_0 ul316_0
                clear hcc316 hce316
                have HR316_0 := Aside0.mk hi316_0
                have HC316_0 := Aside0.mk hl316_0
                clear hi316_0 hl316_0
                replace p316 := eq_true p316
                replace q316 := eq_true q316
                go_wp2_with (first | ((with_reducible refine gate_callee (f := 37) rfl ?_); refine goesL_ (some 40) rfl rfl Tryz.func37 (by kernel_rfl) rfl #[.slice A0 l0.length c0, .int .i64 a1, .int .i64 ((rd_L1 t312 x31_1).length : Int)] rfl (by (try simp only [List.map_toArray, List.map_cons, List.map_nil]); first | done | rfl | (simp only [List.length_drop, List.length_take]; rfl)) ?_; (with_reducible refine (row_Chance.calls k1 _ _ l0 a1 ((rd_L1 t312 x31_1).length : Int) t317 t318 t321 t324 _ ?side1 ?side2 A12.out).mono ?_); (case side1 => repeat (first | exact (Kd.C_below HR0.out HB.out) | (with_reducible refine Kd.C_alloc ?_ _) | (with_reducible refine Kd.C_drewN ?_ _) | (with_reducible refine Kd.C_drew ?_))); (case side2 => exact HC0.out); rintro e w14 ⟨v319, v322, rfl, ho0, ho1, hb⟩; refine ⟨_, rfl, ?_⟩; have n0_ := Aside0.mk (Kd.N_mono (Kd.N_told (Kd.N_told (Kd.N_old (by (with_reducible repeat (first | apply Kd.N_alloc | apply Kd.N_drewN | apply Kd.N_drew)); exact HO_11.out) hb) (Kd.R_base ho0)) (Kd.R_base ho1)) (fun _ h_ => h_.1)); have n1_ := Aside0.mk (Kd.N_mono (Kd.N_told (Kd.N_told (Kd.N_old (by (with_reducible repeat (first | apply Kd.N_alloc | apply Kd.N_drewN | apply Kd.N_drew)); exact HO_29.out) hb) (Kd.R_base ho0)) (Kd.R_base ho1)) (fun _ h_ => h_.1)); have n2_ := Aside0.mk (Kd.V_mono (Kd.V_told (Kd.V_told (Kd.V_old (by (with_reducible repeat (first | apply Kd.V_alloc | apply Kd.V_drewN | apply Kd.V_drew)); exact HL316_0.out) hb) (Kd.R_base ho0)) (Kd.R_base ho1)) (fun _ h_ => h_.1)); have n3_ := Aside0.mk (Kd.R_lower (Kd.R_newM (M := fun k_ => (w.heap.size ≤ k_)) ho0 (below_size (by repeat (first | (with_reducible first | exact HB.out | apply below_alloc | apply pw_below_drewN | apply below_drew1) | exact HB.out))) (fun k_ h_ => h_)) (below_size (by repeat (first | (with_reducible first | exact HB.out | apply below_alloc | apply pw_below_drewN | apply below_drew1) | exact HB.out)))); have n4_ := Aside0.mk (Kd.R_lower (Kd.R_newM (M := fun k_ => (w.heap.size ≤ k_)) ho1 (below_size (by repeat (first | (with_reducible first | exact HB.out | apply below_alloc | apply pw_below_drewN | apply below_drew1) | exact HB.out))) (fun k_ h_ => h_)) (below_size (by repeat (first | (with_reducible first | exact HB.out | apply below_alloc | apply pw_below_drewN | apply below_drew1) | exact HB.out)))); have n5_ := Aside0.mk (Kd.C_below (by repeat (first | (with_reducible exact HR316_0.out) | (with_reducible refine Kd.C_alloc ?_ _) | (with_reducible refine Kd.C_drewN ?_ _) | (with_reducible refine Kd.C_drew ?_) | exact HR316_0.out)) hb); have n6_ := Aside0.mk (below_step (by repeat (first | (with_reducible first | exact HB.out | apply below_alloc | apply pw_below_drewN | apply below_drew1) | exact HB.out)) hb); clear HO_11; clear HO_29; clear HL316_0; clear HR316_0; clear HB; have HO_11 := n0_; have HO_29 := n1_; have HL316_0 := n2_; have HO320 := n3_; have HO323 := n4_; have HR316_0 := n5_; have HB := n6_; clear n0_ n1_ n2_ n3_ n4_ n5_ n6_; (try clear hb); (try clear hb2); (try clear hk); (try clear hi); (try clear ho0); (try clear ho1)) | ((with_reducible refine gate_dst (N := 14) rfl ?_); refine box_event ?hg (N := 14) ?hd (cs := #[.bool false, .slice none 0 0, .slice none 0 0]) (t := 44) ?hr ?_; (case hd => rfl); (case hg => rfl); (case hr => first | (go_simp; done) | (go_simp; rfl)); intro gb325 hg w15 hbox hb; have n0_ := Aside0.mk (Kd.N_below (Kd.N_elderB (by (with_reducible repeat (first | apply Kd.N_alloc | apply Kd.N_drewN | apply Kd.N_drew)); exact HO_11.out) gb325 (Nat.le_of_eq hg.symm)) hb); have n1_ := Aside0.mk (Kd.N_below (Kd.N_elderB (by (with_reducible repeat (first | apply Kd.N_alloc | apply Kd.N_drewN | apply Kd.N_drew)); exact HO_29.out) gb325 (Nat.le_of_eq hg.symm)) hb); have n2_ := Aside0.mk (Kd.V_below (Kd.V_elderB (by (with_reducible repeat (first | apply Kd.V_alloc | apply Kd.V_drewN | apply Kd.V_drew)); exact HL316_0.out) gb325 (Nat.le_of_eq hg.symm)) hb); have n3_ := Aside0.mk (Kd.R_below (by (with_reducible repeat (first | apply Kd.R_alloc | apply Kd.R_drewN | apply Kd.R_drew)); exact HO320.out) hb); have n4_ := Aside0.mk (Kd.R_below (by (with_reducible repeat (first | apply Kd.R_alloc | apply Kd.R_drewN | apply Kd.R_drew)); exact HO323.out) hb); have n5_ := Aside0.mk (Kd.C_below (by repeat (first | (with_reducible exact HR316_0.out) | (with_reducible refine Kd.C_alloc ?_ _) | (with_reducible refine Kd.C_drewN ?_ _) | (with_reducible refine Kd.C_drew ?_) | exact HR316_0.out)) hb); have n6_ := Aside0.mk (below_step (by repeat (first | (with_reducible first | exact HB.out | apply below_alloc | apply pw_below_drewN | apply below_drew1) | exact HB.out)) hb); have n7_ := Aside0.mk (hbox); have n8_ := Aside0.mk ((by rw [hg]; exact (below_size (by repeat (first | (with_reducible first | exact HB.out | apply below_alloc | apply pw_below_drewN | apply below_drew1) | exact HB.out))) : w.heap.size ≤ gb325)); have n9_ := Aside0.mk ((by rw [hg]; exact (below_size (by repeat (first | (with_reducible first | exact HB.out | apply below_alloc | apply pw_below_drewN | apply below_drew1) | exact HB.out))) : w.heap.size ≤ gb325)); clear HO_11; clear HO_29; clear HL316_0; clear HO320; clear HO323; clear HR316_0; clear HB; have HO_11 := n0_; have HO_29 := n1_; have HL316_0 := n2_; have HO320 := n3_; have HO323 := n4_; have HR316_0 := n5_; have HB := n6_; have BK325 := n7_; have GW325 := n8_; have GE325 := n9_; clear n0_ n1_ n2_ n3_ n4_ n5_ n6_ n7_ n8_ n9_; clear hb hbox hg; have hcz16_0 : w15.cell? ⟨gb325, 0, none⟩ = some (.bool false) := (blk_cell BK325.out 0).trans rfl; have hcz16_1 : w15.cell? ⟨gb325, 1, none⟩ = some (.slice none 0 0) := (blk_cell BK325.out 1).trans rfl; have hcz16_2 : w15.cell? ⟨gb325, 2, none⟩ = some (.slice none 0 0) := (blk_cell BK325.out 2).trans rfl; have hfz16_0 := blk_frozen BK325.out 0; have hfz16_1 := blk_frozen BK325.out 1; have hfz16_2 := blk_frozen BK325.out 2; obtain ⟨Ao17, co17, eo17⟩ := Kd.R_slice HO320.out; subst eo17; obtain ⟨Ao18, co18, eo18⟩ := Kd.R_slice HO323.out; subst eo18) | ((with_reducible refine gate_store (t := 44) (p := 14) rfl ?_); refine store_event (t := 44) (p := 14) (v := ?vo_w19) (w1 := (((w15.setCell ⟨gb325, 0, none⟩ (.bool t317)).setCell ⟨gb325, 1, none⟩ (.slice Ao17 t318.length co17)).setCell ⟨gb325, 2, none⟩ (.slice Ao18 t321.length co18))) ?hg ?ho ?hn ?hr ?_; (case ho => rfl); (case hg => rfl); (case hn => rfl); (case hr => first | (go_simp; done) | (go_simp; rfl)); intro w19 hw; have n0_ : Aside0 (Kd.N k150 150 w19 w.heap.size (fun k_ => (w.heap.size ≤ k_) ∧ some k_ ≠ (.slice (some ad316) t312.length co8 : Value).ownBlock ∧ some k_ ≠ (.slice Ao17 t318.length co17 : Value).ownBlock ∧ some k_ ≠ (.slice Ao18 t321.length co18 : Value).ownBlock ∧ k_ ≠ gb325) u11 x11_1) := ⟨(by rw [hw]; exact (by (with_reducible repeat (first | apply Kd.N_alloc | apply Kd.N_drewN | apply Kd.N_drew)); exact Kd.N_mono (Kd.N_far (p := ⟨gb325, 2, none⟩) (Kd.N_far (p := ⟨gb325, 1, none⟩) (Kd.N_far (p := ⟨gb325, 0, none⟩) (Kd.N_mono HO_11.out (fun k_ hk => (⟨hk, hk.2⟩ : _ ∧ k_ ≠ gb325))) (fun _ hk => hk.2) (.bool t317)) (fun _ hk => hk.2) (.slice Ao17 t318.length co17)) (fun _ hk => hk.2) (.slice Ao18 t321.length co18)) (fun _ hk => ⟨hk.1.1.1.1.1, ⟨hk.1.1.1.1.2, ⟨hk.1.1.1.2, ⟨hk.1.1.2, hk.1.2⟩⟩⟩⟩)))⟩; have n1_ : Aside0 (Kd.N (Kd.slice 3 (Kd.int .i64)) 22 w19 w.heap.size (fun k_ => (w.heap.size ≤ k_) ∧ some k_ ≠ (u11 : Value).ownBlock ∧ some k_ ≠ (.slice Ao17 t318.length co17 : Value).ownBlock ∧ some k_ ≠ (.slice Ao18 t321.length co18 : Value).ownBlock ∧ k_ ≠ gb325) (.slice (some ad316) t312.length co8) t312) := ⟨(by rw [hw]; exact (by (with_reducible repeat (first | apply Kd.N_alloc | apply Kd.N_drewN | apply Kd.N_drew)); exact Kd.N_mono (Kd.N_far (p := ⟨gb325, 2, none⟩) (Kd.N_far (p := ⟨gb325, 1, none⟩) (Kd.N_far (p := ⟨gb325, 0, none⟩) (Kd.N_mono HO_29.out (fun k_ hk => (⟨hk, hk.2⟩ : _ ∧ k_ ≠ gb325))) (fun _ hk => hk.2) (.bool t317)) (fun _ hk => hk.2) (.slice Ao17 t318.length co17)) (fun _ hk => hk.2) (.slice Ao18 t321.length co18)) (fun _ hk => ⟨hk.1.1.1.1.1, ⟨hk.1.1.1.1.2, ⟨hk.1.1.1.2, ⟨hk.1.1.2, hk.1.2⟩⟩⟩⟩)))⟩; have n2_ : Aside0 (Kd.V (Kd.int .i64) 3 w19 w.heap.size (fun k_ => (w.heap.size ≤ k_) ∧ some k_ ≠ (u11 : Value).ownBlock ∧ some k_ ≠ (.slice (some ad316) t312.length co8 : Value).ownBlock ∧ some k_ ≠ (.slice Ao17 t318.length co17 : Value).ownBlock ∧ some k_ ≠ (.slice Ao18 t321.length co18 : Value).ownBlock ∧ k_ ≠ gb325) (.slice A316_0 (rd_L1 t312 x31_1).length c316_0) (rd_L1 t312 x31_1)) := ⟨(by rw [hw]; exact (by (with_reducible repeat (first | apply Kd.V_alloc | apply Kd.V_drewN | apply Kd.V_drew)); exact Kd.V_mono (Kd.V_far (p := ⟨gb325, 2, none⟩) (Kd.V_far (p := ⟨gb325, 1, none⟩) (Kd.V_far (p := ⟨gb325, 0, none⟩) (Kd.V_mono HL316_0.out (fun k_ hk => (⟨hk, hk.2⟩ : _ ∧ k_ ≠ gb325))) (fun _ hk => hk.2) (.bool t317)) (fun _ hk => hk.2) (.slice Ao17 t318.length co17)) (fun _ hk => hk.2) (.slice Ao18 t321.length co18)) (fun _ hk => ⟨hk.1.1.1.1.1.1, ⟨hk.1.1.1.1.1.2, ⟨hk.1.1.1.1.2, ⟨hk.1.1.1.2, ⟨hk.1.1.2, hk.1.2⟩⟩⟩⟩⟩)))⟩; have n3_ : Aside0 (Kd.R (Kd.int .u64) 112 w19 w.heap.size (fun k_ => (w.heap.size ≤ k_) ∧ some k_ ≠ (.slice Ao18 t321.length co18 : Value).ownBlock) (.slice Ao17 t318.length co17) t318) := ⟨(by rw [hw]; exact (by (with_reducible repeat (first | apply Kd.R_alloc | apply Kd.R_drewN | apply Kd.R_drew)); exact Kd.R_mono (Kd.R_far (p := ⟨gb325, 2, none⟩) (Kd.R_far (p := ⟨gb325, 1, none⟩) (Kd.R_far (p := ⟨gb325, 0, none⟩) (Kd.R_types HO320.out BK325.out (by decide)) (fun _ hk => hk.2) (.bool t317)) (fun _ hk => hk.2) (.slice Ao17 t318.length co17)) (fun _ hk => hk.2) (.slice Ao18 t321.length co18)) (fun _ hk => ⟨hk.1.1, hk.1.2⟩)))⟩; have n4_ : Aside0 (Kd.R (Kd.int .u64) 112 w19 w.heap.size (fun k_ => (w.heap.size ≤ k_) ∧ some k_ ≠ (.slice Ao17 t318.length co17 : Value).ownBlock) (.slice Ao18 t321.length co18) t321) := ⟨(by rw [hw]; exact (by (with_reducible repeat (first | apply Kd.R_alloc | apply Kd.R_drewN | apply Kd.R_drew)); exact Kd.R_mono (Kd.R_far (p := ⟨gb325, 2, none⟩) (Kd.R_far (p := ⟨gb325, 1, none⟩) (Kd.R_far (p := ⟨gb325, 0, none⟩) (Kd.R_types HO323.out BK325.out (by decide)) (fun _ hk => hk.2) (.bool t317)) (fun _ hk => hk.2) (.slice Ao17 t318.length co17)) (fun _ hk => hk.2) (.slice Ao18 t321.length co18)) (fun _ hk => ⟨hk.1.1, hk.1.2⟩)))⟩; have n5_ : Aside0 (w19.heap[gb325]? = some (.cells #[.bool t317, .slice Ao17 t318.length co17, .slice Ao18 t321.length co18] 44 (0, 0))) := ⟨(by rw [hw]; exact (by (with_reducible repeat (first | refine blk_drewN ?_ _ | refine blk_drew ?_ | refine blk_alloc ?_ _)); refine blk_put (cs := #[.bool t317, .slice Ao17 t318.length co17, .slice none 0 0]) ?_ 2 _ rfl; (with_reducible repeat (first | refine blk_drewN ?_ _ | refine blk_drew ?_ | refine blk_alloc ?_ _)); refine blk_put (cs := #[.bool t317, .slice none 0 0, .slice none 0 0]) ?_ 1 _ rfl; (with_reducible repeat (first | refine blk_drewN ?_ _ | refine blk_drew ?_ | refine blk_alloc ?_ _)); refine blk_put (cs := #[.bool false, .slice none 0 0, .slice none 0 0]) ?_ 0 _ rfl; (with_reducible repeat (first | refine blk_drewN ?_ _ | refine blk_drew ?_ | refine blk_alloc ?_ _)); exact BK325.out))⟩; have n6_ : Aside0 (Below w.heap.size w w19) := ⟨(by rw [hw]; exact (by repeat (first | (with_reducible first | exact HB.out | apply below_alloc | apply pw_below_drewN | apply below_drew1 | refine below_set ?_ GE325.out) | exact HB.out)))⟩; clear hw; clear HO_11; clear HO_29; clear HL316_0; clear HO320; clear HO323; clear BK325; clear HB; have HO_11 := n0_; have HO_29 := n1_; have HL316_0 := n2_; have HO320 := n3_; have HO323 := n4_; have BK325 := n5_; have HB := n6_; clear n0_ n1_ n2_ n3_ n4_ n5_ n6_; have hcz20_0 : w19.cell? ⟨gb325, 0, none⟩ = some (.bool t317) := (blk_cell BK325.out 0).trans rfl; have hcz20_1 : w19.cell? ⟨gb325, 1, none⟩ = some (.slice Ao17 t318.length co17) := (blk_cell BK325.out 1).trans rfl; have hcz20_2 : w19.cell? ⟨gb325, 2, none⟩ = some (.slice Ao18 t321.length co18) := (blk_cell BK325.out 2).trans rfl; have hfz20_0 := blk_frozen BK325.out 0; have hfz20_1 := blk_frozen BK325.out 1; have hfz20_2 := blk_frozen BK325.out 2) | ((with_reducible refine gate_builtin (b := .append) (xs := #[.tmp 43, .tmp 47]) rfl ?_); at_builtin; refine Kd.N_append k150 (w0 := w) w.heap.size rfl (.tmp 43) (.tmp 47) 80 150 (.agg #[(.slice none 0 0), (.bool false), (.slice none 0 0), (.slice none 0 0)]) 80 rfl Tryz.underlying80 info150 rfl (by decide) (by omega) u11 x11_1 (⟨rd_L1 t312 x31_1, (⟨(⟨t317, t318⟩ : S42), t321⟩ : S44)⟩ : S150) [.slice A316_0 (rd_L1 t312 x31_1).length c316_0, .bool t317, .slice Ao17 t318.length co17, .slice Ao18 t321.length co18] (fun k_ => (w.heap.size ≤ k_) ∧ some k_ ≠ (.slice (some ad316) t312.length co8 : Value).ownBlock ∧ k_ ≠ gb325) (fun k_ => ((fun k_ => (w.heap.size ≤ k_) ∧ some k_ ≠ (.slice (some ad316) t312.length co8 : Value).ownBlock ∧ k_ ≠ gb325)) k_ ∧ some k_ ≠ (u11 : Value).ownBlock) rfl rfl ?aP (fun _ hk => hk) ?aF ?aO ?aB ?aS ?aL ?_; (case aP => exact (k150_mkF _ _ (⟨rd_L1 t312 x31_1, (⟨(⟨t317, t318⟩ : S42), t321⟩ : S44)⟩ : S150) (Kd.V_reads' (Kd.V_mono (ok' := (fun k_ => ((fun k_ => (w.heap.size ≤ k_) ∧ some k_ ≠ (.slice (some ad316) t312.length co8 : Value).ownBlock ∧ k_ ≠ gb325)) k_ ∧ some k_ ≠ (u11 : Value).ownBlock)) (HL316_0.out) (fun k_ hk => ⟨⟨hk.1, ⟨hk.2.2.1, hk.2.2.2.2.2⟩⟩, hk.2.1⟩))).2.1 (Kd.V_F (Kd.V_mono (ok' := (fun k_ => ((fun k_ => (w.heap.size ≤ k_) ∧ some k_ ≠ (.slice (some ad316) t312.length co8 : Value).ownBlock ∧ k_ ≠ gb325)) k_ ∧ some k_ ≠ (u11 : Value).ownBlock)) (HL316_0.out) (fun k_ hk => ⟨⟨hk.1, ⟨hk.2.2.1, hk.2.2.2.2.2⟩⟩, hk.2.1⟩))) (Kd.R_reads' (Kd.R_mono (ok' := (fun k_ => ((fun k_ => (w.heap.size ≤ k_) ∧ some k_ ≠ (.slice (some ad316) t312.length co8 : Value).ownBlock ∧ k_ ≠ gb325)) k_ ∧ some k_ ≠ (u11 : Value).ownBlock)) (Kd.R_types (Kd.R_apart' (Kd.R_apart' (HO320.out) (Kd.N_typed HO_29.out) (by decide)) (Kd.N_typed HO_11.out) (by decide)) BK325.out (by decide)) (fun k_ hk => ⟨⟨hk.1.1.1.1, ⟨hk.1.1.2, hk.2⟩⟩, hk.1.2⟩))).2.1 (Kd.R_F (Kd.R_mono (ok' := (fun k_ => ((fun k_ => (w.heap.size ≤ k_) ∧ some k_ ≠ (.slice (some ad316) t312.length co8 : Value).ownBlock ∧ k_ ≠ gb325)) k_ ∧ some k_ ≠ (u11 : Value).ownBlock)) (Kd.R_types (Kd.R_apart' (Kd.R_apart' (HO320.out) (Kd.N_typed HO_29.out) (by decide)) (Kd.N_typed HO_11.out) (by decide)) BK325.out (by decide)) (fun k_ hk => ⟨⟨hk.1.1.1.1, ⟨hk.1.1.2, hk.2⟩⟩, hk.1.2⟩))) (Kd.R_reads' (Kd.R_mono (ok' := (fun k_ => ((fun k_ => (w.heap.size ≤ k_) ∧ some k_ ≠ (.slice (some ad316) t312.length co8 : Value).ownBlock ∧ k_ ≠ gb325)) k_ ∧ some k_ ≠ (u11 : Value).ownBlock)) (Kd.R_types (Kd.R_apart' (Kd.R_apart' (HO323.out) (Kd.N_typed HO_29.out) (by decide)) (Kd.N_typed HO_11.out) (by decide)) BK325.out (by decide)) (fun k_ hk => ⟨⟨hk.1.1.1.1, ⟨hk.1.1.2, hk.2⟩⟩, hk.1.2⟩))).2.1 (Kd.R_F (Kd.R_mono (ok' := (fun k_ => ((fun k_ => (w.heap.size ≤ k_) ∧ some k_ ≠ (.slice (some ad316) t312.length co8 : Value).ownBlock ∧ k_ ≠ gb325)) k_ ∧ some k_ ≠ (u11 : Value).ownBlock)) (Kd.R_types (Kd.R_apart' (Kd.R_apart' (HO323.out) (Kd.N_typed HO_29.out) (by decide)) (Kd.N_typed HO_11.out) (by decide)) BK325.out (by decide)) (fun k_ hk => ⟨⟨hk.1.1.1.1, ⟨hk.1.1.2, hk.2⟩⟩, hk.1.2⟩))))); (case aB => exact (by repeat (first | (with_reducible first | exact HB.out | apply below_alloc | apply pw_below_drewN | apply below_drew1 | refine below_set ?_ GE325.out) | exact HB.out))); (case aF => exact (fun k_ hk => ⟨(Nat.le_trans (below_size (by repeat (first | (with_reducible first | exact HB.out | apply below_alloc | apply pw_below_drewN | apply below_drew1 | refine below_set ?_ GE325.out) | exact HB.out))) hk), Kd.fresh' (Kd.N_lt (by (with_reducible repeat (first | apply Kd.N_alloc | apply Kd.N_drewN | apply Kd.N_drew)); exact HO_29.out)) k_ hk, Kd.freshB (g := gb325) (o := .cells #[.bool t317, .slice Ao17 t318.length co17, .slice Ao18 t321.length co18] 44 (0, 0)) (by (with_reducible repeat (first | refine blk_drewN ?_ _ | refine blk_drew ?_ | refine blk_alloc ?_ _)); exact BK325.out) k_ hk⟩)); (case aO => exact (by (with_reducible repeat (first | apply Kd.N_alloc | apply Kd.N_drewN | apply Kd.N_drew)); exact Kd.N_mono HO_11.out (fun _ hk => ⟨hk.1, ⟨hk.2.1, hk.2.2.2.2⟩⟩))); (case aS => exact (below_size (by repeat (first | (with_reducible first | exact HB.out | apply below_alloc | apply pw_below_drewN | apply below_drew1 | refine below_set ?_ GE325.out) | exact HB.out)))); (case aL => have := LMc13.out; omega); intro v327 w21 ho hb hg hat; rw [← Ny326.out] at ho; have n0_ := Aside0.mk (Kd.N_afterv (ok := (fun k_ => (w.heap.size ≤ k_) ∧ some k_ ≠ (.slice Ao17 t318.length co17 : Value).ownBlock ∧ some k_ ≠ (.slice Ao18 t321.length co18 : Value).ownBlock ∧ k_ ≠ gb325)) (by (with_reducible repeat (first | apply Kd.N_alloc | apply Kd.N_drewN | apply Kd.N_drew)); exact Kd.N_mono HO_29.out (fun _ hk => ⟨⟨hk.1, ⟨hk.2.2.1, ⟨hk.2.2.2.1, hk.2.2.2.2⟩⟩⟩, hk.2.1⟩)) hg hat); have n1_ := Aside0.mk (Kd.V_afterv (ok := (fun k_ => (w.heap.size ≤ k_) ∧ some k_ ≠ (.slice (some ad316) t312.length co8 : Value).ownBlock ∧ some k_ ≠ (.slice Ao17 t318.length co17 : Value).ownBlock ∧ some k_ ≠ (.slice Ao18 t321.length co18 : Value).ownBlock ∧ k_ ≠ gb325)) (by (with_reducible repeat (first | apply Kd.V_alloc | apply Kd.V_drewN | apply Kd.V_drew)); exact Kd.V_mono HL316_0.out (fun _ hk => ⟨⟨hk.1, ⟨hk.2.2.1, ⟨hk.2.2.2.1, ⟨hk.2.2.2.2.1, hk.2.2.2.2.2⟩⟩⟩⟩, hk.2.1⟩)) hg hat); have n2_ := Aside0.mk (blk_grown (g := gb325) (o := .cells #[.bool t317, .slice Ao17 t318.length co17, .slice Ao18 t321.length co18] 44 (0, 0)) (by (with_reducible repeat (first | refine blk_drewN ?_ _ | refine blk_drew ?_ | refine blk_alloc ?_ _)); exact BK325.out) hg (Kd.N_ne HO_11.out BK325.out (by decide))); have n3_ := Aside0.mk (hb); have n4_ := Aside0.mk (ho); clear HO_29; clear HL316_0; clear BK325; clear HB; clear HO_11; clear HO320; clear HO323; have HO_29 := n0_; have HL316_0 := n1_; have BK325 := n2_; have HB := n3_; have HO328 := n4_; clear n0_ n1_ n2_ n3_ n4_; clear ho hb hg hat))
                go_roundg k1
                case measure => have := HK1.out; omega
                case rel => exact ⟨(y326), (wrap64 (x31_1 + 1)), (by first | rfl | (simp; done) | (simp [*]; done)), H', ⟨by have := HK1.out; omega⟩, ⟨by (with_reducible repeat (first | apply Kd.N_alloc | apply Kd.N_drewN | apply Kd.N_drew)); exact Kd.N_mono HO328.out (fun _ hk => ⟨hk.1, hk.2.1⟩)⟩, ⟨by (with_reducible repeat (first | apply Kd.N_alloc | apply Kd.N_drewN | apply Kd.N_drew)); exact Kd.N_mono HO_29.out (fun _ hk => ⟨hk.1.1, hk.2⟩)⟩, ⟨by repeat (first | (with_reducible first | exact HB.out | apply below_alloc | apply pw_below_drewN | apply below_drew1 | refine below_set ?_ GE325.out) | exact HB.out)⟩⟩
              · rw [if_neg c13] at H
                exact absurd H (by simp)
            · rw [if_neg c11] at H
              exact absurd H (by simp)
          · rw [if_neg c10] at H
            exact absurd H (by simp)
        · rw [if_neg c9] at H
          have c9b0 : decide (x31_1 < (t312.length : Int)) = false := decide_eq_false c9
          clear c9
          simp only [Option.some.injEq, Prod.mk.injEq] at H
          obtain ⟨rfl, rfl⟩ := H
          go_wp2
          go_ret2
          exact ⟨_, by first | rfl | (simp [errW_none, errW_some] <;> rfl) | (simp [*, errW_none, errW_some] <;> rfl), by (with_reducible repeat (first | apply Kd.N_alloc | apply Kd.N_drewN | apply Kd.N_drew)); exact Kd.N_mono HO_11.out (fun _ hk => hk.1), by repeat (first | (with_reducible first | exact HB.out | apply below_alloc | apply pw_below_drewN | apply below_drew1) | exact HB.out)⟩
  · rw [if_neg c5] at H
    have c5b0 : (t311 == 0) = false := beq_eq_false_iff_ne.mpr c5
    have c5b1 : (t311 != 0) = true := bne_iff_ne.mpr c5
    simp only [Option.some.injEq, Prod.mk.injEq] at H
    obtain ⟨rfl, rfl⟩ := H
    go_enter Tryz.func63, Tryz.ntmps63
    go_wp2_with (first | ((with_reducible refine gate_callee (f := 117) rfl ?_); refine goesL_ (some 19) rfl rfl Tryz.func117 (by kernel_rfl) rfl #[.slice A0 l0.length c0, .int .i64 a1, .int .i64 a2] rfl (by (try simp only [List.map_toArray, List.map_cons, List.map_nil]); first | done | rfl | (simp only [List.length_drop, List.length_take]; rfl)) ?_; (with_reducible refine (mass_refuses.calls k _ _ l0 a1 a2 t311 _ ?side1 ?side2 A4.out).mono ?_); (case side1 => repeat (first | exact HR0.out | (with_reducible refine Kd.C_alloc ?_ _) | (with_reducible refine Kd.C_drewN ?_ _) | (with_reducible refine Kd.C_drew ?_))); (case side2 => exact HC0.out); rintro e w' ⟨rfl, ⟨nd, rfl⟩⟩; refine ⟨_, rfl, ?_⟩))
    go_ret2
    exact ⟨_, by first | rfl | (simp [errW_none, errW_some] <;> rfl) | (simp [*, errW_none, errW_some] <;> rfl), by first | exact Kd.S_nil _ _ _ _ _ | exact Kd.N_nil _ _ _ _ _ | exact Kd.V_nil _ _ _ _ _ | exact Kd.Q_nil _ _ _ _ _ | exact Kd.R_nil _ _ _ _ _, by repeat (first | (with_reducible first | exact HB.out | apply below_alloc | apply pw_below_drewN | apply below_drew1) | exact HB.out)⟩
def ratio_Check.f (k : Nat) (a0_0 : Bool) (l0_1 : List Int) (l0_2 : List Int) : Option (Int) := (signed_Check.f a0_0 l0_1).bind fun t371 => (if t371 = 0 then ((limbs_Check.f l0_2).bind fun t372 => (if t372 = 0 then (if (l0_2.length : Int) = 0 then (some 6) else ((quot_Gcd.f k l0_1 l0_2).bind fun t373 => ((ratio_one.f).bind fun t376 => ((limbs_Cmp.f t373 t376).bind fun t379 => (if t379 = 0 then (some 0) else (some 6)))))) else (some 6))) else (some 6))
set_option maxHeartbeats 8000000 in
set_option maxRecDepth 100000 in
theorem ratio_Check.calls (k : Nat) (a0_0 : Bool) (A0_1 : Option Addr) (c0_1 : Nat) (l0_1 : List Int) (A0_2 : Option Addr) (c0_2 : Nat) (l0_2 : List Int) (r : Int) (w : World) (hr0_1 : Kd.C (Kd.int .u64) w A0_1 l0_1.length l0_1) (hc0_1 : l0_1.length ≤ c0_1) (hr0_2 : Kd.C (Kd.int .u64) w A0_2 l0_2.length l0_2) (hc0_2 : l0_2.length ≤ c0_2) (h : ratio_Check.f k a0_0 l0_1 l0_2 = some r) :
    Calls Tryz.prog 139 #[.agg #[.bool a0_0, .slice A0_1 l0_1.length c0_1, .slice A0_2 l0_2.length c0_2]] w fun e w' => e = .returned (.int .i64 r) ∧ Below w.heap.size w w' := by
  have hu44 := Tryz.underlying44
  have hu42 := Tryz.underlying42
  have HR0_1 := Aside0.mk hr0_1
  have HC0_1 := Aside0.mk hc0_1
  clear hr0_1 hc0_1
  have HR0_2 := Aside0.mk hr0_2
  have HC0_2 := Aside0.mk hc0_2
  clear hr0_2 hc0_2
  have HB := Aside0.mk (Below.refl w.heap.size w)
  have H : ((signed_Check.f a0_0 l0_1).bind fun t371 => (if t371 = 0 then ((limbs_Check.f l0_2).bind fun t372 => (if t372 = 0 then (if (l0_2.length : Int) = 0 then (some 6) else ((quot_Gcd.f k l0_1 l0_2).bind fun t373 => ((ratio_one.f).bind fun t376 => ((limbs_Cmp.f t373 t376).bind fun t379 => (if t379 = 0 then (some 0) else (some 6)))))) else (some 6))) else (some 6))) = some r := h
  clear h
  replace H := Option.bind_eq_some_iff.mp H
  obtain ⟨t371, A20, H⟩ := H
  replace H : (if t371 = 0 then ((limbs_Check.f l0_2).bind fun t372 => (if t372 = 0 then (if (l0_2.length : Int) = 0 then (some 6) else ((quot_Gcd.f k l0_1 l0_2).bind fun t373 => ((ratio_one.f).bind fun t376 => ((limbs_Cmp.f t373 t376).bind fun t379 => (if t379 = 0 then (some 0) else (some 6)))))) else (some 6))) else (some 6)) = some r := H
  have A2 := Aside0.mk A20
  clear A20
  by_cases c3 : t371 = 0
  · rw [if_pos c3] at H
    have c3b0 : (t371 == 0) = true := beq_iff_eq.mpr c3
    have c3b1 : (t371 != 0) = false := bne_eq_false_iff_eq.mpr c3
    clear c3
    replace H := Option.bind_eq_some_iff.mp H
    obtain ⟨t372, A40, H⟩ := H
    replace H : (if t372 = 0 then (if (l0_2.length : Int) = 0 then (some 6) else ((quot_Gcd.f k l0_1 l0_2).bind fun t373 => ((ratio_one.f).bind fun t376 => ((limbs_Cmp.f t373 t376).bind fun t379 => (if t379 = 0 then (some 0) else (some 6)))))) else (some 6)) = some r := H
    have A4 := Aside0.mk A40
    clear A40
    by_cases c5 : t372 = 0
    · rw [if_pos c5] at H
      have c5b0 : (t372 == 0) = true := beq_iff_eq.mpr c5
      have c5b1 : (t372 != 0) = false := bne_eq_false_iff_eq.mpr c5
      clear c5
      by_cases c6 : (l0_2.length : Int) = 0
      · rw [if_pos c6] at H
        have c6b0 : ((l0_2.length : Int) == 0) = true := beq_iff_eq.mpr c6
        have c6b1 : ((l0_2.length : Int) != 0) = false := bne_eq_false_iff_eq.mpr c6
        clear c6
        obtain rfl := Option.some.inj H
        go_enter Tryz.func139, Tryz.ntmps139
        go_wp2_with (first | ((with_reducible refine gate_dst (N := 1) rfl ?_); (try (refine gate_guard (by rfl) ?_; dsimp only)); refine box_event ?hg (N := 1) ?hd (cs := #[.bool a0_0, .slice A0_1 l0_1.length c0_1, .slice A0_2 l0_2.length c0_2]) (t := 44) ?hr ?_; (case hd => rfl); (case hg => rfl); (case hr => first | (go_simp; done) | (go_simp; rfl)); intro gb370 hg w7 hbox hb; have n0_ := Aside0.mk (below_step (by repeat (first | (with_reducible first | exact HB.out | apply below_alloc | apply pw_below_drewN | apply below_drew1) | exact HB.out)) hb); have n1_ := Aside0.mk (hbox); have n2_ := Aside0.mk ((by rw [hg]; exact (below_size (by repeat (first | (with_reducible first | exact HB.out | apply below_alloc | apply pw_below_drewN | apply below_drew1) | exact HB.out))) : w.heap.size ≤ gb370)); have n3_ := Aside0.mk ((by rw [hg]; exact (below_size (by repeat (first | (with_reducible first | exact HB.out | apply below_alloc | apply pw_below_drewN | apply below_drew1) | exact HB.out))) : w.heap.size ≤ gb370)); clear HB; have HB := n0_; have BK370 := n1_; have GW370 := n2_; have GE370 := n3_; clear n0_ n1_ n2_ n3_; clear hb hbox hg; have hcz8_0 : w7.cell? ⟨gb370, 0, none⟩ = some (.bool a0_0) := (blk_cell BK370.out 0).trans rfl; have hcz8_1 : w7.cell? ⟨gb370, 1, none⟩ = some (.slice A0_1 l0_1.length c0_1) := (blk_cell BK370.out 1).trans rfl; have hcz8_2 : w7.cell? ⟨gb370, 2, none⟩ = some (.slice A0_2 l0_2.length c0_2) := (blk_cell BK370.out 2).trans rfl; have hfz8_0 := blk_frozen BK370.out 0; have hfz8_1 := blk_frozen BK370.out 1; have hfz8_2 := blk_frozen BK370.out 2) | ((with_reducible refine gate_callee (f := 135) rfl ?_); refine goesL_ (some 5) rfl rfl Tryz.func135 (by kernel_rfl) rfl #[.agg #[.bool a0_0, .slice A0_1 l0_1.length c0_1]] rfl (by (try simp only [List.map_toArray, List.map_cons, List.map_nil]); first | done | rfl | (simp only [List.length_drop, List.length_take]; rfl)) ?_; (with_reducible refine (signed_Check.calls a0_0 _ _ l0_1 t371 _ ?side1 ?side2 A2.out).mono ?_); (case side1 => repeat (first | exact (Kd.C_below HR0_1.out HB.out) | (with_reducible refine Kd.C_alloc ?_ _) | (with_reducible refine Kd.C_drewN ?_ _) | (with_reducible refine Kd.C_drew ?_))); (case side2 => exact HC0_1.out); rintro e w9 ⟨rfl, hb⟩; refine ⟨_, rfl, ?_⟩; have n0_ := Aside0.mk (blk_below (g := gb370) (o := .cells #[.bool a0_0, .slice A0_1 l0_1.length c0_1, .slice A0_2 l0_2.length c0_2] 44 (0, 0)) (by (with_reducible repeat (first | refine blk_drewN ?_ _ | refine blk_drew ?_ | refine blk_alloc ?_ _)); exact BK370.out) hb); have n1_ := Aside0.mk (below_step (by repeat (first | (with_reducible first | exact HB.out | apply below_alloc | apply pw_below_drewN | apply below_drew1 | refine below_set ?_ GE370.out) | exact HB.out)) hb); clear BK370; clear HB; have BK370 := n0_; have HB := n1_; clear n0_ n1_; (try clear hb); (try clear hb2); (try clear hk); (try clear hi); have hcz10_0 : w9.cell? ⟨gb370, 0, none⟩ = some (.bool a0_0) := (blk_cell BK370.out 0).trans rfl; have hcz10_1 : w9.cell? ⟨gb370, 1, none⟩ = some (.slice A0_1 l0_1.length c0_1) := (blk_cell BK370.out 1).trans rfl; have hcz10_2 : w9.cell? ⟨gb370, 2, none⟩ = some (.slice A0_2 l0_2.length c0_2) := (blk_cell BK370.out 2).trans rfl; have hfz10_0 := blk_frozen BK370.out 0; have hfz10_1 := blk_frozen BK370.out 1; have hfz10_2 := blk_frozen BK370.out 2) | (go_at_call 192; (with_reducible refine (limbs_Check.calls _ _ l0_2 t372 _ ?side1 ?side2 A4.out).mono ?_); (case side1 => repeat (first | exact (Kd.C_below HR0_2.out HB.out) | (with_reducible refine Kd.C_alloc ?_ _) | (with_reducible refine Kd.C_drewN ?_ _) | (with_reducible refine Kd.C_drew ?_))); (case side2 => exact HC0_2.out); rintro e w' ⟨rfl, ⟨nd, rfl⟩⟩))
        go_ret
        exact ⟨by first | rfl | (simp [errW_none, errW_some] <;> rfl) | (simp [*, errW_none, errW_some] <;> rfl), by repeat (first | (with_reducible first | exact HB.out | apply below_alloc | apply pw_below_drewN | apply below_drew1 | refine below_set ?_ GE370.out) | exact HB.out)⟩
      · rw [if_neg c6] at H
        have c6b0 : ((l0_2.length : Int) == 0) = false := beq_eq_false_iff_ne.mpr c6
        have c6b1 : ((l0_2.length : Int) != 0) = true := bne_iff_ne.mpr c6
        have c6b2 : ¬ (l0_2 = []) := fun h_ => c6 (by rw [h_]; rfl)
        replace H := Option.bind_eq_some_iff.mp H
        obtain ⟨t373, A110, H⟩ := H
        replace H : ((ratio_one.f).bind fun t376 => ((limbs_Cmp.f t373 t376).bind fun t379 => (if t379 = 0 then (some 0) else (some 6)))) = some r := H
        have A11 := Aside0.mk A110
        clear A110
        replace H := Option.bind_eq_some_iff.mp H
        obtain ⟨t376, A120, H⟩ := H
        replace H : ((limbs_Cmp.f t373 t376).bind fun t379 => (if t379 = 0 then (some 0) else (some 6))) = some r := H
        have A12 := Aside0.mk A120
        clear A120
        replace H := Option.bind_eq_some_iff.mp H
        obtain ⟨t379, A130, H⟩ := H
        replace H : (if t379 = 0 then (some 0) else (some 6)) = some r := H
        have A13 := Aside0.mk A130
        clear A130
        by_cases c14 : t379 = 0
        · rw [if_pos c14] at H
          have c14b0 : (t379 == 0) = true := beq_iff_eq.mpr c14
          have c14b1 : (t379 != 0) = false := bne_eq_false_iff_eq.mpr c14
          clear c14
          obtain rfl := Option.some.inj H
          go_enter Tryz.func139, Tryz.ntmps139
          go_wp2_with (first | ((with_reducible refine gate_dst (N := 1) rfl ?_); (try (refine gate_guard (by rfl) ?_; dsimp only)); refine box_event ?hg (N := 1) ?hd (cs := #[.bool a0_0, .slice A0_1 l0_1.length c0_1, .slice A0_2 l0_2.length c0_2]) (t := 44) ?hr ?_; (case hd => rfl); (case hg => rfl); (case hr => first | (go_simp; done) | (go_simp; rfl)); intro gb370 hg w15 hbox hb; have n0_ := Aside0.mk (below_step (by repeat (first | (with_reducible first | exact HB.out | apply below_alloc | apply pw_below_drewN | apply below_drew1) | exact HB.out)) hb); have n1_ := Aside0.mk (hbox); have n2_ := Aside0.mk ((by rw [hg]; exact (below_size (by repeat (first | (with_reducible first | exact HB.out | apply below_alloc | apply pw_below_drewN | apply below_drew1) | exact HB.out))) : w.heap.size ≤ gb370)); have n3_ := Aside0.mk ((by rw [hg]; exact (below_size (by repeat (first | (with_reducible first | exact HB.out | apply below_alloc | apply pw_below_drewN | apply below_drew1) | exact HB.out))) : w.heap.size ≤ gb370)); clear HB; have HB := n0_; have BK370 := n1_; have GW370 := n2_; have GE370 := n3_; clear n0_ n1_ n2_ n3_; clear hb hbox hg; have hcz16_0 : w15.cell? ⟨gb370, 0, none⟩ = some (.bool a0_0) := (blk_cell BK370.out 0).trans rfl; have hcz16_1 : w15.cell? ⟨gb370, 1, none⟩ = some (.slice A0_1 l0_1.length c0_1) := (blk_cell BK370.out 1).trans rfl; have hcz16_2 : w15.cell? ⟨gb370, 2, none⟩ = some (.slice A0_2 l0_2.length c0_2) := (blk_cell BK370.out 2).trans rfl; have hfz16_0 := blk_frozen BK370.out 0; have hfz16_1 := blk_frozen BK370.out 1; have hfz16_2 := blk_frozen BK370.out 2) | ((with_reducible refine gate_callee (f := 135) rfl ?_); refine goesL_ (some 5) rfl rfl Tryz.func135 (by kernel_rfl) rfl #[.agg #[.bool a0_0, .slice A0_1 l0_1.length c0_1]] rfl (by (try simp only [List.map_toArray, List.map_cons, List.map_nil]); first | done | rfl | (simp only [List.length_drop, List.length_take]; rfl)) ?_; (with_reducible refine (signed_Check.calls a0_0 _ _ l0_1 t371 _ ?side1 ?side2 A2.out).mono ?_); (case side1 => repeat (first | exact (Kd.C_below HR0_1.out HB.out) | (with_reducible refine Kd.C_alloc ?_ _) | (with_reducible refine Kd.C_drewN ?_ _) | (with_reducible refine Kd.C_drew ?_))); (case side2 => exact HC0_1.out); rintro e w17 ⟨rfl, hb⟩; refine ⟨_, rfl, ?_⟩; have n0_ := Aside0.mk (blk_below (g := gb370) (o := .cells #[.bool a0_0, .slice A0_1 l0_1.length c0_1, .slice A0_2 l0_2.length c0_2] 44 (0, 0)) (by (with_reducible repeat (first | refine blk_drewN ?_ _ | refine blk_drew ?_ | refine blk_alloc ?_ _)); exact BK370.out) hb); have n1_ := Aside0.mk (below_step (by repeat (first | (with_reducible first | exact HB.out | apply below_alloc | apply pw_below_drewN | apply below_drew1 | refine below_set ?_ GE370.out) | exact HB.out)) hb); clear BK370; clear HB; have BK370 := n0_; have HB := n1_; clear n0_ n1_; (try clear hb); (try clear hb2); (try clear hk); (try clear hi); have hcz18_0 : w17.cell? ⟨gb370, 0, none⟩ = some (.bool a0_0) := (blk_cell BK370.out 0).trans rfl; have hcz18_1 : w17.cell? ⟨gb370, 1, none⟩ = some (.slice A0_1 l0_1.length c0_1) := (blk_cell BK370.out 1).trans rfl; have hcz18_2 : w17.cell? ⟨gb370, 2, none⟩ = some (.slice A0_2 l0_2.length c0_2) := (blk_cell BK370.out 2).trans rfl; have hfz18_0 := blk_frozen BK370.out 0; have hfz18_1 := blk_frozen BK370.out 1; have hfz18_2 := blk_frozen BK370.out 2) | (go_at_call 192; (with_reducible refine (limbs_Check.calls _ _ l0_2 t372 _ ?side1 ?side2 A4.out).mono ?_); (case side1 => repeat (first | exact (Kd.C_below HR0_2.out HB.out) | (with_reducible refine Kd.C_alloc ?_ _) | (with_reducible refine Kd.C_drewN ?_ _) | (with_reducible refine Kd.C_drew ?_))); (case side2 => exact HC0_2.out); rintro e w' ⟨rfl, ⟨nd, rfl⟩⟩) | (go_at_call 195; (with_reducible refine (quot_Gcd.calls k _ _ l0_1 _ _ l0_2 t373 _ ?side1 ?side2 ?side3 ?side4 A11.out).mono ?_); (case side1 => repeat (first | exact (Kd.C_below HR0_1.out (by repeat (first | (with_reducible first | exact HB.out | apply below_alloc | apply pw_below_drewN | apply below_drew1 | refine below_set ?_ GE370.out) | exact HB.out))) | (with_reducible refine Kd.C_alloc ?_ _) | (with_reducible refine Kd.C_drewN ?_ _) | (with_reducible refine Kd.C_drew ?_))); (case side2 => exact HC0_1.out); (case side3 => repeat (first | exact (Kd.C_below HR0_2.out (by repeat (first | (with_reducible first | exact HB.out | apply below_alloc | apply pw_below_drewN | apply below_drew1 | refine below_set ?_ GE370.out) | exact HB.out))) | (with_reducible refine Kd.C_alloc ?_ _) | (with_reducible refine Kd.C_drewN ?_ _) | (with_reducible refine Kd.C_drew ?_))); (case side4 => exact HC0_2.out); rintro e w19 ⟨v374, rfl, ho0, hb⟩; have n0_ := Aside0.mk (Kd.R_lower ho0 (below_size (by repeat (first | (with_reducible first | exact HB.out | apply below_alloc | apply pw_below_drewN | apply below_drew1 | refine below_set ?_ GE370.out) | exact HB.out)))); have n1_ := Aside0.mk (blk_below (g := gb370) (o := .cells #[.bool a0_0, .slice A0_1 l0_1.length c0_1, .slice A0_2 l0_2.length c0_2] 44 (0, 0)) (by (with_reducible repeat (first | refine blk_drewN ?_ _ | refine blk_drew ?_ | refine blk_alloc ?_ _)); exact BK370.out) hb); have n2_ := Aside0.mk (below_step (by repeat (first | (with_reducible first | exact HB.out | apply below_alloc | apply pw_below_drewN | apply below_drew1 | refine below_set ?_ GE370.out) | exact HB.out)) hb); clear BK370; clear HB; have HO375 := n0_; have BK370 := n1_; have HB := n2_; clear n0_ n1_ n2_; (try clear hb); (try clear hb2); (try clear hk); (try clear hi); (try clear ho0)) | (go_at_call 81; (with_reducible refine (ratio_one.calls  t376 _ A12.out).mono ?_); rintro e w20 ⟨v377, rfl, ho0, hb⟩; have n0_ := Aside0.mk (Kd.R_elder' (by (with_reducible repeat (first | apply Kd.R_alloc | apply Kd.R_drewN | apply Kd.R_drew)); exact HO375.out) (Kd.R_base ho0) hb); have n1_ := Aside0.mk (Kd.R_lower (Kd.R_new' ho0 (Kd.R_lt (by (with_reducible repeat (first | apply Kd.R_alloc | apply Kd.R_drewN | apply Kd.R_drew)); exact HO375.out))) (below_size (by repeat (first | (with_reducible first | exact HB.out | apply below_alloc | apply pw_below_drewN | apply below_drew1 | refine below_set ?_ GE370.out) | exact HB.out)))); have n2_ := Aside0.mk (blk_below (g := gb370) (o := .cells #[.bool a0_0, .slice A0_1 l0_1.length c0_1, .slice A0_2 l0_2.length c0_2] 44 (0, 0)) (by (with_reducible repeat (first | refine blk_drewN ?_ _ | refine blk_drew ?_ | refine blk_alloc ?_ _)); exact BK370.out) hb); have n3_ := Aside0.mk (below_step (by repeat (first | (with_reducible first | exact HB.out | apply below_alloc | apply pw_below_drewN | apply below_drew1 | refine below_set ?_ GE370.out) | exact HB.out)) hb); clear HO375; clear BK370; clear HB; have HO375 := n0_; have HO378 := n1_; have BK370 := n2_; have HB := n3_; clear n0_ n1_ n2_ n3_; (try clear hb); (try clear hb2); (try clear hk); (try clear hi); (try clear ho0); obtain ⟨Ao21, co21, eo21⟩ := Kd.R_slice HO375.out; subst eo21; obtain ⟨Ao22, co22, eo22⟩ := Kd.R_slice HO378.out; subst eo22) | (go_at_call 198; (with_reducible refine (limbs_Cmp.calls _ _ t373 _ _ t376 t379 _ ?side1 ?side2 ?side3 ?side4 A13.out).mono ?_); (case side1 => repeat (first | exact (Kd.R_reads' HO375.out).2.2 | (with_reducible refine Kd.C_alloc ?_ _) | (with_reducible refine Kd.C_drewN ?_ _) | (with_reducible refine Kd.C_drew ?_))); (case side2 => exact (Kd.R_reads' HO375.out).2.1); (case side3 => repeat (first | exact (Kd.R_reads' HO378.out).2.2 | (with_reducible refine Kd.C_alloc ?_ _) | (with_reducible refine Kd.C_drewN ?_ _) | (with_reducible refine Kd.C_drew ?_))); (case side4 => exact (Kd.R_reads' HO378.out).2.1); rintro e w23 ⟨rfl, hb⟩; have n0_ := Aside0.mk (Kd.R_below (by (with_reducible repeat (first | apply Kd.R_alloc | apply Kd.R_drewN | apply Kd.R_drew)); exact HO375.out) hb); have n1_ := Aside0.mk (Kd.R_below (by (with_reducible repeat (first | apply Kd.R_alloc | apply Kd.R_drewN | apply Kd.R_drew)); exact HO378.out) hb); have n2_ := Aside0.mk (blk_below (g := gb370) (o := .cells #[.bool a0_0, .slice A0_1 l0_1.length c0_1, .slice A0_2 l0_2.length c0_2] 44 (0, 0)) (by (with_reducible repeat (first | refine blk_drewN ?_ _ | refine blk_drew ?_ | refine blk_alloc ?_ _)); exact BK370.out) hb); have n3_ := Aside0.mk (below_step (by repeat (first | (with_reducible first | exact HB.out | apply below_alloc | apply pw_below_drewN | apply below_drew1 | refine below_set ?_ GE370.out) | exact HB.out)) hb); clear HO375; clear HO378; clear BK370; clear HB; have HO375 := n0_; have HO378 := n1_; have BK370 := n2_; have HB := n3_; clear n0_ n1_ n2_ n3_; (try clear hb); (try clear hb2); (try clear hk); (try clear hi)))
          go_ret
          exact ⟨by first | rfl | (simp [errW_none, errW_some] <;> rfl) | (simp [*, errW_none, errW_some] <;> rfl), by repeat (first | (with_reducible first | exact HB.out | apply below_alloc | apply pw_below_drewN | apply below_drew1 | refine below_set ?_ GE370.out) | exact HB.out)⟩
        · rw [if_neg c14] at H
          have c14b0 : (t379 == 0) = false := beq_eq_false_iff_ne.mpr c14
          have c14b1 : (t379 != 0) = true := bne_iff_ne.mpr c14
          obtain rfl := Option.some.inj H
          go_enter Tryz.func139, Tryz.ntmps139
          go_wp2_with (first | ((with_reducible refine gate_dst (N := 1) rfl ?_); (try (refine gate_guard (by rfl) ?_; dsimp only)); refine box_event ?hg (N := 1) ?hd (cs := #[.bool a0_0, .slice A0_1 l0_1.length c0_1, .slice A0_2 l0_2.length c0_2]) (t := 44) ?hr ?_; (case hd => rfl); (case hg => rfl); (case hr => first | (go_simp; done) | (go_simp; rfl)); intro gb370 hg w24 hbox hb; have n0_ := Aside0.mk (below_step (by repeat (first | (with_reducible first | exact HB.out | apply below_alloc | apply pw_below_drewN | apply below_drew1) | exact HB.out)) hb); have n1_ := Aside0.mk (hbox); have n2_ := Aside0.mk ((by rw [hg]; exact (below_size (by repeat (first | (with_reducible first | exact HB.out | apply below_alloc | apply pw_below_drewN | apply below_drew1) | exact HB.out))) : w.heap.size ≤ gb370)); have n3_ := Aside0.mk ((by rw [hg]; exact (below_size (by repeat (first | (with_reducible first | exact HB.out | apply below_alloc | apply pw_below_drewN | apply below_drew1) | exact HB.out))) : w.heap.size ≤ gb370)); clear HB; have HB := n0_; have BK370 := n1_; have GW370 := n2_; have GE370 := n3_; clear n0_ n1_ n2_ n3_; clear hb hbox hg; have hcz25_0 : w24.cell? ⟨gb370, 0, none⟩ = some (.bool a0_0) := (blk_cell BK370.out 0).trans rfl; have hcz25_1 : w24.cell? ⟨gb370, 1, none⟩ = some (.slice A0_1 l0_1.length c0_1) := (blk_cell BK370.out 1).trans rfl; have hcz25_2 : w24.cell? ⟨gb370, 2, none⟩ = some (.slice A0_2 l0_2.length c0_2) := (blk_cell BK370.out 2).trans rfl; have hfz25_0 := blk_frozen BK370.out 0; have hfz25_1 := blk_frozen BK370.out 1; have hfz25_2 := blk_frozen BK370.out 2) | ((with_reducible refine gate_callee (f := 135) rfl ?_); refine goesL_ (some 5) rfl rfl Tryz.func135 (by kernel_rfl) rfl #[.agg #[.bool a0_0, .slice A0_1 l0_1.length c0_1]] rfl (by (try simp only [List.map_toArray, List.map_cons, List.map_nil]); first | done | rfl | (simp only [List.length_drop, List.length_take]; rfl)) ?_; (with_reducible refine (signed_Check.calls a0_0 _ _ l0_1 t371 _ ?side1 ?side2 A2.out).mono ?_); (case side1 => repeat (first | exact (Kd.C_below HR0_1.out HB.out) | (with_reducible refine Kd.C_alloc ?_ _) | (with_reducible refine Kd.C_drewN ?_ _) | (with_reducible refine Kd.C_drew ?_))); (case side2 => exact HC0_1.out); rintro e w26 ⟨rfl, hb⟩; refine ⟨_, rfl, ?_⟩; have n0_ := Aside0.mk (blk_below (g := gb370) (o := .cells #[.bool a0_0, .slice A0_1 l0_1.length c0_1, .slice A0_2 l0_2.length c0_2] 44 (0, 0)) (by (with_reducible repeat (first | refine blk_drewN ?_ _ | refine blk_drew ?_ | refine blk_alloc ?_ _)); exact BK370.out) hb); have n1_ := Aside0.mk (below_step (by repeat (first | (with_reducible first | exact HB.out | apply below_alloc | apply pw_below_drewN | apply below_drew1 | refine below_set ?_ GE370.out) | exact HB.out)) hb); clear BK370; clear HB; have BK370 := n0_; have HB := n1_; clear n0_ n1_; (try clear hb); (try clear hb2); (try clear hk); (try clear hi); have hcz27_0 : w26.cell? ⟨gb370, 0, none⟩ = some (.bool a0_0) := (blk_cell BK370.out 0).trans rfl; have hcz27_1 : w26.cell? ⟨gb370, 1, none⟩ = some (.slice A0_1 l0_1.length c0_1) := (blk_cell BK370.out 1).trans rfl; have hcz27_2 : w26.cell? ⟨gb370, 2, none⟩ = some (.slice A0_2 l0_2.length c0_2) := (blk_cell BK370.out 2).trans rfl; have hfz27_0 := blk_frozen BK370.out 0; have hfz27_1 := blk_frozen BK370.out 1; have hfz27_2 := blk_frozen BK370.out 2) | (go_at_call 192; (with_reducible refine (limbs_Check.calls _ _ l0_2 t372 _ ?side1 ?side2 A4.out).mono ?_); (case side1 => repeat (first | exact (Kd.C_below HR0_2.out HB.out) | (with_reducible refine Kd.C_alloc ?_ _) | (with_reducible refine Kd.C_drewN ?_ _) | (with_reducible refine Kd.C_drew ?_))); (case side2 => exact HC0_2.out); rintro e w' ⟨rfl, ⟨nd, rfl⟩⟩) | (go_at_call 195; (with_reducible refine (quot_Gcd.calls k _ _ l0_1 _ _ l0_2 t373 _ ?side1 ?side2 ?side3 ?side4 A11.out).mono ?_); (case side1 => repeat (first | exact (Kd.C_below HR0_1.out (by repeat (first | (with_reducible first | exact HB.out | apply below_alloc | apply pw_below_drewN | apply below_drew1 | refine below_set ?_ GE370.out) | exact HB.out))) | (with_reducible refine Kd.C_alloc ?_ _) | (with_reducible refine Kd.C_drewN ?_ _) | (with_reducible refine Kd.C_drew ?_))); (case side2 => exact HC0_1.out); (case side3 => repeat (first | exact (Kd.C_below HR0_2.out (by repeat (first | (with_reducible first | exact HB.out | apply below_alloc | apply pw_below_drewN | apply below_drew1 | refine below_set ?_ GE370.out) | exact HB.out))) | (with_reducible refine Kd.C_alloc ?_ _) | (with_reducible refine Kd.C_drewN ?_ _) | (with_reducible refine Kd.C_drew ?_))); (case side4 => exact HC0_2.out); rintro e w28 ⟨v374, rfl, ho0, hb⟩; have n0_ := Aside0.mk (Kd.R_lower ho0 (below_size (by repeat (first | (with_reducible first | exact HB.out | apply below_alloc | apply pw_below_drewN | apply below_drew1 | refine below_set ?_ GE370.out) | exact HB.out)))); have n1_ := Aside0.mk (blk_below (g := gb370) (o := .cells #[.bool a0_0, .slice A0_1 l0_1.length c0_1, .slice A0_2 l0_2.length c0_2] 44 (0, 0)) (by (with_reducible repeat (first | refine blk_drewN ?_ _ | refine blk_drew ?_ | refine blk_alloc ?_ _)); exact BK370.out) hb); have n2_ := Aside0.mk (below_step (by repeat (first | (with_reducible first | exact HB.out | apply below_alloc | apply pw_below_drewN | apply below_drew1 | refine below_set ?_ GE370.out) | exact HB.out)) hb); clear BK370; clear HB; have HO375 := n0_; have BK370 := n1_; have HB := n2_; clear n0_ n1_ n2_; (try clear hb); (try clear hb2); (try clear hk); (try clear hi); (try clear ho0)) | (go_at_call 81; (with_reducible refine (ratio_one.calls  t376 _ A12.out).mono ?_); rintro e w29 ⟨v377, rfl, ho0, hb⟩; have n0_ := Aside0.mk (Kd.R_elder' (by (with_reducible repeat (first | apply Kd.R_alloc | apply Kd.R_drewN | apply Kd.R_drew)); exact HO375.out) (Kd.R_base ho0) hb); have n1_ := Aside0.mk (Kd.R_lower (Kd.R_new' ho0 (Kd.R_lt (by (with_reducible repeat (first | apply Kd.R_alloc | apply Kd.R_drewN | apply Kd.R_drew)); exact HO375.out))) (below_size (by repeat (first | (with_reducible first | exact HB.out | apply below_alloc | apply pw_below_drewN | apply below_drew1 | refine below_set ?_ GE370.out) | exact HB.out)))); have n2_ := Aside0.mk (blk_below (g := gb370) (o := .cells #[.bool a0_0, .slice A0_1 l0_1.length c0_1, .slice A0_2 l0_2.length c0_2] 44 (0, 0)) (by (with_reducible repeat (first | refine blk_drewN ?_ _ | refine blk_drew ?_ | refine blk_alloc ?_ _)); exact BK370.out) hb); have n3_ := Aside0.mk (below_step (by repeat (first | (with_reducible first | exact HB.out | apply below_alloc | apply pw_below_drewN | apply below_drew1 | refine below_set ?_ GE370.out) | exact HB.out)) hb); clear HO375; clear BK370; clear HB; have HO375 := n0_; have HO378 := n1_; have BK370 := n2_; have HB := n3_; clear n0_ n1_ n2_ n3_; (try clear hb); (try clear hb2); (try clear hk); (try clear hi); (try clear ho0); obtain ⟨Ao30, co30, eo30⟩ := Kd.R_slice HO375.out; subst eo30; obtain ⟨Ao31, co31, eo31⟩ := Kd.R_slice HO378.out; subst eo31) | (go_at_call 198; (with_reducible refine (limbs_Cmp.calls _ _ t373 _ _ t376 t379 _ ?side1 ?side2 ?side3 ?side4 A13.out).mono ?_); (case side1 => repeat (first | exact (Kd.R_reads' HO375.out).2.2 | (with_reducible refine Kd.C_alloc ?_ _) | (with_reducible refine Kd.C_drewN ?_ _) | (with_reducible refine Kd.C_drew ?_))); (case side2 => exact (Kd.R_reads' HO375.out).2.1); (case side3 => repeat (first | exact (Kd.R_reads' HO378.out).2.2 | (with_reducible refine Kd.C_alloc ?_ _) | (with_reducible refine Kd.C_drewN ?_ _) | (with_reducible refine Kd.C_drew ?_))); (case side4 => exact (Kd.R_reads' HO378.out).2.1); rintro e w32 ⟨rfl, hb⟩; have n0_ := Aside0.mk (Kd.R_below (by (with_reducible repeat (first | apply Kd.R_alloc | apply Kd.R_drewN | apply Kd.R_drew)); exact HO375.out) hb); have n1_ := Aside0.mk (Kd.R_below (by (with_reducible repeat (first | apply Kd.R_alloc | apply Kd.R_drewN | apply Kd.R_drew)); exact HO378.out) hb); have n2_ := Aside0.mk (blk_below (g := gb370) (o := .cells #[.bool a0_0, .slice A0_1 l0_1.length c0_1, .slice A0_2 l0_2.length c0_2] 44 (0, 0)) (by (with_reducible repeat (first | refine blk_drewN ?_ _ | refine blk_drew ?_ | refine blk_alloc ?_ _)); exact BK370.out) hb); have n3_ := Aside0.mk (below_step (by repeat (first | (with_reducible first | exact HB.out | apply below_alloc | apply pw_below_drewN | apply below_drew1 | refine below_set ?_ GE370.out) | exact HB.out)) hb); clear HO375; clear HO378; clear BK370; clear HB; have HO375 := n0_; have HO378 := n1_; have BK370 := n2_; have HB := n3_; clear n0_ n1_ n2_ n3_; (try clear hb); (try clear hb2); (try clear hk); (try clear hi)))
          go_ret
          exact ⟨by first | rfl | (simp [errW_none, errW_some] <;> rfl) | (simp [*, errW_none, errW_some] <;> rfl), by repeat (first | (with_reducible first | exact HB.out | apply below_alloc | apply pw_below_drewN | apply below_drew1 | refine below_set ?_ GE370.out) | exact HB.out)⟩
    · rw [if_neg c5] at H
      have c5b0 : (t372 == 0) = false := beq_eq_false_iff_ne.mpr c5
      have c5b1 : (t372 != 0) = true := bne_iff_ne.mpr c5
      obtain rfl := Option.some.inj H
      go_enter Tryz.func139, Tryz.ntmps139
      go_wp2_with (first | ((with_reducible refine gate_dst (N := 1) rfl ?_); (try (refine gate_guard (by rfl) ?_; dsimp only)); refine box_event ?hg (N := 1) ?hd (cs := #[.bool a0_0, .slice A0_1 l0_1.length c0_1, .slice A0_2 l0_2.length c0_2]) (t := 44) ?hr ?_; (case hd => rfl); (case hg => rfl); (case hr => first | (go_simp; done) | (go_simp; rfl)); intro gb370 hg w33 hbox hb; have n0_ := Aside0.mk (below_step (by repeat (first | (with_reducible first | exact HB.out | apply below_alloc | apply pw_below_drewN | apply below_drew1) | exact HB.out)) hb); have n1_ := Aside0.mk (hbox); have n2_ := Aside0.mk ((by rw [hg]; exact (below_size (by repeat (first | (with_reducible first | exact HB.out | apply below_alloc | apply pw_below_drewN | apply below_drew1) | exact HB.out))) : w.heap.size ≤ gb370)); have n3_ := Aside0.mk ((by rw [hg]; exact (below_size (by repeat (first | (with_reducible first | exact HB.out | apply below_alloc | apply pw_below_drewN | apply below_drew1) | exact HB.out))) : w.heap.size ≤ gb370)); clear HB; have HB := n0_; have BK370 := n1_; have GW370 := n2_; have GE370 := n3_; clear n0_ n1_ n2_ n3_; clear hb hbox hg; have hcz34_0 : w33.cell? ⟨gb370, 0, none⟩ = some (.bool a0_0) := (blk_cell BK370.out 0).trans rfl; have hcz34_1 : w33.cell? ⟨gb370, 1, none⟩ = some (.slice A0_1 l0_1.length c0_1) := (blk_cell BK370.out 1).trans rfl; have hcz34_2 : w33.cell? ⟨gb370, 2, none⟩ = some (.slice A0_2 l0_2.length c0_2) := (blk_cell BK370.out 2).trans rfl; have hfz34_0 := blk_frozen BK370.out 0; have hfz34_1 := blk_frozen BK370.out 1; have hfz34_2 := blk_frozen BK370.out 2) | ((with_reducible refine gate_callee (f := 135) rfl ?_); refine goesL_ (some 5) rfl rfl Tryz.func135 (by kernel_rfl) rfl #[.agg #[.bool a0_0, .slice A0_1 l0_1.length c0_1]] rfl (by (try simp only [List.map_toArray, List.map_cons, List.map_nil]); first | done | rfl | (simp only [List.length_drop, List.length_take]; rfl)) ?_; (with_reducible refine (signed_Check.calls a0_0 _ _ l0_1 t371 _ ?side1 ?side2 A2.out).mono ?_); (case side1 => repeat (first | exact (Kd.C_below HR0_1.out HB.out) | (with_reducible refine Kd.C_alloc ?_ _) | (with_reducible refine Kd.C_drewN ?_ _) | (with_reducible refine Kd.C_drew ?_))); (case side2 => exact HC0_1.out); rintro e w35 ⟨rfl, hb⟩; refine ⟨_, rfl, ?_⟩; have n0_ := Aside0.mk (blk_below (g := gb370) (o := .cells #[.bool a0_0, .slice A0_1 l0_1.length c0_1, .slice A0_2 l0_2.length c0_2] 44 (0, 0)) (by (with_reducible repeat (first | refine blk_drewN ?_ _ | refine blk_drew ?_ | refine blk_alloc ?_ _)); exact BK370.out) hb); have n1_ := Aside0.mk (below_step (by repeat (first | (with_reducible first | exact HB.out | apply below_alloc | apply pw_below_drewN | apply below_drew1 | refine below_set ?_ GE370.out) | exact HB.out)) hb); clear BK370; clear HB; have BK370 := n0_; have HB := n1_; clear n0_ n1_; (try clear hb); (try clear hb2); (try clear hk); (try clear hi); have hcz36_0 : w35.cell? ⟨gb370, 0, none⟩ = some (.bool a0_0) := (blk_cell BK370.out 0).trans rfl; have hcz36_1 : w35.cell? ⟨gb370, 1, none⟩ = some (.slice A0_1 l0_1.length c0_1) := (blk_cell BK370.out 1).trans rfl; have hcz36_2 : w35.cell? ⟨gb370, 2, none⟩ = some (.slice A0_2 l0_2.length c0_2) := (blk_cell BK370.out 2).trans rfl; have hfz36_0 := blk_frozen BK370.out 0; have hfz36_1 := blk_frozen BK370.out 1; have hfz36_2 := blk_frozen BK370.out 2) | (go_at_call 192; (with_reducible refine (limbs_Check.calls _ _ l0_2 t372 _ ?side1 ?side2 A4.out).mono ?_); (case side1 => repeat (first | exact (Kd.C_below HR0_2.out HB.out) | (with_reducible refine Kd.C_alloc ?_ _) | (with_reducible refine Kd.C_drewN ?_ _) | (with_reducible refine Kd.C_drew ?_))); (case side2 => exact HC0_2.out); rintro e w' ⟨rfl, ⟨nd, rfl⟩⟩))
      go_ret
      exact ⟨by first | rfl | (simp [errW_none, errW_some] <;> rfl) | (simp [*, errW_none, errW_some] <;> rfl), by repeat (first | (with_reducible first | exact HB.out | apply below_alloc | apply pw_below_drewN | apply below_drew1 | refine below_set ?_ GE370.out) | exact HB.out)⟩
  · rw [if_neg c3] at H
    have c3b0 : (t371 == 0) = false := beq_eq_false_iff_ne.mpr c3
    have c3b1 : (t371 != 0) = true := bne_iff_ne.mpr c3
    obtain rfl := Option.some.inj H
    go_enter Tryz.func139, Tryz.ntmps139
    go_wp2_with (first | ((with_reducible refine gate_dst (N := 1) rfl ?_); (try (refine gate_guard (by rfl) ?_; dsimp only)); refine box_event ?hg (N := 1) ?hd (cs := #[.bool a0_0, .slice A0_1 l0_1.length c0_1, .slice A0_2 l0_2.length c0_2]) (t := 44) ?hr ?_; (case hd => rfl); (case hg => rfl); (case hr => first | (go_simp; done) | (go_simp; rfl)); intro gb370 hg w37 hbox hb; have n0_ := Aside0.mk (below_step (by repeat (first | (with_reducible first | exact HB.out | apply below_alloc | apply pw_below_drewN | apply below_drew1) | exact HB.out)) hb); have n1_ := Aside0.mk (hbox); have n2_ := Aside0.mk ((by rw [hg]; exact (below_size (by repeat (first | (with_reducible first | exact HB.out | apply below_alloc | apply pw_below_drewN | apply below_drew1) | exact HB.out))) : w.heap.size ≤ gb370)); have n3_ := Aside0.mk ((by rw [hg]; exact (below_size (by repeat (first | (with_reducible first | exact HB.out | apply below_alloc | apply pw_below_drewN | apply below_drew1) | exact HB.out))) : w.heap.size ≤ gb370)); clear HB; have HB := n0_; have BK370 := n1_; have GW370 := n2_; have GE370 := n3_; clear n0_ n1_ n2_ n3_; clear hb hbox hg; have hcz38_0 : w37.cell? ⟨gb370, 0, none⟩ = some (.bool a0_0) := (blk_cell BK370.out 0).trans rfl; have hcz38_1 : w37.cell? ⟨gb370, 1, none⟩ = some (.slice A0_1 l0_1.length c0_1) := (blk_cell BK370.out 1).trans rfl; have hcz38_2 : w37.cell? ⟨gb370, 2, none⟩ = some (.slice A0_2 l0_2.length c0_2) := (blk_cell BK370.out 2).trans rfl; have hfz38_0 := blk_frozen BK370.out 0; have hfz38_1 := blk_frozen BK370.out 1; have hfz38_2 := blk_frozen BK370.out 2) | ((with_reducible refine gate_callee (f := 135) rfl ?_); refine goesL_ (some 5) rfl rfl Tryz.func135 (by kernel_rfl) rfl #[.agg #[.bool a0_0, .slice A0_1 l0_1.length c0_1]] rfl (by (try simp only [List.map_toArray, List.map_cons, List.map_nil]); first | done | rfl | (simp only [List.length_drop, List.length_take]; rfl)) ?_; (with_reducible refine (signed_Check.calls a0_0 _ _ l0_1 t371 _ ?side1 ?side2 A2.out).mono ?_); (case side1 => repeat (first | exact (Kd.C_below HR0_1.out HB.out) | (with_reducible refine Kd.C_alloc ?_ _) | (with_reducible refine Kd.C_drewN ?_ _) | (with_reducible refine Kd.C_drew ?_))); (case side2 => exact HC0_1.out); rintro e w39 ⟨rfl, hb⟩; refine ⟨_, rfl, ?_⟩; have n0_ := Aside0.mk (blk_below (g := gb370) (o := .cells #[.bool a0_0, .slice A0_1 l0_1.length c0_1, .slice A0_2 l0_2.length c0_2] 44 (0, 0)) (by (with_reducible repeat (first | refine blk_drewN ?_ _ | refine blk_drew ?_ | refine blk_alloc ?_ _)); exact BK370.out) hb); have n1_ := Aside0.mk (below_step (by repeat (first | (with_reducible first | exact HB.out | apply below_alloc | apply pw_below_drewN | apply below_drew1 | refine below_set ?_ GE370.out) | exact HB.out)) hb); clear BK370; clear HB; have BK370 := n0_; have HB := n1_; clear n0_ n1_; (try clear hb); (try clear hb2); (try clear hk); (try clear hi)))
    go_ret
    exact ⟨by first | rfl | (simp [errW_none, errW_some] <;> rfl) | (simp [*, errW_none, errW_some] <;> rfl), by repeat (first | (with_reducible first | exact HB.out | apply below_alloc | apply pw_below_drewN | apply below_drew1 | refine below_set ?_ GE370.out) | exact HB.out)⟩
def times_halves.f (l0 l1 : List Int) (a2 : Int) : Option (List Int) := if min (trim l0).length (trim l1).length < max a2.toNat 4 then times_School.f l0 l1 else none
theorem times_School.f_trim {l0 l1 r : List Int} (h : times_School.f l0 l1 = some r) : times_School.f (trim l0) (trim l1) = some r ∧ okd l0 = true ∧ okd l1 = true ∧ l0.length < 1099511627776 ∧ l1.length < 1099511627776 := by
  unfold times_School.f at h ⊢
  have h1 := trim_length_le l0
  have h2 := trim_length_le l1
  by_cases hc : okd l0 = true ∧ okd l1 = true ∧ l0.length < 1099511627776 ∧ l1.length < 1099511627776
  · rw [if_pos hc] at h
    rw [if_pos ⟨okd_trim hc.1, okd_trim hc.2.1, by omega, by omega⟩, val_trim, val_trim]
    exact ⟨h, hc⟩
  · rw [if_neg hc] at h
    cases h
set_option maxRecDepth 100000 in
set_option maxHeartbeats 4000000 in
theorem times_halves.walk (A0 : Option Addr) (c0 : Nat) (l0 : List Int) (A1 : Option Addr) (c1 : Nat) (l1 : List Int) (a2 : Int) (r : List Int) (B : Nat) (p : Value) (w : World) (hb : w.cell? ⟨B, 0, none⟩ = some (.int .i64 a2))
    (hr0 : Kd.C (Kd.int .u64) w A0 l0.length l0) (hc0 : l0.length ≤ c0) (hr1 : Kd.C (Kd.int .u64) w A1 l1.length l1) (hc1 : l1.length ≤ c1) (hmin : min (trim l0).length (trim l1).length < max a2.toNat 4) (h : times_School.f l0 l1 = some r) :
    Calls Tryz.prog 241 #[.slice A0 l0.length c0, .slice A1 l1.length c1, .pointer (some ⟨B, 0, none⟩), p] w fun e w' => ∃ v0_ : Value, e = .returned (v0_) ∧ Kd.R (Kd.int .u64) 112 w' w.heap.size (fun _ => True) v0_ r ∧ Below w.heap.size w w' := by
  obtain ⟨h, ho0, ho1, hs0, hs1⟩ := times_School.f_trim h
  have ht0 := trim_length_le l0
  have ht1 := trim_length_le l1
  have T0 := Aside0.mk (limbs_Trim.spec (k := l0.length + 1) (l := l0) (by omega) (by omega))
  have T1 := Aside0.mk (limbs_Trim.spec (k := l1.length + 1) (l := l1) (by omega) (by omega))
  obtain ⟨a, ha⟩ : ∃ a, trim l0 = a := ⟨_, rfl⟩
  obtain ⟨b, hbb⟩ : ∃ b, trim l1 = b := ⟨_, rfl⟩
  rw [ha] at T0 ht0 h hmin
  rw [hbb] at T1 ht1 h hmin
  obtain ⟨m1, hm1⟩ : ∃ m1 : Int, (if (b.length : Int) < (a.length : Int) then (b.length : Int) else (a.length : Int)) = m1 := ⟨_, rfl⟩
  have hm1n : (if b.length < a.length then (b.length : Int) else (a.length : Int)) = m1 := by rw [← hm1]; by_cases hh : b.length < a.length <;> simp [hh]
  obtain ⟨m2, hm2⟩ : ∃ m2 : Int, (if a2 < 4 then 4 else a2) = m2 := ⟨_, rfl⟩
  have hlt12 : decide (m1 < m2) = true := by
    apply decide_eq_true
    rw [← hm1, ← hm2]
    split <;> split <;> omega
  have HR0 := Aside0.mk hr0
  have HR1 := Aside0.mk hr1
  have HC0 := Aside0.mk hc0
  have HC1 := Aside0.mk hc1
  have H := Aside0.mk h
  clear hr0 hr1 hc0 hc1 h ha hbb ho0 ho1 hmin
  have hlt : B < w.heap.size := World.block_lt_of_cell? w _ hb
  go_enter Tryz.func241, Tryz.ntmps241
  go_wp2_with (first | ((with_reducible refine gate_callee (f := 138) rfl ?_); refine goesL_ (some 17) rfl rfl Tryz.func138 (by kernel_rfl) rfl #[.slice A0 l0.length c0] rfl (by (try simp only [List.map_toArray, List.map_cons, List.map_nil]); first | done | rfl) ?_; (with_reducible refine (limbs_Trim.calls (l0.length + 1) A0 c0 l0 a _ HR0.out HC0.out T0.out).mono ?_); rintro e w1 ⟨va, rfl, hva, hb1⟩; obtain ⟨Aa, ca, rfl⟩ := Kd.R_slice hva; refine ⟨_, rfl, ?_⟩; have HVA := Aside0.mk hva; have HB1 := Aside0.mk hb1; clear hva hb1) | ((with_reducible refine gate_callee (f := 138) rfl ?_); refine goesL_ (some 19) rfl rfl Tryz.func138 (by kernel_rfl) rfl #[.slice A1 l1.length c1] rfl (by (try simp only [List.map_toArray, List.map_cons, List.map_nil]); first | done | rfl) ?_; (with_reducible refine (limbs_Trim.calls (l1.length + 1) A1 c1 l1 b _ (Kd.C_below HR1.out HB1.out) HC1.out T1.out).mono ?_); rintro e w2 ⟨vb, rfl, hvb, hb2⟩; obtain ⟨Ab, cb, rfl⟩ := Kd.R_slice hvb; refine ⟨_, rfl, ?_⟩; have HVB := Aside0.mk hvb; have HB2 := Aside0.mk hb2; have hcell := (HB2.out.cell (p := ⟨B, 0, none⟩) (Nat.lt_of_lt_of_le hlt HB1.out.size)).trans ((HB1.out.cell (p := ⟨B, 0, none⟩) hlt).trans hb); clear hvb hb2) | ((with_reducible refine gate_callee (f := 158) rfl ?_); refine goesL_ (some 30) rfl rfl Tryz.func158 (by kernel_rfl) rfl #[.slice Aa a.length ca, .slice Ab b.length cb] rfl (by (try simp only [List.map_toArray, List.map_cons, List.map_nil]); first | done | rfl) ?_; (with_reducible refine (times_School.calls Aa ca a Ab cb b r _ (Kd.R_reads' (Kd.R_below HVA.out HB2.out)).2.2 (Kd.R_reads' HVA.out).2.1 (Kd.R_reads' HVB.out).2.2 (Kd.R_reads' HVB.out).2.1 H.out).mono ?_); rintro e w3 ⟨vr, rfl, hvr, hb3⟩; refine ⟨_, rfl, ?_⟩; have HVR := Aside0.mk hvr; have HB3 := Aside0.mk hb3; clear hvr hb3))
  go_ret
  have hbz := HB1.out.trans (HB2.out.mono HB1.out.size)
  exact ⟨_, rfl, Kd.R_lower HVR.out hbz.size, hbz.trans (HB3.out.mono hbz.size)⟩
theorem times_halves.calls (A0 : Option Addr) (c0 : Nat) (l0 : List Int) (A1 : Option Addr) (c1 : Nat) (l1 : List Int) (a2 : Int) (r : List Int) (w : World) (hr0 : Kd.C (Kd.int .u64) w A0 l0.length l0) (hc0 : l0.length ≤ c0) (hr1 : Kd.C (Kd.int .u64) w A1 l1.length l1) (hc1 : l1.length ≤ c1) (h : times_halves.f l0 l1 a2 = some r) :
    Calls Tryz.prog 205 #[.slice A0 l0.length c0, .slice A1 l1.length c1, .int .i64 a2] w fun e w' => ∃ v0_ : Value, e = .returned (v0_) ∧ Kd.R (Kd.int .u64) 112 w' w.heap.size (fun _ => True) v0_ r ∧ Below w.heap.size w w' := by
  unfold times_halves.f at h
  by_cases hm : min (trim l0).length (trim l1).length < max a2.toNat 4
  · rw [if_pos hm] at h
    have HR0 := Aside0.mk hr0
    have HR1 := Aside0.mk hr1
    have HC0 := Aside0.mk hc0
    have HC1 := Aside0.mk hc1
    have H := Aside0.mk h
    have HM := Aside0.mk hm
    clear hr0 hr1 hc0 hc1 h hm
    go_enter Tryz.func205, Tryz.ntmps205
    go_wp2_with (go_at_call 241; (with_reducible refine (times_halves.walk A0 c0 l0 A1 c1 l1 a2 r _ _ _ (q_old _ (q_new rfl rfl)) (Kd.C_alloc (Kd.C_alloc HR0.out _) _) HC0.out (Kd.C_alloc (Kd.C_alloc HR1.out _) _) HC1.out HM.out H.out).mono ?_); rintro e w3 ⟨vr, rfl, hvr, hb3⟩; have HVR := Aside0.mk hvr; have HB3 := Aside0.mk hb3; clear hvr hb3)
    go_ret
    have hbz : Below w.heap.size w ((w.alloc (.cells #[.int .i64 a2] 3)).alloc (.cells #[.func (.func 241) #[] #[.pointer (some ⟨w.heap.size, 0, none⟩), .pointer (some ⟨w.heap.size + 1, 0, none⟩)]] 174)) := below_alloc (below_alloc (Below.refl _ _) _) _
    exact ⟨_, rfl, Kd.R_lower HVR.out hbz.size, hbz.trans (HB3.out.mono hbz.size)⟩
  · rw [if_neg hm] at h
    cases h
def times_Mul.f (l0 : List Int) (l1 : List Int) : Option (List Int) := (times_halves.f l0 l1 32).bind fun t380 => (some t380)
set_option maxHeartbeats 8000000 in
set_option maxRecDepth 100000 in
theorem times_Mul.calls (A0 : Option Addr) (c0 : Nat) (l0 : List Int) (A1 : Option Addr) (c1 : Nat) (l1 : List Int) (r : List Int) (w : World) (hr0 : Kd.C (Kd.int .u64) w A0 l0.length l0) (hc0 : l0.length ≤ c0) (hr1 : Kd.C (Kd.int .u64) w A1 l1.length l1) (hc1 : l1.length ≤ c1) (h : times_Mul.f l0 l1 = some r) :
    Calls Tryz.prog 153 #[.slice A0 l0.length c0, .slice A1 l1.length c1] w fun e w' => ∃ v0_ : Value, e = .returned (v0_) ∧ Kd.R (Kd.int .u64) 112 w' w.heap.size (fun _ => True) v0_ r ∧ Below w.heap.size w w' := by
  have HR0 := Aside0.mk hr0
  have HC0 := Aside0.mk hc0
  clear hr0 hc0
  have HR1 := Aside0.mk hr1
  have HC1 := Aside0.mk hc1
  clear hr1 hc1
  have HB := Aside0.mk (Below.refl w.heap.size w)
  have H : ((times_halves.f l0 l1 32).bind fun t380 => (some t380)) = some r := h
  clear h
  replace H := Option.bind_eq_some_iff.mp H
  obtain ⟨t380, A30, H⟩ := H
  replace H : (some t380) = some r := H
  have A3 := Aside0.mk A30
  clear A30
  obtain rfl := Option.some.inj H
  go_enter Tryz.func153, Tryz.ntmps153
  go_wp2_with (first | ((with_reducible refine gate_callee (f := 205) rfl ?_); refine goesL_ (some 7) rfl rfl Tryz.func205 (by kernel_rfl) rfl #[.slice A0 l0.length c0, .slice A1 l1.length c1, .int .i64 32] rfl (by (try simp only [List.map_toArray, List.map_cons, List.map_nil]); first | done | rfl | (simp only [List.length_drop, List.length_take]; rfl)) ?_; (with_reducible refine (times_halves.calls _ _ l0 _ _ l1 32 t380 _ ?side1 ?side2 ?side3 ?side4 A3.out).mono ?_); (case side1 => repeat (first | exact HR0.out | (with_reducible refine Kd.C_alloc ?_ _) | (with_reducible refine Kd.C_drewN ?_ _) | (with_reducible refine Kd.C_drew ?_))); (case side2 => exact HC0.out); (case side3 => repeat (first | exact HR1.out | (with_reducible refine Kd.C_alloc ?_ _) | (with_reducible refine Kd.C_drewN ?_ _) | (with_reducible refine Kd.C_drew ?_))); (case side4 => exact HC1.out); rintro e w4 ⟨v381, rfl, ho0, hb⟩; refine ⟨_, rfl, ?_⟩; have n0_ := Aside0.mk (Kd.R_lower ho0 (below_size (by repeat (first | (with_reducible first | exact HB.out | apply below_alloc | apply pw_below_drewN | apply below_drew1) | exact HB.out)))); have n1_ := Aside0.mk (below_step (by repeat (first | (with_reducible first | exact HB.out | apply below_alloc | apply pw_below_drewN | apply below_drew1) | exact HB.out)) hb); clear HB; have HO382 := n0_; have HB := n1_; clear n0_ n1_; (try clear hb); (try clear hb2); (try clear hk); (try clear hi); (try clear ho0)))
  go_ret
  exact ⟨_, by first | rfl | (simp [errW_none, errW_some] <;> rfl) | (simp [*, errW_none, errW_some] <;> rfl), by (with_reducible repeat (first | apply Kd.R_alloc | apply Kd.R_drewN | apply Kd.R_drew)); exact HO382.out, by repeat (first | (with_reducible first | exact HB.out | apply below_alloc | apply pw_below_drewN | apply below_drew1) | exact HB.out)⟩
def signed_Mul.f (k : Nat) (a0_0 : Bool) (l0_1 : List Int) (a1_0 : Bool) (l1_1 : List Int) : Option (Bool × List Int) := (times_Mul.f l0_1 l1_1).bind fun t635 => ((signed_Make.f k (a0_0 != a1_0) t635).bind fun bt638 => (some (bt638.1, bt638.2)))
def signed_Mul.T1 : Bool × List (List Nat × List Nat) := (true, [([], []), ([0], [0]), ([], []), ([2], [2]), ([1, 3], [1, 3]), ([], []), ([5], [5]), ([], []), ([7], [7]), ([6, 8], [6, 8]), ([4, 9, 9], [4, 9]), ([10, 10, 0, 1, 2, 3, 4, 5, 6, 7, 8, 9, 10], [10])])
def signed_Mul.B1 : List Nat := [0, 1, 0, 4, 15, 0, 32, 0, 128, 480, 1023, 2047]
theorem signed_Mul.tab1 : rtab .any (opsOf Tryz.f152 1) = signed_Mul.T1 := by kernel_rfl
theorem signed_Mul.bits1 : waitsOk signed_Mul.T1.2 signed_Mul.B1 = true := by kernel_rfl
set_option maxHeartbeats 8000000 in
set_option maxRecDepth 100000 in
theorem signed_Mul.calls (k : Nat) (a0_0 : Bool) (A0_1 : Option Addr) (c0_1 : Nat) (l0_1 : List Int) (a1_0 : Bool) (A1_1 : Option Addr) (c1_1 : Nat) (l1_1 : List Int) (r1 : Bool) (r2 : List Int) (w : World) (hr0_1 : Kd.C (Kd.int .u64) w A0_1 l0_1.length l0_1) (hc0_1 : l0_1.length ≤ c0_1) (hr1_1 : Kd.C (Kd.int .u64) w A1_1 l1_1.length l1_1) (hc1_1 : l1_1.length ≤ c1_1) (h : signed_Mul.f k a0_0 l0_1 a1_0 l1_1 = some (r1, r2)) :
    Calls Tryz.prog 152 #[.agg #[.bool a0_0, .slice A0_1 l0_1.length c0_1], .agg #[.bool a1_0, .slice A1_1 l1_1.length c1_1]] w fun e w' => ∃ v1_ : Value, e = .returned (.agg #[.bool r1, v1_]) ∧ Kd.R (Kd.int .u64) 112 w' w.heap.size (fun _ => True) v1_ r2 ∧ Below w.heap.size w w' := by
  have hu42 := Tryz.underlying42
  have HR0_1 := Aside0.mk hr0_1
  have HC0_1 := Aside0.mk hc0_1
  clear hr0_1 hc0_1
  have HR1_1 := Aside0.mk hr1_1
  have HC1_1 := Aside0.mk hc1_1
  clear hr1_1 hc1_1
  have HB := Aside0.mk (Below.refl w.heap.size w)
  have H : ((times_Mul.f l0_1 l1_1).bind fun t635 => ((signed_Make.f k (a0_0 != a1_0) t635).bind fun bt638 => (some (bt638.1, bt638.2)))) = some (r1, r2) := h
  clear h
  replace H := Option.bind_eq_some_iff.mp H
  obtain ⟨t635, A30, H⟩ := H
  replace H : ((signed_Make.f k (a0_0 != a1_0) t635).bind fun bt638 => (some (bt638.1, bt638.2))) = some (r1, r2) := H
  have A3 := Aside0.mk A30
  clear A30
  replace H := Option.bind_eq_some_iff.mp H
  obtain ⟨⟨t638, t639⟩, A40, H⟩ := H
  replace H : (some (t638, t639)) = some (r1, r2) := H
  have A4 := Aside0.mk A40
  clear A40
  simp only [Option.some.injEq, Prod.mk.injEq] at H
  obtain ⟨rfl, rfl⟩ := H
  go_enter Tryz.func152, Tryz.ntmps152
  try go_wp2_with (first | ((with_reducible refine gate_dst (N := 2) rfl ?_); refine box_event ?hg (N := 2) ?hd (cs := #[.bool a0_0, .slice A0_1 l0_1.length c0_1]) (t := 42) ?hr ?_; (case hd => rfl); (case hg => rfl); (case hr => first | (go_simp; done) | (go_simp; rfl)); intro gb632 hg w5 hbox hb; have n0_ := Aside0.mk (below_step (by repeat (first | (with_reducible first | exact HB.out | apply below_alloc | apply pw_below_drewN | apply below_drew1) | exact HB.out)) hb); have n1_ := Aside0.mk (hbox); have n2_ := Aside0.mk ((by rw [hg]; exact (below_size (by repeat (first | (with_reducible first | exact HB.out | apply below_alloc | apply pw_below_drewN | apply below_drew1) | exact HB.out))) : w.heap.size ≤ gb632)); have n3_ := Aside0.mk ((by rw [hg]; exact (below_size (by repeat (first | (with_reducible first | exact HB.out | apply below_alloc | apply pw_below_drewN | apply below_drew1) | exact HB.out))) : w.heap.size ≤ gb632)); clear HB; have HB := n0_; have BK632 := n1_; have GW632 := n2_; have GE632 := n3_; clear n0_ n1_ n2_ n3_; clear hb hbox hg) | ((with_reducible refine gate_dst (N := 3) rfl ?_); refine box_event ?hg (N := 3) ?hd (cs := #[.bool a1_0, .slice A1_1 l1_1.length c1_1]) (t := 42) ?hr ?_; (case hd => rfl); (case hg => rfl); (case hr => first | (go_simp; done) | (go_simp; rfl)); intro gb633 hg w6 hbox hb; have n0_ := Aside0.mk (blk_below (g := gb632) (o := .cells #[.bool a0_0, .slice A0_1 l0_1.length c0_1] 42 (0, 0)) (by (with_reducible repeat (first | refine blk_drewN ?_ _ | refine blk_drew ?_ | refine blk_alloc ?_ _)); exact BK632.out) hb); have n1_ := Aside0.mk (below_step (by repeat (first | (with_reducible first | exact HB.out | apply below_alloc | apply pw_below_drewN | apply below_drew1 | refine below_set ?_ GE632.out) | exact HB.out)) hb); have n2_ := Aside0.mk (hbox); have n3_ := Aside0.mk ((by rw [hg]; exact (below_size (by repeat (first | (with_reducible first | exact HB.out | apply below_alloc | apply pw_below_drewN | apply below_drew1 | refine below_set ?_ GE632.out) | exact HB.out))) : w.heap.size ≤ gb633)); have n4_ := Aside0.mk ((by rw [hg]; exact (below_size (by repeat (first | (with_reducible first | exact HB.out | apply below_alloc | apply pw_below_drewN | apply below_drew1 | refine below_set ?_ GE632.out) | exact HB.out))) : w.heap.size ≤ gb633)); have n5_ := Aside0.mk ((by rw [hg]; exact Nat.ne_of_lt (blk_lt (g := gb632) (o := .cells #[.bool a0_0, .slice A0_1 l0_1.length c0_1] 42 (0, 0)) (by (with_reducible repeat (first | refine blk_drewN ?_ _ | refine blk_drew ?_ | refine blk_alloc ?_ _)); exact BK632.out)) : gb632 ≠ gb633)); have n6_ := Aside0.mk ((by rw [hg]; exact Nat.ne_of_gt (blk_lt (g := gb632) (o := .cells #[.bool a0_0, .slice A0_1 l0_1.length c0_1] 42 (0, 0)) (by (with_reducible repeat (first | refine blk_drewN ?_ _ | refine blk_drew ?_ | refine blk_alloc ?_ _)); exact BK632.out)) : gb633 ≠ gb632)); clear BK632; clear HB; have BK632 := n0_; have HB := n1_; have BK633 := n2_; have GW633 := n3_; have GE633 := n4_; have NB632_633 := n5_; have NB633_632 := n6_; clear n0_ n1_ n2_ n3_ n4_ n5_ n6_; clear hb hbox hg) | ((with_reducible refine gate_dst (N := 4) rfl ?_); refine box_event ?hg (N := 4) ?hd (cs := #[.bool false, .slice none 0 0]) (t := 42) ?hr ?_; (case hd => rfl); (case hg => rfl); (case hr => first | (go_simp; done) | (go_simp; rfl)); intro gb634 hg w7 hbox hb; have n0_ := Aside0.mk (blk_below (g := gb632) (o := .cells #[.bool a0_0, .slice A0_1 l0_1.length c0_1] 42 (0, 0)) (by (with_reducible repeat (first | refine blk_drewN ?_ _ | refine blk_drew ?_ | refine blk_alloc ?_ _)); exact BK632.out) hb); have n1_ := Aside0.mk (blk_below (g := gb633) (o := .cells #[.bool a1_0, .slice A1_1 l1_1.length c1_1] 42 (0, 0)) (by (with_reducible repeat (first | refine blk_drewN ?_ _ | refine blk_drew ?_ | refine blk_alloc ?_ _)); exact BK633.out) hb); have n2_ := Aside0.mk (below_step (by repeat (first | (with_reducible first | exact HB.out | apply below_alloc | apply pw_below_drewN | apply below_drew1 | refine below_set ?_ GE632.out | refine below_set ?_ GE633.out) | exact HB.out)) hb); have n3_ := Aside0.mk (hbox); have n4_ := Aside0.mk ((by rw [hg]; exact (below_size (by repeat (first | (with_reducible first | exact HB.out | apply below_alloc | apply pw_below_drewN | apply below_drew1 | refine below_set ?_ GE632.out | refine below_set ?_ GE633.out) | exact HB.out))) : w.heap.size ≤ gb634)); have n5_ := Aside0.mk ((by rw [hg]; exact (below_size (by repeat (first | (with_reducible first | exact HB.out | apply below_alloc | apply pw_below_drewN | apply below_drew1 | refine below_set ?_ GE632.out | refine below_set ?_ GE633.out) | exact HB.out))) : w.heap.size ≤ gb634)); have n6_ := Aside0.mk ((by rw [hg]; exact Nat.ne_of_lt (blk_lt (g := gb632) (o := .cells #[.bool a0_0, .slice A0_1 l0_1.length c0_1] 42 (0, 0)) (by (with_reducible repeat (first | refine blk_drewN ?_ _ | refine blk_drew ?_ | refine blk_alloc ?_ _)); exact BK632.out)) : gb632 ≠ gb634)); have n7_ := Aside0.mk ((by rw [hg]; exact Nat.ne_of_gt (blk_lt (g := gb632) (o := .cells #[.bool a0_0, .slice A0_1 l0_1.length c0_1] 42 (0, 0)) (by (with_reducible repeat (first | refine blk_drewN ?_ _ | refine blk_drew ?_ | refine blk_alloc ?_ _)); exact BK632.out)) : gb634 ≠ gb632)); have n8_ := Aside0.mk ((by rw [hg]; exact Nat.ne_of_lt (blk_lt (g := gb633) (o := .cells #[.bool a1_0, .slice A1_1 l1_1.length c1_1] 42 (0, 0)) (by (with_reducible repeat (first | refine blk_drewN ?_ _ | refine blk_drew ?_ | refine blk_alloc ?_ _)); exact BK633.out)) : gb633 ≠ gb634)); have n9_ := Aside0.mk ((by rw [hg]; exact Nat.ne_of_gt (blk_lt (g := gb633) (o := .cells #[.bool a1_0, .slice A1_1 l1_1.length c1_1] 42 (0, 0)) (by (with_reducible repeat (first | refine blk_drewN ?_ _ | refine blk_drew ?_ | refine blk_alloc ?_ _)); exact BK633.out)) : gb634 ≠ gb633)); clear BK632; clear BK633; clear HB; have BK632 := n0_; have BK633 := n1_; have HB := n2_; have BK634 := n3_; have GW634 := n4_; have GE634 := n5_; have NB632_634 := n6_; have NB634_632 := n7_; have NB633_634 := n8_; have NB634_633 := n9_; clear n0_ n1_ n2_ n3_ n4_ n5_ n6_ n7_ n8_ n9_; clear hb hbox hg))
  have n0_ := Aside0.mk (blk_drew BK632.out)
  have n1_ := Aside0.mk (blk_drew BK633.out)
  have n2_ := Aside0.mk (blk_drew BK634.out)
  have n3_ := Aside0.mk (below_drew1 HB.out)
  clear BK632
  clear BK633
  clear BK634
  clear HB
  have BK632 := n0_
  have BK633 := n1_
  have BK634 := n2_
  have HB := n3_
  clear n0_ n1_ n2_ n3_
  refine start_ (n := 12) (S := fun w' => w'.cell? ⟨gb632, 0, none⟩ = some (.bool a0_0) ∧ w'.cell? ⟨gb632, 1, none⟩ = some (.slice A0_1 l0_1.length c0_1) ∧ w'.cell? ⟨gb633, 0, none⟩ = some (.bool a1_0) ∧ w'.cell? ⟨gb633, 1, none⟩ = some (.slice A1_1 l1_1.length c1_1)) (ds := []) #[false, false, false, false, false, false, false, false, false, false, false, false] (by kernel_rfl) rfl rfl ⟨(blk_cell BK632.out 0).trans rfl, (blk_cell BK632.out 1).trans rfl, (blk_cell BK633.out 0).trans rfl, (blk_cell BK633.out 1).trans rfl⟩ (fun hHeld => ?_); refine with_tabW signed_Mul.tab1 signed_Mul.bits1 (fun HT_ HW_ => ?_)
  generalize w7.drew = w8 at BK632 BK633 BK634 HB hHeld ⊢
  refine pure_ (i := 0) (N := some 5) (v := ?_) (a' := ?_) #[true, false, false, false, false, false, false, false, false, false, false, false] rfl rfl (any_of HT_.out (by kernel_rfl)) (fun _ _ _ h => h) (Or.inl ⟨by rfl, ?_⟩) ?_ ?_
  rotate_left
  · intro w'
    go_simp
    with_reducible rfl
  rotate_left
  · simp only [Act.put, List.setIfInBounds_toArray, List.set_cons_zero, List.set_cons_succ, i64_w, i32_w]
    rfl
  refine pure_ (i := 2) (N := some 7) (v := ?_) (a' := ?_) #[true, false, true, false, false, false, false, false, false, false, false, false] rfl rfl (any_of HT_.out (by kernel_rfl)) (fun _ _ _ h => h) (Or.inl ⟨by rfl, ?_⟩) ?_ ?_
  rotate_left
  · intro w'
    go_simp
    with_reducible rfl
  rotate_left
  · simp only [Act.put, List.setIfInBounds_toArray, List.set_cons_zero, List.set_cons_succ, i64_w, i32_w]
    rfl
  refine pure_ (i := 5) (N := some 10) (v := ?_) (a' := ?_) #[true, false, true, false, false, true, false, false, false, false, false, false] rfl rfl (any_of HT_.out (by kernel_rfl)) (fun _ _ _ h => h) (Or.inl ⟨by rfl, ?_⟩) ?_ ?_
  rotate_left
  · intro w'
    go_simp
    with_reducible rfl
  rotate_left
  · simp only [Act.put, List.setIfInBounds_toArray, List.set_cons_zero, List.set_cons_succ, i64_w, i32_w]
    rfl
  refine pure_ (i := 7) (N := some 12) (v := ?_) (a' := ?_) #[true, false, true, false, false, true, false, true, false, false, false, false] rfl rfl (any_of HT_.out (by kernel_rfl)) (fun _ _ _ h => h) (Or.inl ⟨by rfl, ?_⟩) ?_ ?_
  rotate_left
  · intro w'
    go_simp
    with_reducible rfl
  rotate_left
  · simp only [Act.put, List.setIfInBounds_toArray, List.set_cons_zero, List.set_cons_succ, i64_w, i32_w]
    rfl
  refine take_ (i := 1) (N := some 6) (v := ?_) (a' := ?_) #[true, true, true, false, false, true, false, true, false, false, false, false] rfl rfl (take_ofW HT_.out HW_.out (by kernel_rfl)) (fun _ _ _ h => h) (Or.inl ⟨by rfl, ?_⟩) hHeld ?_ ?_
  rotate_left
  · rintro w' ⟨s0, s1, s2, s3⟩
    go_simp
    with_reducible rfl
  rotate_left
  · simp only [Act.put, List.setIfInBounds_toArray, List.set_cons_zero, List.set_cons_succ, i64_w, i32_w]
    rfl
  refine take_ (i := 3) (N := some 8) (v := ?_) (a' := ?_) #[true, true, true, true, false, true, false, true, false, false, false, false] rfl rfl (take_ofW HT_.out HW_.out (by kernel_rfl)) (fun _ _ _ h => h) (Or.inl ⟨by rfl, ?_⟩) hHeld ?_ ?_
  rotate_left
  · rintro w' ⟨s0, s1, s2, s3⟩
    go_simp
    with_reducible rfl
  rotate_left
  · simp only [Act.put, List.setIfInBounds_toArray, List.set_cons_zero, List.set_cons_succ, i64_w, i32_w]
    rfl
  refine pure_ (i := 4) (N := some 9) (v := ?_) (a' := ?_) #[true, true, true, true, true, true, false, true, false, false, false, false] rfl rfl (any_of HT_.out (by kernel_rfl)) (fun _ _ _ h => h) (Or.inl ⟨by rfl, ?_⟩) ?_ ?_
  rotate_left
  · intro w'
    go_simp
    with_reducible rfl
  rotate_left
  · simp only [Act.put, List.setIfInBounds_toArray, List.set_cons_zero, List.set_cons_succ, i64_w, i32_w]
    rfl
  refine take_ (i := 6) (N := some 11) (v := ?_) (a' := ?_) #[true, true, true, true, true, true, true, true, false, false, false, false] rfl rfl (take_ofW HT_.out HW_.out (by kernel_rfl)) (fun _ _ _ h => h) (Or.inl ⟨by rfl, ?_⟩) hHeld ?_ ?_
  rotate_left
  · rintro w' ⟨s0, s1, s2, s3⟩
    go_simp
    with_reducible rfl
  rotate_left
  · simp only [Act.put, List.setIfInBounds_toArray, List.set_cons_zero, List.set_cons_succ, i64_w, i32_w]
    rfl
  refine take_ (i := 8) (N := some 13) (v := ?_) (a' := ?_) #[true, true, true, true, true, true, true, true, true, false, false, false] rfl rfl (take_ofW HT_.out HW_.out (by kernel_rfl)) (fun _ _ _ h => h) (Or.inl ⟨by rfl, ?_⟩) hHeld ?_ ?_
  rotate_left
  · rintro w' ⟨s0, s1, s2, s3⟩
    go_simp
    with_reducible rfl
  rotate_left
  · simp only [Act.put, List.setIfInBounds_toArray, List.set_cons_zero, List.set_cons_succ, i64_w, i32_w]
    rfl
  refine one_ (i := 9) (N := some 14) #[true, true, true, true, true, true, true, true, true, true, false, false] rfl rfl (one_of HT_.out (by kernel_rfl)) (by decide) (fun K hK => ?_)
  refine goes_ Tryz.func153 (by kernel_rfl) rfl #[.slice A0_1 l0_1.length c0_1, .slice A1_1 l1_1.length c1_1] (by rfl) rfl rfl (by (try simp only [List.map_toArray, List.map_cons, List.map_nil]); first | done | rfl | (simp only [List.length_drop, List.length_take]; rfl)) ?_
  with_reducible refine (times_Mul.calls _ _ l0_1 _ _ l1_1 t635 _ ?side1 ?side2 ?side3 ?side4 A3.out).mono ?_
  (case side1 => repeat (first | exact (Kd.C_below HR0_1.out HB.out) | (with_reducible refine Kd.C_alloc ?_ _) | (with_reducible refine Kd.C_drewN ?_ _) | (with_reducible refine Kd.C_drew ?_)))
  (case side2 => exact HC0_1.out)
  (case side3 => repeat (first | exact (Kd.C_below HR1_1.out HB.out) | (with_reducible refine Kd.C_alloc ?_ _) | (with_reducible refine Kd.C_drewN ?_ _) | (with_reducible refine Kd.C_drew ?_)))
  (case side4 => exact HC1_1.out)
  rintro e w9 ⟨v636, rfl, ho0, hb⟩
  refine ⟨_, rfl, ?_⟩
  have n0_ := Aside0.mk (Kd.R_lower ho0 (below_size (by repeat (first | (with_reducible first | exact HB.out | apply below_alloc | apply pw_below_drewN | apply below_drew1 | refine below_set ?_ GE632.out | refine below_set ?_ GE633.out | refine below_set ?_ GE634.out) | exact HB.out))))
  have n1_ := Aside0.mk (blk_below (g := gb632) (o := .cells #[.bool a0_0, .slice A0_1 l0_1.length c0_1] 42 (0, 0)) (by (with_reducible repeat (first | refine blk_drewN ?_ _ | refine blk_drew ?_ | refine blk_alloc ?_ _)); exact BK632.out) hb)
  have n2_ := Aside0.mk (blk_below (g := gb633) (o := .cells #[.bool a1_0, .slice A1_1 l1_1.length c1_1] 42 (0, 0)) (by (with_reducible repeat (first | refine blk_drewN ?_ _ | refine blk_drew ?_ | refine blk_alloc ?_ _)); exact BK633.out) hb)
  have n3_ := Aside0.mk (blk_below (g := gb634) (o := .cells #[.bool false, .slice none 0 0] 42 (0, 0)) (by (with_reducible repeat (first | refine blk_drewN ?_ _ | refine blk_drew ?_ | refine blk_alloc ?_ _)); exact BK634.out) hb)
  have n4_ := Aside0.mk (below_step (by repeat (first | (with_reducible first | exact HB.out | apply below_alloc | apply pw_below_drewN | apply below_drew1 | refine below_set ?_ GE632.out | refine below_set ?_ GE633.out | refine below_set ?_ GE634.out) | exact HB.out)) hb)
  clear BK632
  clear BK633
  clear BK634
  clear HB
  have HO637 := n0_
  have BK632 := n1_
  have BK633 := n2_
  have BK634 := n3_
  have HB := n4_
  clear n0_ n1_ n2_ n3_ n4_
  (try clear hb)
  (try clear hb2)
  (try clear hk)
  (try clear hi)
  (try clear ho0)
  obtain ⟨Ao10, co10, eo10⟩ := Kd.R_slice HO637.out
  (first | subst eo10 | (injection eo10 with f1_ f2_ f3_; have f4_ := f1_.symm; have f5_ := f3_.symm; clear f1_ f2_ f3_; subst f4_; subst f5_))
  refine hK.out _ _ ⟨(blk_cell BK632.out 0).trans rfl, (blk_cell BK632.out 1).trans rfl, (blk_cell BK633.out 0).trans rfl, (blk_cell BK633.out 1).trans rfl⟩ (fun hHeld => ?_)
  clear hK K
  refine norm_ (a' := ?_) ?_ ?_
  rotate_left
  · show Act.put _ (some 14) _ = _
    simp only [Act.put, List.setIfInBounds_toArray, List.set_cons_zero, List.set_cons_succ, i64_w, i32_w]
    rfl
  refine one_ (i := 10) (N := some 15) #[true, true, true, true, true, true, true, true, true, true, true, false] rfl rfl (one_of HT_.out (by kernel_rfl)) (by decide) (fun K hK => ?_)
  refine goes_ Tryz.func69 (by kernel_rfl) rfl #[.bool (a0_0 != a1_0), .slice Ao10 t635.length co10] (by rfl) rfl rfl (by (try simp only [List.map_toArray, List.map_cons, List.map_nil]); first | done | rfl | (simp only [List.length_drop, List.length_take]; rfl)) ?_
  with_reducible refine (signed_Make.calls k (a0_0 != a1_0) _ _ t635 t638 t639 _ ?side1 ?side2 A4.out).mono ?_
  (case side1 => repeat (first | exact (Kd.R_reads' HO637.out).2.2 | (with_reducible refine Kd.C_alloc ?_ _) | (with_reducible refine Kd.C_drewN ?_ _) | (with_reducible refine Kd.C_drew ?_)))
  (case side2 => exact (Kd.R_reads' HO637.out).2.1)
  rintro e w11 ⟨v640, rfl, ho0, hb⟩
  refine ⟨_, rfl, ?_⟩
  have n0_ := Aside0.mk (Kd.R_elder' (by (with_reducible repeat (first | apply Kd.R_alloc | apply Kd.R_drewN | apply Kd.R_drew)); exact HO637.out) (Kd.R_base ho0) hb)
  have n1_ := Aside0.mk (Kd.R_lower (Kd.R_new' ho0 (Kd.R_lt (by (with_reducible repeat (first | apply Kd.R_alloc | apply Kd.R_drewN | apply Kd.R_drew)); exact HO637.out))) (below_size (by repeat (first | (with_reducible first | exact HB.out | apply below_alloc | apply pw_below_drewN | apply below_drew1 | refine below_set ?_ GE632.out | refine below_set ?_ GE633.out | refine below_set ?_ GE634.out) | exact HB.out))))
  have n2_ := Aside0.mk (blk_below (g := gb632) (o := .cells #[.bool a0_0, .slice A0_1 l0_1.length c0_1] 42 (0, 0)) (by (with_reducible repeat (first | refine blk_drewN ?_ _ | refine blk_drew ?_ | refine blk_alloc ?_ _)); exact BK632.out) hb)
  have n3_ := Aside0.mk (blk_below (g := gb633) (o := .cells #[.bool a1_0, .slice A1_1 l1_1.length c1_1] 42 (0, 0)) (by (with_reducible repeat (first | refine blk_drewN ?_ _ | refine blk_drew ?_ | refine blk_alloc ?_ _)); exact BK633.out) hb)
  have n4_ := Aside0.mk (blk_below (g := gb634) (o := .cells #[.bool false, .slice none 0 0] 42 (0, 0)) (by (with_reducible repeat (first | refine blk_drewN ?_ _ | refine blk_drew ?_ | refine blk_alloc ?_ _)); exact BK634.out) hb)
  have n5_ := Aside0.mk (below_step (by repeat (first | (with_reducible first | exact HB.out | apply below_alloc | apply pw_below_drewN | apply below_drew1 | refine below_set ?_ GE632.out | refine below_set ?_ GE633.out | refine below_set ?_ GE634.out) | exact HB.out)) hb)
  clear HO637
  clear BK632
  clear BK633
  clear BK634
  clear HB
  have HO637 := n0_
  have HO641 := n1_
  have BK632 := n2_
  have BK633 := n3_
  have BK634 := n4_
  have HB := n5_
  clear n0_ n1_ n2_ n3_ n4_ n5_
  (try clear hb)
  (try clear hb2)
  (try clear hk)
  (try clear hi)
  (try clear ho0)
  obtain ⟨Ao13, co13, eo13⟩ := Kd.R_slice HO641.out
  (first | subst eo13 | (injection eo13 with f1_ f2_ f3_; have f4_ := f1_.symm; have f5_ := f3_.symm; clear f1_ f2_ f3_; subst f4_; subst f5_))
  refine hK.out _ _ ⟨(blk_cell BK632.out 0).trans rfl, (blk_cell BK632.out 1).trans rfl, (blk_cell BK633.out 0).trans rfl, (blk_cell BK633.out 1).trans rfl⟩ (fun hHeld => ?_)
  clear hK K
  refine norm_ (a' := ?_) ?_ ?_
  rotate_left
  · show Act.put _ (some 15) _ = _
    simp only [Act.put, List.setIfInBounds_toArray, List.set_cons_zero, List.set_cons_succ, i64_w, i32_w]
    rfl
  refine one_ (i := 11) (N := none) #[true, true, true, true, true, true, true, true, true, true, true, true] rfl rfl (one_of HT_.out (by kernel_rfl)) (by decide) (fun K hK => ?_)
  have hs12 : w11.cell? ⟨gb634, 0, none⟩ = some (.bool false) := (blk_cell BK634.out 0).trans rfl
  have hfs12 := blk_frozen BK634.out 0
  have hns12_0 := NB632_634.out
  have hns12_1 := NB633_634.out
  have hms12_0 := NB634_632.out
  have hms12_1 := NB634_633.out
  have hs14 : w11.cell? ⟨gb634, 1, none⟩ = some (.slice none 0 0) := (blk_cell BK634.out 1).trans rfl
  have hfs14 := blk_frozen BK634.out 1
  have hns14_0 := NB632_634.out
  have hns14_1 := NB633_634.out
  have hms14_0 := NB634_632.out
  have hms14_1 := NB634_633.out
  refine skip_ (w1 := ?_) (by rfl) rfl ?_ ?_
  rotate_left
  · go_simp
    rfl
  refine hK.out _ _ ⟨((cell_far (p := ⟨gb634, _, none⟩) NB632_634.out _).trans (((cell_far (p := ⟨gb634, _, none⟩) NB632_634.out _).trans (hHeld.1)))), ((cell_far (p := ⟨gb634, _, none⟩) NB632_634.out _).trans (((cell_far (p := ⟨gb634, _, none⟩) NB632_634.out _).trans (hHeld.2.1)))), ((cell_far (p := ⟨gb634, _, none⟩) NB633_634.out _).trans (((cell_far (p := ⟨gb634, _, none⟩) NB633_634.out _).trans (hHeld.2.2.1)))), ((cell_far (p := ⟨gb634, _, none⟩) NB633_634.out _).trans (((cell_far (p := ⟨gb634, _, none⟩) NB633_634.out _).trans (hHeld.2.2.2))))⟩ (fun hHeld => ?_)
  clear hK K
  refine done_ (done_of HT_.out (by kernel_rfl)) ?_
  try go_wp2
  refine bodyPost_ret (results_cell_row rfl _ _ gb634 42 #[.bool t638, .slice Ao13 t639.length co13] (0, 0) _ rfl (by (with_reducible repeat (first | refine blk_drewN ?_ _ | refine blk_drew ?_ | refine blk_alloc ?_ _)); refine blk_put (cs := #[.bool t638, .slice none 0 0]) ?_ 1 _ rfl; (with_reducible repeat (first | refine blk_drewN ?_ _ | refine blk_drew ?_ | refine blk_alloc ?_ _)); refine blk_put (cs := #[.bool false, .slice none 0 0]) ?_ 0 _ rfl; (with_reducible repeat (first | refine blk_drewN ?_ _ | refine blk_drew ?_ | refine blk_alloc ?_ _)); exact BK634.out) Tryz.underlying42 rfl (by kernel_rfl)) rfl ?_
  exact ⟨_, by first | rfl | (simp [errW_none, errW_some] <;> rfl) | (simp [*, errW_none, errW_some] <;> rfl), by (with_reducible repeat (first | apply Kd.R_alloc | apply Kd.R_drewN | apply Kd.R_drew)); exact Kd.R_mono (Kd.R_far (p := ⟨gb634, 1, none⟩) (Kd.R_far (p := ⟨gb634, 0, none⟩) (Kd.R_types HO641.out BK634.out (by decide)) (fun _ hk => hk.2) (.bool t638)) (fun _ hk => hk.2) (.slice Ao13 t639.length co13)) (fun _ hk => trivial), by repeat (first | (with_reducible first | exact HB.out | apply below_alloc | apply pw_below_drewN | apply below_drew1 | refine below_set ?_ GE632.out | refine below_set ?_ GE633.out | refine below_set ?_ GE634.out) | exact HB.out)⟩
end Go.Proofs.YtjeepapdaciieaaGreat.X
namespace Go.Proofs.YtjeepapdaciieaaGreat.X
open Go.RowKit Go.Proofs.YtjeepapdaciieaaGreatW.PrintWords Go.Proofs.YtjeepapdaciieaaGreatW.PrintLast Go.Proofs.YtjeepapdaciieaaGreatW.PrintMore
section
variable {k : Nat} {n : Nat} {v0 v1 : Value} {l0 l1 r : List Int} {w : World}
theorem quot_Gcd.new (h0 : Num w v0 l0) (h1 : Num w v1 l1) (h : quot_Gcd.f k l0 l1 = some r) (hn : n ≤ w.heap.size) : Calls Tryz.prog 195 #[v0, v1] w fun e w' => ∃ v, e = .returned v ∧ Since w w' ∧ NewN n w' v r := by
  obtain ⟨A0, c0, rfl, n0, C0⟩ := h0
  obtain ⟨A1, c1, rfl, n1, C1⟩ := h1
  refine (quot_Gcd.calls k A0 c0 l0 A1 c1 l1 r w C0 n0 C1 n1 h).mono ?_
  rintro e w' ⟨v, rfl, hv, hb⟩
  exact ⟨v, rfl, hb, New.of_R hv hn⟩
theorem ratio_by.new (h0 : Num w v0 l0) (h1 : Num w v1 l1) (h : ratio_by.f k l0 l1 = some r) (hn : n ≤ w.heap.size) : Calls Tryz.prog 196 #[v0, v1] w fun e w' => ∃ v, e = .returned v ∧ Since w w' ∧ NewN n w' v r := by
  obtain ⟨A0, c0, rfl, n0, C0⟩ := h0
  obtain ⟨A1, c1, rfl, n1, C1⟩ := h1
  refine (ratio_by.calls k A0 c0 l0 A1 c1 l1 r w C0 n0 C1 n1 h).mono ?_
  rintro e w' ⟨v, rfl, hv, hb⟩
  exact ⟨v, rfl, hb, New.of_R hv hn⟩
theorem times_Mul.new (h0 : Num w v0 l0) (h1 : Num w v1 l1) (h : times_Mul.f l0 l1 = some r) (hn : n ≤ w.heap.size) : Calls Tryz.prog 153 #[v0, v1] w fun e w' => ∃ v, e = .returned v ∧ Since w w' ∧ NewN n w' v r := by
  obtain ⟨A0, c0, rfl, n0, C0⟩ := h0
  obtain ⟨A1, c1, rfl, n1, C1⟩ := h1
  refine (times_Mul.calls A0 c0 l0 A1 c1 l1 r w C0 n0 C1 n1 h).mono ?_
  rintro e w' ⟨v, rfl, hv, hb⟩
  exact ⟨v, rfl, hb, New.of_R hv hn⟩
theorem signed_Make.new {b b' : Bool} (h0 : Num w v0 l0) (h : signed_Make.f k b l0 = some (b', r)) (hn : n ≤ w.heap.size) : Calls Tryz.prog 69 #[.bool b, v0] w fun e w' => ∃ v, e = .returned v ∧ Since w w' ∧ ∃ x, v = .agg #[.bool b', x] ∧ NewN n w' x r := by
  obtain ⟨A0, c0, rfl, n0, C0⟩ := h0
  refine (signed_Make.calls k b A0 c0 l0 b' r w C0 n0 h).mono ?_
  rintro e w' ⟨v, rfl, hv, hb⟩
  exact ⟨_, rfl, hb, v, rfl, New.of_R hv hn⟩
end
namespace Sizes
def Rises (K f : Int) (s : List Int) : Prop := s.Pairwise (· < ·) ∧ ∀ x ∈ s, f ≤ x ∧ x < K
theorem Rises.tail {K f y : Int} {r : List Int} (h : Rises K f (y :: r)) : Rises K (y + 1) r :=
  ⟨(List.pairwise_cons.1 h.1).2, fun x hx => ⟨by have := (List.pairwise_cons.1 h.1).1 x hx; omega, (h.2 x (List.mem_cons_of_mem _ hx)).2⟩⟩
theorem Rises.len : ∀ {s : List Int} {K f : Int}, Rises K f s → s.length ≤ (K - f).toNat
  | [], _, _, _ => Nat.zero_le _
  | y :: r, K, f, h => by
    have h1 := h.tail.len
    have h2 := h.2 y List.mem_cons_self
    rw [List.length_cons]
    omega
theorem mem_rows (K : Int) : ∀ (d : Nat) (f : Int) (s x : List Int), x ∈ mass_Sets.rows K d f s ↔ ∃ r, x = s ++ r ∧ r.length = d ∧ Rises K f r
  | 0, f, s, x => by
    rw [mass_Sets.rows, List.mem_singleton]
    constructor
    · rintro rfl
      exact ⟨[], by simp, rfl, List.Pairwise.nil, by simp⟩
    · rintro ⟨r, rfl, hr, _⟩
      rw [List.length_eq_zero_iff.1 hr, List.append_nil]
  | d + 1, f, s, x => by
    rw [mass_Sets.rows, List.mem_flatMap]
    constructor
    · rintro ⟨j, hj, hx⟩
      obtain ⟨r, rfl, hr, hR⟩ := (mem_rows K d _ _ _).1 hx
      have hj := List.mem_range.1 hj
      refine ⟨(f + (j : Int)) :: r, by simp, by simp [hr], List.pairwise_cons.2 ⟨fun y hy => by have := (hR.2 y hy).1; omega, hR.1⟩, fun y hy => ?_⟩
      rcases List.mem_cons.1 hy with rfl | hy
      · omega
      · have := hR.2 y hy
        omega
    · rintro ⟨r, rfl, hr, hR⟩
      cases r with
      | nil => simp at hr
      | cons y r =>
        have h1 := hR.2 y List.mem_cons_self
        have h2 := hR.tail.len
        rw [List.length_cons] at hr
        refine ⟨(y - f).toNat, List.mem_range.2 (by omega), (mem_rows K d _ _ _).2 ⟨r, ?_, by omega, ?_⟩⟩
        · rw [show f + ((y - f).toNat : Int) = y by omega]; simp
        · rw [show f + ((y - f).toNat : Int) + 1 = y + 1 by omega]; exact hR.tail
def Lex (a b : List Int) : Prop := ∃ p u v a' b', a = p ++ u :: a' ∧ b = p ++ v :: b' ∧ u < v
theorem rows_lex (K : Int) : ∀ (d : Nat) (f : Int) (s : List Int), (mass_Sets.rows K d f s).Pairwise Lex
  | 0, _, _ => by rw [mass_Sets.rows]; exact List.pairwise_singleton _ _
  | d + 1, f, s => by
    rw [mass_Sets.rows, List.pairwise_flatMap]
    refine ⟨fun j _ => rows_lex K d _ _, List.pairwise_lt_range.imp fun {j j'} hlt x hx y hy => ?_⟩
    obtain ⟨r, rfl, _⟩ := (mem_rows K d _ _ _).1 hx
    obtain ⟨r', rfl, _⟩ := (mem_rows K d _ _ _).1 hy
    exact ⟨s, f + (j : Int), f + (j' : Int), r, r', by simp, by simp, by omega⟩
theorem mem_from (K : Int) : ∀ (t : List Int) (i : Nat) (x : List Int), x ∈ mass_Sets.from_ K i t ↔ i < x.length ∧ x.length ≤ i + t.length ∧ t.getD (x.length - 1 - i) 0 ≠ 0 ∧ Rises K 0 x
  | [], i, x => by
    rw [mass_Sets.from_]
    constructor
    · intro h; cases h
    · rintro ⟨h1, h2, _⟩; simp at h2; omega
  | c :: t, i, x => by
    rw [mass_Sets.from_, List.mem_append, mem_from K t (i + 1) x]
    have hrow : x ∈ (if c = 0 then [] else mass_Sets.rows K (i + 1) 0 []) ↔ c ≠ 0 ∧ x.length = i + 1 ∧ Rises K 0 x := by
      by_cases hc : c = 0
      · simp [hc]
      · rw [if_neg hc, mem_rows]
        constructor
        · rintro ⟨r, rfl, hr, hR⟩
          exact ⟨hc, by simpa using hr, by simpa using hR⟩
        · rintro ⟨_, h1, h2⟩
          exact ⟨x, rfl, h1, h2⟩
    rw [hrow, List.length_cons]
    constructor
    · rintro (⟨hc, hl, hR⟩ | ⟨h1, h2, h3, hR⟩)
      · exact ⟨by omega, by omega, by rw [hl, show i + 1 - 1 - i = 0 by omega]; simpa using hc, hR⟩
      · refine ⟨by omega, by omega, ?_, hR⟩
        rw [show x.length - 1 - i = (x.length - 1 - (i + 1)) + 1 by omega]
        simpa using h3
    · rintro ⟨h1, h2, h3, hR⟩
      by_cases hl : x.length = i + 1
      · rw [hl, show i + 1 - 1 - i = 0 by omega] at h3
        exact .inl ⟨by simpa using h3, hl, hR⟩
      · refine .inr ⟨by omega, by omega, ?_, hR⟩
        rw [show x.length - 1 - i = (x.length - 1 - (i + 1)) + 1 by omega] at h3
        simpa using h3
def Ahead (a b : List Int) : Prop := a.length < b.length ∨ (a.length = b.length ∧ Lex a b)
theorem from_ahead (K : Int) : ∀ (t : List Int) (i : Nat), (mass_Sets.from_ K i t).Pairwise Ahead
  | [], _ => by rw [mass_Sets.from_]; exact List.Pairwise.nil
  | c :: t, i => by
    rw [mass_Sets.from_, List.pairwise_append]
    have hlen : ∀ x ∈ (if c = 0 then [] else mass_Sets.rows K (i + 1) 0 []), x.length = i + 1 := by
      intro x hx
      by_cases hc : c = 0
      · simp [hc] at hx
      · rw [if_neg hc, mem_rows] at hx
        obtain ⟨r, rfl, hr, _⟩ := hx
        simpa using hr
    refine ⟨?_, from_ahead K t (i + 1), fun x hx y hy => .inl ?_⟩
    · by_cases hc : c = 0
      · simp [hc]
      · rw [if_neg hc]
        refine (rows_lex K (i + 1) 0 []).imp_of_mem fun {x y} hx hy h => .inr ⟨?_, h⟩
        obtain ⟨r, rfl, hr, _⟩ := (mem_rows K _ _ _ _).1 hx
        obtain ⟨r', rfl, hr', _⟩ := (mem_rows K _ _ _ _).1 hy
        simp [hr, hr']
    · rw [hlen x hx]
      exact ((mem_from K t (i + 1) y).1 hy).1
theorem from_len (K : Int) : ∀ (t : List Int) (i n : Nat), t.length ≤ n → (mass_Sets.from_ K i t).length ≤ (mass_Sets.from_ K i (List.replicate n 1)).length
  | [], _, _, _ => by rw [mass_Sets.from_]; exact Nat.zero_le _
  | c :: t, i, 0, h => by simp at h
  | c :: t, i, n + 1, h => by
    rw [List.replicate_succ, mass_Sets.from_, mass_Sets.from_, List.length_append, List.length_append, if_neg (by decide : ¬ (1 : Int) = 0)]
    have := from_len K t (i + 1) n (by simpa using h)
    by_cases hc : c = 0
    · rw [if_pos hc]; simp; omega
    · rw [if_neg hc]; omega
def mask (s : List Int) : Nat := s.foldl (fun a x => a + 2 ^ x.toNat) 0
def bits (K : Nat) (a : Nat) : List Int := ((List.range K).filter fun j => a / 2 ^ j % 2 == 1).map fun (j : Nat) => (j : Int)
def check (K : Nat) : Bool := ((mass_Sets.from_ K 0 (List.replicate K 1)).all fun s => decide (mask s < 2 ^ K) && decide (bits K (mask s) = s)) && ((List.range (2 ^ K)).all fun a => mask (bits K a) == a) && decide ((mass_Sets.from_ K 0 (List.replicate K 1)).length ≤ 4096)
set_option maxRecDepth 100000 in
theorem checked : (List.range 11).all check = true := by decide +kernel
theorem check_at {K : Nat} (hK : K ≤ 10) : check K = true := List.all_eq_true.1 checked K (List.mem_range.2 (by omega))
theorem bits_mask {K : Nat} (hK : K ≤ 10) {s : List Int} (hs : Rises K 0 s) (h0 : s ≠ []) : mask s < 2 ^ K ∧ bits K (mask s) = s := by
  have h := check_at hK
  simp only [check, Bool.and_eq_true, List.all_eq_true, decide_eq_true_eq] at h
  have hl : s.length ≠ 0 := fun e => h0 (List.length_eq_zero_iff.1 e)
  have hK2 := hs.len
  have := h.1.1 s ((mem_from K _ 0 s).2 ⟨by omega, by rw [List.length_replicate]; omega, by rw [List.getD_eq_getElem?_getD, List.getElem?_replicate, if_pos (by omega)]; simp, hs⟩)
  exact this
theorem mask_bits {K : Nat} (hK : K ≤ 10) {a : Nat} (ha : a < 2 ^ K) : mask (bits K a) = a := by
  have h := check_at hK
  simp only [check, Bool.and_eq_true, List.all_eq_true, decide_eq_true_eq, beq_iff_eq] at h
  exact h.1.2 a (List.mem_range.2 ha)
theorem all_len {K : Nat} (hK : K ≤ 10) {t : List Int} (ht : t.length ≤ K) : (mass_Sets.all K t).length ≤ 4096 := by
  have h := check_at hK
  simp only [check, Bool.and_eq_true, decide_eq_true_eq] at h
  exact Nat.le_trans (from_len K t 0 K ht) h.2
theorem bits_rises (K a : Nat) : Rises K 0 (bits K a) := by
  unfold bits
  refine ⟨List.pairwise_map.2 ((List.Pairwise.filter _ List.pairwise_lt_range).imp fun h => by omega), fun x hx => ?_⟩
  rw [List.mem_map] at hx
  obtain ⟨j, hj, rfl⟩ := hx
  have := List.mem_range.1 (List.mem_filter.1 hj).1
  omega
theorem bits_len (a : Nat) : ∀ j, (bits (j + 1) a).length = (bits j a).length + a / 2 ^ j % 2 := by
  intro j
  unfold bits
  rw [List.length_map, List.length_map, List.range_succ, List.filter_append, List.length_append]
  have : a / 2 ^ j % 2 = 0 ∨ a / 2 ^ j % 2 = 1 := by omega
  rcases this with h | h <;> simp [h]
theorem mask_snoc (s : List Int) (x : Int) : mask (s ++ [x]) = mask s + 2 ^ x.toNat := by simp [mask, List.foldl_append]
end Sizes
theorem pick_tells (a n : Int) (h0 : 0 < n) (h1 : n < 4611686018427387904) : ∃ p, artesiankit_Pick.f a n = some p ∧ 0 ≤ p ∧ p < n := by
  unfold artesiankit_Pick.f
  rw [if_neg (by omega), if_neg (by omega)]
  have h2 := Int.tmod_lt_of_pos a h0
  have h3 : -n < Int.tmod a n := by
    have := Int.tmod_lt_of_pos (-a) h0
    rw [Int.neg_tmod] at this
    omega
  by_cases h : Int.tmod a n < 0
  · rw [if_pos h]
    exact ⟨_, rfl, by rw [wrap_small (by omega) (by omega)]; omega, by rw [wrap_small (by omega) (by omega)]; omega⟩
  · rw [if_neg h]
    exact ⟨_, rfl, by omega, h2⟩
theorem check_l0 (xs : List Int) (hx : xs.length ≤ 1099511627776) : ∀ (m i : Nat) (b : Bool), i + m = xs.length → ∃ e, Ends (fun k => soliton_Check.l0 k b xs (xs.length : Int) (i : Int)) e
  | 0, i, b, hi => ⟨if b = true then 0 else 13, (Ends.now ()).step fun k _ => by rw [soliton_Check.l0, if_neg (by omega)]; split <;> rfl⟩
  | m + 1, i, b, hi => by
    have e0 : (i : Int) < (xs.length : Int) := by omega
    have e1 : wrap64 ((i : Int) + 1) = ((i + 1 : Nat) : Int) := by rw [wrap_small (by omega) (by omega)]; omega
    by_cases h1 : rd xs (i : Int) < 0
    · exact ⟨13, (Ends.now ()).step fun k _ => by rw [soliton_Check.l0, if_pos e0, if_pos (by omega), if_pos e0, if_pos h1]⟩
    · by_cases h2 : rd xs (i : Int) > 16777215
      · exact ⟨13, (Ends.now ()).step fun k _ => by rw [soliton_Check.l0, if_pos e0, if_pos (by omega), if_pos e0, if_neg h1, if_pos h2]⟩
      · cases b with
        | true =>
          obtain ⟨e, he⟩ := check_l0 xs hx m (i + 1) true (by omega)
          exact ⟨e, he.step fun k hk => by rw [soliton_Check.l0, if_pos e0, if_pos (by omega), if_pos e0, if_neg h1, if_neg h2, if_pos rfl, e1]; exact hk⟩
        | false =>
          obtain ⟨e, he⟩ := check_l0 xs hx m (i + 1) (decide (rd xs (i : Int) > 0)) (by omega)
          exact ⟨e, he.step fun k hk => by rw [soliton_Check.l0, if_pos e0, if_pos (by omega), if_pos e0, if_neg h1, if_neg h2, if_neg (by decide), e1]; exact hk⟩
theorem check_j0 (xs : List Int) (hx : xs.length ≤ 1099511627776) (b : Bool) : ∃ e, Ends (fun k => soliton_Check.j0 k xs b) e := by
  cases b with
  | true => exact ⟨13, (Ends.now ()).step fun k _ => by rw [soliton_Check.j0, if_pos rfl]⟩
  | false =>
    obtain ⟨e, he⟩ := check_l0 xs hx xs.length 0 false (by omega)
    exact ⟨e, he.step fun k hk => by rw [soliton_Check.j0, if_neg (by decide)]; exact hk⟩
theorem check_ends (xs : List Int) (hx : xs.length ≤ 1099511627776) (K : Int) : ∃ e, Ends (fun k => soliton_Check.f k xs K) e := by
  have hj := check_j0 xs hx
  simp only [soliton_Check.f]
  split
  · exact hj _
  · split
    · exact hj _
    · split
      · exact hj _
      · exact hj _
theorem small_l0 (l : List Int) (K : Nat) (hK : K ≤ 10) : ∀ (m : Nat) (x : List Int), x.length + m = K → (∀ a ∈ x, 0 ≤ a ∧ a < 4) → ∃ t e, t.length ≤ K ∧ (∀ a ∈ t, 0 ≤ a ∧ a < 4) ∧ Ends (fun k => soliton_Check.f k t K) e ∧ Ends (fun k => artesianlaw23_small.l0 k l (K : Int) x (x.length : Int)) (t, e == 0)
  | 0, x, hm, hx => by
    obtain ⟨e, he⟩ := check_ends x (by omega) K
    exact ⟨x, e, by omega, hx, he, he.step fun k hk => by rw [artesianlaw23_small.l0, if_neg (by omega), hk]; rfl⟩
  | m + 1, x, hm, hx => by
    by_cases hl : (x.length : Int) < (l.length : Int)
    · obtain ⟨p, hp, hp0, hp1⟩ := pick_tells (rd l (x.length : Int)) 4 (by omega) (by omega)
      obtain ⟨t, e, h1, h2, h3, h4⟩ := small_l0 l K hK m (x ++ [p]) (by simp; omega) (fun a ha => by
        rcases List.mem_append.1 ha with ha | ha
        · exact hx a ha
        · rw [List.mem_singleton.1 ha]; exact ⟨hp0, hp1⟩)
      refine ⟨t, e, h1, h2, h3, h4.step fun k hk => ?_⟩
      rw [artesianlaw23_small.l0, if_pos (by omega), if_pos hl, if_pos (by omega), hp, Option.bind_some, if_pos (by omega), wrap_small (by omega) (by omega)]
      rw [show ((x ++ [p]).length : Int) = (x.length : Int) + 1 by simp] at hk
      exact hk
    · obtain ⟨e, he⟩ := check_ends x (by omega) K
      exact ⟨x, e, by omega, hx, he, he.step fun k hk => by rw [artesianlaw23_small.l0, if_pos (by omega), if_neg hl, hk]; rfl⟩
theorem small_ends (l : List Int) (K : Nat) (hK : K ≤ 10) : ∃ t e, t.length ≤ K ∧ (∀ a ∈ t, 0 ≤ a ∧ a < 4) ∧ Ends (fun k => soliton_Check.f k t K) e ∧ Ends (fun k => artesianlaw23_small.f k l (K : Int)) (t, e == 0) :=
  small_l0 l K hK K [] (by simp) (fun a ha => by cases ha)
theorem ahead_l0 (p : List Int) (u v : Int) (a b : List Int) (hl : p.length ≤ 1000000) (hb : a.length = b.length) (h : u < v) : ∀ (m i : Nat), i + m = p.length → Ends (fun k => artesianlaw23_ahead.l0 k (p ++ u :: a) (p ++ v :: b) (i : Int)) true
  | 0, i, hi => by
    refine (Ends.now ()).step fun k _ => ?_
    have e1 : rd (p ++ u :: a) (i : Int) = u := by simp [rd, show i = p.length by omega]
    have e2 : rd (p ++ v :: b) (i : Int) = v := by simp [rd, show i = p.length by omega]
    rw [artesianlaw23_ahead.l0, if_pos (by simp; omega), if_pos (by omega), if_pos (by simp; omega), e1, e2, if_neg (by omega), decide_eq_true h]
  | m + 1, i, hi => by
    have e1 : rd (p ++ u :: a) (i : Int) = rd (p ++ v :: b) (i : Int) := by
      unfold rd
      rw [Int.toNat_natCast, List.getD_eq_getElem?_getD, List.getD_eq_getElem?_getD, List.getElem?_append_left (by omega), List.getElem?_append_left (by omega)]
    refine (ahead_l0 p u v a b hl hb h m (i + 1) (by omega)).step fun k hk => ?_
    rw [artesianlaw23_ahead.l0, if_pos (by simp; omega), if_pos (by omega), if_pos (by simp; omega), if_pos e1, wrap_small (by omega) (by omega)]
    exact hk
theorem ahead_ends {a b : List Int} (ha : a.length ≤ 1000000) (h : Sizes.Ahead a b) : Ends (fun k => artesianlaw23_ahead.f k a b) true := by
  rcases h with h | ⟨h, p, u, v, a', b', rfl, rfl, huv⟩
  · refine (Ends.now ()).same fun k _ => ?_
    rw [artesianlaw23_ahead.f, if_neg (by omega), decide_eq_true (by omega)]
  · refine (ahead_l0 p u v a' b' (by simp at ha; omega) (by simp at h; omega) huv p.length 0 (by omega)).same fun k hk => ?_
    rw [artesianlaw23_ahead.f, if_pos (by omega)]
    exact hk
end Go.Proofs.YtjeepapdaciieaaGreat.X
namespace Go.Proofs.YtjeepapdaciieaaGreat.X
open Go.RowKit Go.Proofs.YtjeepapdaciieaaGreatW.PrintWords Go.Proofs.YtjeepapdaciieaaGreatW.PrintLast Go.Proofs.YtjeepapdaciieaaGreatW.PrintMore
attribute [local go_sem] max2_int min2_int max_two min_two max_three min_three max_four min_four
set_option linter.unusedVariables false
set_option linter.unusedSimpArgs false
section
def ratio_sum.f (k : Nat) (a0_0 : Bool) (l0_1 : List Int) (l0_2 : List Int) (a1_0 : Bool) (l1_1 : List Int) (l1_2 : List Int) : Option (Bool × List Int × List Int) := (ratio_sum_1.f l1_2).bind fun bt645 => ((signed_Mul.f k a0_0 l0_1 bt645.1 bt645.2).bind fun bt649 => ((ratio_sum_1.f l0_2).bind fun bt653 => ((signed_Mul.f k a1_0 l1_1 bt653.1 bt653.2).bind fun bt657 => ((signed_Add.f k bt649.1 bt649.2 bt657.1 bt657.2).bind fun bt661 => ((times_Mul.f l0_2 l1_2).bind fun t666 => ((ratio_lowest.f k bt661.1 bt661.2 t666).bind fun bt669 => (some (bt669.1, bt669.2.1, bt669.2.2))))))))
theorem ratio_sum.whole (v : Value) (w : World) (h : ∃ A c, ∃ l : List Int, v = .slice A l.length c) : Calls Tryz.prog 150 #[v] w fun e w' => ∃ x, e = .returned x ∧ Since w w' ∧ x = .agg #[.bool false, v] := by
  obtain ⟨A, c, l, rfl⟩ := h
  have hu42 := Tryz.underlying42
  have q2 := (Box.new w #[.bool false, .slice A l.length c] 42).c2
  go_enter Tryz.func150, Tryz.ntmps150
  go_wp2
  exact bodyPost_ret (v := .agg #[.bool false, .slice A l.length c]) (by simp [results, Tryz.f150, go_sem, q2, hu42]) rfl ⟨_, rfl, (Since.refl w).alloc _, rfl⟩
section
variable {k : Nat} {n : Nat} {a b c : Bool} {v0 v1 : Value} {l0 l1 r r' : List Int} {w : World}
theorem ratio_sum.mul (h0 : Num w v0 l0) (h1 : Num w v1 l1) (h : signed_Mul.f k a l0 b l1 = some (c, r)) (hn : n ≤ w.heap.size) : Calls Tryz.prog 152 #[.agg #[.bool a, v0], .agg #[.bool b, v1]] w fun e w' => ∃ v, e = .returned v ∧ Since w w' ∧ ∃ x, v = .agg #[.bool c, x] ∧ NewN n w' x r := by
  obtain ⟨A0, c0, rfl, n0, C0⟩ := h0
  obtain ⟨A1, c1, rfl, n1, C1⟩ := h1
  refine (signed_Mul.calls k a A0 c0 l0 b A1 c1 l1 c r w C0 n0 C1 n1 h).mono ?_
  rintro e w' ⟨v, rfl, hv, hb⟩
  exact ⟨_, rfl, hb, v, rfl, New.of_R hv hn⟩
theorem ratio_sum.add (h0 : Num w v0 l0) (h1 : Num w v1 l1) (h : signed_Add.f k a l0 b l1 = some (c, r)) (hn : n ≤ w.heap.size) : Calls Tryz.prog 151 #[.agg #[.bool a, v0], .agg #[.bool b, v1]] w fun e w' => ∃ v, e = .returned v ∧ Since w w' ∧ ∃ x, v = .agg #[.bool c, x] ∧ NewN n w' x r := by
  obtain ⟨A0, c0, rfl, n0, C0⟩ := h0
  obtain ⟨A1, c1, rfl, n1, C1⟩ := h1
  refine (signed_Add.calls k a A0 c0 l0 b A1 c1 l1 c r w C0 n0 C1 n1 h).mono ?_
  rintro e w' ⟨v, rfl, hv, hb⟩
  exact ⟨_, rfl, hb, v, rfl, New.of_R hv hn⟩
theorem ratio_sum.lowest (h0 : Num w v0 l0) (h1 : Num w v1 l1) (h : ratio_lowest.f k a l0 l1 = some (c, r, r')) (hn : n ≤ w.heap.size) : Calls Tryz.prog 137 #[.agg #[.bool a, v0], v1] w fun e w' => ∃ v, e = .returned v ∧ Since w w' ∧ ∃ x y, v = .agg #[.bool c, x, y] ∧ NewN n w' x r ∧ NewN n w' y r' := by
  obtain ⟨A0, c0, rfl, n0, C0⟩ := h0
  obtain ⟨A1, c1, rfl, n1, C1⟩ := h1
  refine (ratio_lowest.calls k a A0 c0 l0 A1 c1 l1 c r r' w C0 n0 C1 n1 h).mono ?_
  rintro e w' ⟨v, u, rfl, hv, hu, hb⟩
  exact ⟨_, rfl, hb, v, u, rfl, New.of_R hv hn, New.of_R hu hn⟩
end
theorem Num.form {w : World} {v : Value} {l : List Int} (h : Num w v l) : ∃ A c, ∃ l : List Int, v = .slice A l.length c := by
  obtain ⟨A, c, h, _⟩ := h
  exact ⟨A, c, l, h⟩
set_option maxRecDepth 100000 in
set_option maxHeartbeats 4000000 in
theorem ratio_sum.num (k : Nat) (a0_0 : Bool) (v1 v2 : Value) (l0_1 : List Int) (l0_2 : List Int) (a1_0 : Bool) (u1 u2 : Value) (l1_1 : List Int) (l1_2 : List Int) (r1 : Bool) (r2 r3 : List Int) (w : World) (hv1 : Num w v1 l0_1) (hv2 : Num w v2 l0_2) (hu1 : Num w u1 l1_1) (hu2 : Num w u2 l1_2)
   (h : ratio_sum.f k a0_0 l0_1 l0_2 a1_0 l1_1 l1_2 = some (r1, r2, r3)) :
    Calls Tryz.prog 82 #[.agg #[.bool a0_0, v1, v2], .agg #[.bool a1_0, u1, u2]] w fun e w' => ∃ x y, e = .returned (.agg #[.bool r1, x, y]) ∧ NewN w.heap.size w' x r2 ∧ NewN w.heap.size w' y r3 ∧ Since w w' := by
  have hu44 := Tryz.underlying44
  have hu42 := Tryz.underlying42
  unfold ratio_sum.f ratio_sum_1.f at h
  simp only [Option.bind_some] at h
  obtain ⟨⟨p1, m1⟩, g1, h⟩ := Option.bind_eq_some_iff.1 h
  obtain ⟨⟨p2, m2⟩, g2, h⟩ := Option.bind_eq_some_iff.1 h
  obtain ⟨⟨p3, m3⟩, g3, h⟩ := Option.bind_eq_some_iff.1 h
  obtain ⟨m4, g4, h⟩ := Option.bind_eq_some_iff.1 h
  obtain ⟨⟨p5, m5, m6⟩, g5, h⟩ := Option.bind_eq_some_iff.1 h
  have h := Option.some.inj h
  simp only [Prod.mk.injEq] at h
  obtain ⟨rfl, rfl, rfl⟩ := h
  have G := Aside0.mk (And.intro g1 (And.intro g2 (And.intro g3 (And.intro g4 g5))))
  clear g1 g2 g3 g4 g5
  go_enter Tryz.func82, Tryz.ntmps82
  go_wp2
  obtain ⟨W, hW⟩ : ∃ W, W = (((w.alloc (.cells #[.bool a0_0, v1, v2] 44)).alloc (.cells #[.bool a1_0, u1, u2] 44)).alloc (.cells #[.bool false, .slice none 0 0, .slice none 0 0] 44)) := ⟨_, rfl⟩
  have hs : Since w W := by rw [hW]; exact ((Since.refl w).alloc _).alloc _ |>.alloc _
  have b0 : Box W w.heap.size #[.bool a0_0, v1, v2] 44 := by rw [hW]; exact ((Box.new _ _ _).since ((Since.refl _).alloc _)).since ((Since.refl _).alloc _)
  have b1 : Box W (w.heap.size + 1) #[.bool a1_0, u1, u2] 44 := by rw [hW]; have := Box.new (w.alloc (.cells #[.bool a0_0, v1, v2] 44)) #[.bool a1_0, u1, u2] 44; rw [World.size_alloc] at this; exact this.since ((Since.refl _).alloc _)
  have b2 : Box W (w.heap.size + 1 + 1) #[.bool false, .slice none 0 0, .slice none 0 0] 44 := by rw [hW]; have := Box.new ((w.alloc (.cells #[.bool a0_0, v1, v2] 44)).alloc (.cells #[.bool a1_0, u1, u2] 44)) #[.bool false, .slice none 0 0, .slice none 0 0] 44; rw [World.size_alloc, World.size_alloc] at this; exact this
  rw [← hW]
  clear hW
  have N1 := hv1.since hs
  have N2 := hv2.since hs
  have M1 := hu1.since hs
  have M2 := hu2.since hs
  refine Reg.region (rows := [⟨7, [], .is (.pointer (some ⟨w.heap.size, 0, none⟩))⟩, ⟨8, [0], .is (.agg #[.bool a0_0, v1])⟩, ⟨9, [], .is (.func (.func 150) #[] #[])⟩, ⟨10, [], .is (.pointer (some ⟨w.heap.size + 1, 2, none⟩))⟩, ⟨11, [3], .is u2⟩, ⟨12, [2, 4], .is (.agg #[.bool false, u2])⟩, ⟨13, [1, 5], .newI w.heap.size p1 m1⟩,
    ⟨14, [], .is (.pointer (some ⟨w.heap.size + 1, 0, none⟩))⟩, ⟨15, [7], .is (.agg #[.bool a1_0, u1])⟩, ⟨16, [], .is (.func (.func 150) #[] #[])⟩, ⟨17, [], .is (.pointer (some ⟨w.heap.size, 2, none⟩))⟩, ⟨18, [10], .is v2⟩, ⟨19, [9, 11], .is (.agg #[.bool false, v2])⟩, ⟨20, [8, 12], .newI w.heap.size p2 m2⟩, ⟨21, [6, 13], .newI w.heap.size p3 m3⟩,
    ⟨6, [], .box (w.heap.size + 1 + 1 + 1) #[.bool false, .slice none 0 0] 42⟩]) (by kernel_rfl) (by kernel_rfl) ?_ ?_
  · simp only [Reg.Steps]
    repeat' apply And.intro
    all_goals first | exact trivial | (intro a w' hs' hk hu; simp only [Reg.Uses, List.getElem?_cons_zero, List.getElem?_cons_succ, Reg.Sp.ok, and_true] at hu)
    all_goals first | (have h0 := (Box.since b0 hs').c3; have h1 := (Box.since b1 hs').c3; refine .inl ⟨_, w', ?_, Since.refl _, rfl⟩; have k2 := hk 2 rfl; have k3 := hk 3 rfl; have k5 := hk 5 rfl; unfold execOp; simp only [hu, k2, k3, k5]; go_simp; done) | skip
    · exact Reg.Gives.callv rfl hu.1 Tryz.func150 #[u2] (by simp [hu]) (ratio_sum.whole u2 w' M2.form)
    · refine Reg.Gives.call rfl Tryz.func152 #[.agg #[.bool a0_0, v1], .agg #[.bool false, u2]] (by simp [hu]) (ratio_sum.mul (N1.since hs') (M2.since hs') G.out.1 (Nat.le_trans hs.size hs'.size))
    · exact Reg.Gives.callv rfl hu.1 Tryz.func150 #[v2] (by simp [hu]) (ratio_sum.whole v2 w' N2.form)
    · refine Reg.Gives.call rfl Tryz.func152 #[.agg #[.bool a1_0, u1], .agg #[.bool false, v2]] (by simp [hu]) (ratio_sum.mul (M1.since hs') (N2.since hs') G.out.2.1 (Nat.le_trans hs.size hs'.size))
    · obtain ⟨⟨x, ex, hx⟩, y, ey, hy⟩ := hu
      exact Reg.Gives.call rfl Tryz.func151 #[.agg #[.bool p1, x], .agg #[.bool p2, y]] (by simp [ex, ey]) (ratio_sum.add (NewN.num hx) (NewN.num hy) G.out.2.2.1 (Nat.le_trans hs.size hs'.size))
    · exact .inl ⟨_, w'.alloc (.cells #[.bool false, .slice none 0 0] 42), by unfold execOp; go_simp, (Since.refl _).alloc _, _, rfl, by have := b2.lt; have := hs'.size; omega, Box.new _ _ _⟩
  · intro W2 hs2
    simp only [Reg.Done, List.length_cons, List.length_nil, List.drop_succ_cons, List.drop_zero, List.drop_nil, Reg.Tail]
    intro x13 h13 x20 h20 x21 h21 x6 h6
    simp only [List.setIfInBounds_toArray, List.set_cons_zero, List.set_cons_succ]
    obtain ⟨x, rfl, hx⟩ := h21
    obtain ⟨b, rfl, hb, hbox⟩ := h6
    obtain ⟨Ax, cx, ex⟩ := hx.slice
    subst ex
    have z : Box (W2.setCell ⟨b, 0, none⟩ (.bool p3)) b #[.bool p3, .slice none 0 0] 42 := hbox.set 0 _
    have z2 : Box ((W2.setCell ⟨b, 0, none⟩ (.bool p3)).setCell ⟨b, 1, none⟩ (.slice Ax m3.length cx)) b #[.bool p3, .slice Ax m3.length cx] 42 := z.set 1 _
    have q0 := hbox.c2
    have f0 := hbox.frozen 0
    have q1 := z.c2
    have f1 := z.frozen 1
    have d0 := ((b0.since hs2).far (i := 0) (show w.heap.size ≠ b by omega) (.bool p3)).far (i := 1) (show w.heap.size ≠ b by omega) (.slice Ax m3.length cx)
    have d1 := ((b1.since hs2).far (i := 0) (show w.heap.size + 1 ≠ b by omega) (.bool p3)).far (i := 1) (show w.heap.size + 1 ≠ b by omega) (.slice Ax m3.length cx)
    have d2 := ((b2.since hs2).far (i := 0) (show w.heap.size + 1 + 1 ≠ b by omega) (.bool p3)).far (i := 1) (show w.heap.size + 1 + 1 ≠ b by omega) (.slice Ax m3.length cx)
    have hx := (hx.set hbox (i := 0) (by decide) (.bool p3)).set z (i := 1) (by decide) (.slice Ax m3.length cx)
    have hs3 : Since w ((W2.setCell ⟨b, 0, none⟩ (.bool p3)).setCell ⟨b, 1, none⟩ (.slice Ax m3.length cx)) := (Below.setCell (hs.trans hs2) (p := ⟨b, 0, none⟩) (by show w.heap.size ≤ b; omega) _).setCell (p := ⟨b, 1, none⟩) (by show w.heap.size ≤ b; omega) _
    have O2 := hv2.since hs3
    have P2 := hu2.since hs3
    go_wp2
    generalize ((W2.setCell ⟨b, 0, none⟩ (.bool p3)).setCell ⟨b, 1, none⟩ (.slice Ax m3.length cx)) = W3 at *
    clear z q0 f0 q1 f1 hbox h13 h20
    refine Reg.region (rows := [⟨22, [], .is (.agg #[.bool p3, .slice Ax m3.length cx])⟩, ⟨23, [], .is (.pointer (some ⟨w.heap.size, 2, none⟩))⟩, ⟨24, [1], .is v2⟩, ⟨25, [], .is (.pointer (some ⟨w.heap.size + 1, 2, none⟩))⟩, ⟨26, [3], .is u2⟩, ⟨27, [2, 4], .new w.heap.size m4⟩,
      ⟨28, [0, 5], .of (fun v W => ∃ x y, v = .agg #[.bool p5, x, y] ∧ NewN w.heap.size W x m5 ∧ NewN w.heap.size W y m6) (fun _ _ _ h k => by obtain ⟨x, y, e, h, h'⟩ := h; exact ⟨x, y, e, h.since k, h'.since k⟩)⟩]) (by kernel_rfl) (by kernel_rfl) ?_ ?_
    · simp only [Reg.Steps]
      repeat' apply And.intro
      all_goals first | exact trivial | (intro a w' hs' hk hu; simp only [Reg.Uses, List.getElem?_cons_zero, List.getElem?_cons_succ, Reg.Sp.ok, and_true] at hu)
      all_goals first | (have h0 := (Box.since d0 hs').c3; have h1 := (Box.since d1 hs').c3; have h2 := (Box.since z2 hs').c2; refine .inl ⟨_, w', ?_, Since.refl _, rfl⟩; have k2 := hk 2 rfl; have k3 := hk 3 rfl; have k6 := hk 6 rfl; unfold execOp; simp only [hu, k2, k3, k6]; go_simp; done) | skip
      · exact Reg.Gives.call rfl Tryz.func153 #[v2, u2] (by simp [hu]) (times_Mul.new (O2.since hs') (P2.since hs') G.out.2.2.2.1 (Nat.le_trans hs3.size hs'.size))
      · exact Reg.Gives.call rfl Tryz.func137 #[.agg #[.bool p3, .slice Ax m3.length cx], a.eval (.tmp 27)] (by simp [hu.1]) (ratio_sum.lowest (NewN.num (hx.since hs')) hu.2.num G.out.2.2.2.2 (Nat.le_trans hs3.size hs'.size))
    · intro W4 hs4
      simp only [Reg.Done, List.length_cons, List.length_nil, List.drop_succ_cons, List.drop_zero, List.drop_nil, Reg.Tail]
      intro x27 h27 x28 h28
      simp only [List.setIfInBounds_toArray, List.set_cons_zero, List.set_cons_succ]
      obtain ⟨y1, y2, rfl, hy1, hy2⟩ := h28
      obtain ⟨Ay, cy, ey⟩ := hy1.slice
      obtain ⟨Az, cz, ez⟩ := hy2.slice
      subst ey ez
      have e2 := d2.since hs4
      have y0 : Box (W4.setCell ⟨w.heap.size + 1 + 1, 0, none⟩ (.bool p5)) (w.heap.size + 1 + 1) #[.bool p5, .slice none 0 0, .slice none 0 0] 44 := e2.set 0 _
      have y1 : Box ((W4.setCell ⟨w.heap.size + 1 + 1, 0, none⟩ (.bool p5)).setCell ⟨w.heap.size + 1 + 1, 1, none⟩ (.slice Ay m5.length cy)) (w.heap.size + 1 + 1) #[.bool p5, .slice Ay m5.length cy, .slice none 0 0] 44 := y0.set 1 _
      have y2 : Box (((W4.setCell ⟨w.heap.size + 1 + 1, 0, none⟩ (.bool p5)).setCell ⟨w.heap.size + 1 + 1, 1, none⟩ (.slice Ay m5.length cy)).setCell ⟨w.heap.size + 1 + 1, 2, none⟩ (.slice Az m6.length cz)) (w.heap.size + 1 + 1) #[.bool p5, .slice Ay m5.length cy, .slice Az m6.length cz] 44 := y1.set 2 _
      have q0 := e2.c3
      have f0 := e2.frozen 0
      have q1 := y0.c3
      have f1 := y0.frozen 1
      have q2 := y1.c3
      have f2 := y1.frozen 2
      have q3 := y2.c3
      go_wp2
      refine bodyPost_ret (v := .agg #[.bool p5, .slice Ay m5.length cy, .slice Az m6.length cz]) (by simp [results, Tryz.f82, go_sem, q3, hu44, hu42]) rfl ?_
      exact ⟨_, _, rfl, ((hy1.set e2 (i := 0) (by decide) _).set y0 (i := 1) (by decide) _).set y1 (i := 2) (by decide) _, ((hy2.set e2 (i := 0) (by decide) _).set y0 (i := 1) (by decide) _).set y1 (i := 2) (by decide) _, ((Below.setCell (hs3.trans hs4) (p := ⟨w.heap.size + 1 + 1, 0, none⟩) (by show w.heap.size ≤ w.heap.size + 1 + 1; omega) _).setCell (p := ⟨w.heap.size + 1 + 1, 1, none⟩) (by show w.heap.size ≤ w.heap.size + 1 + 1; omega) _).setCell (p := ⟨w.heap.size + 1 + 1, 2, none⟩) (by show w.heap.size ≤ w.heap.size + 1 + 1; omega) _⟩
theorem ratio_sum.calls (k : Nat) (a0_0 : Bool) (A0_1 : Option Addr) (c0_1 : Nat) (l0_1 : List Int) (A0_2 : Option Addr) (c0_2 : Nat) (l0_2 : List Int) (a1_0 : Bool) (A1_1 : Option Addr) (c1_1 : Nat) (l1_1 : List Int) (A1_2 : Option Addr) (c1_2 : Nat) (l1_2 : List Int) (r1 : Bool) (r2 : List Int) (r3 : List Int) (w : World) (hr0_1 : Kd.C (Kd.int .u64) w A0_1 l0_1.length l0_1) (hc0_1 : l0_1.length ≤ c0_1) (hr0_2 : Kd.C (Kd.int .u64) w A0_2 l0_2.length l0_2) (hc0_2 : l0_2.length ≤ c0_2) (hr1_1 : Kd.C (Kd.int .u64) w A1_1 l1_1.length l1_1) (hc1_1 : l1_1.length ≤ c1_1) (hr1_2 : Kd.C (Kd.int .u64) w A1_2 l1_2.length l1_2) (hc1_2 : l1_2.length ≤ c1_2) (h : ratio_sum.f k a0_0 l0_1 l0_2 a1_0 l1_1 l1_2 = some (r1, r2, r3)) :
    Calls Tryz.prog 82 #[.agg #[.bool a0_0, .slice A0_1 l0_1.length c0_1, .slice A0_2 l0_2.length c0_2], .agg #[.bool a1_0, .slice A1_1 l1_1.length c1_1, .slice A1_2 l1_2.length c1_2]] w fun e w' => ∃ v1_ v2_ : Value, e = .returned (.agg #[.bool r1, v1_, v2_]) ∧ Kd.V (Kd.int .u64) 112 w' w.heap.size (fun k_ => w.heap.size ≤ k_) v1_ r2 ∧ Kd.V (Kd.int .u64) 112 w' w.heap.size (fun k_ => w.heap.size ≤ k_) v2_ r3 ∧ Below w.heap.size w w' := by
  refine (ratio_sum.num k a0_0 _ _ l0_1 l0_2 a1_0 _ _ l1_1 l1_2 r1 r2 r3 w (Num.mk hr0_1 hc0_1) (Num.mk hr0_2 hc0_2) (Num.mk hr1_1 hc1_1) (Num.mk hr1_2 hc1_2) h).mono ?_
  rintro e w' ⟨x, y, rfl, hx, hy, hb⟩
  exact ⟨x, y, rfl, hx.V, hy.V, hb⟩
end
def ratio_Add.chk (k : Nat) : List S44 → Option Int
  | [] => some 0
  | x :: r => (ratio_Check.f k x.f0.f0 x.f0.f1 x.f1).bind fun e => if e = 0 then ratio_Add.chk k r else some e
def ratio_Add.op (k : Nat) (s x : S44) : Option S44 := (ratio_sum.f k s.f0.f0 s.f0.f1 s.f1 x.f0.f0 x.f0.f1 x.f1).bind fun t => some ⟨⟨t.1, t.2.1⟩, t.2.2⟩
def ratio_Add.go (k : Nat) : S44 → List S44 → Option S44
  | s, [] => some s
  | s, x :: r => (ratio_Add.op k s x).bind fun t => ratio_Add.go k t r
def ratio_Add.fold (k : Nat) (s : S44) (l : List S44) : Option (S44 × Int) := (ratio_Add.chk k l).bind fun e => if e = 0 then (ratio_Add.go k s l).bind fun t => some (t, 0) else some (z44, e)
def ratio_Add.f (k : Nat) (l0 : List S44) : Option (Bool × List Int × List Int × Int) := (ratio_Add.fold k ⟨⟨false, []⟩, [1]⟩ l0).bind fun t => some (t.1.f0.f0, t.1.f0.f1, t.1.f1, t.2)
def ratio_Add.Val (W : World) (ok : Nat → Prop) (x : S44) (v : Value) : Prop := ∃ A1 c1 A2 c2, v = .agg #[.bool x.f0.f0, .slice A1 x.f0.f1.length c1, .slice A2 x.f1.length c2] ∧ x.f0.f1.length ≤ c1 ∧ Kd.F (Kd.int .u64) W ok A1 x.f0.f1.length x.f0.f1 ∧ x.f1.length ≤ c2 ∧ Kd.F (Kd.int .u64) W ok A2 x.f1.length x.f1
theorem ratio_Add.ends (b0 b1 : Nat) (u : FrameMode) (w : World) (hc : w.cell? ⟨b0, 0, none⟩ = some (.int .i64 0)) :
    CallsD Tryz.prog 149 #[.pointer (some ⟨b0, 0, none⟩), .pointer (some ⟨b1, 0, none⟩)] u w fun e u' w' => u' = u ∧ (e = .returned (.tuple #[]) ∧ w' = w) := by
  go_enter_d Tryz.func149, Tryz.ntmps149
  go_wp2
  go_end0
  exact ⟨rfl, rfl⟩
set_option maxRecDepth 100000 in
theorem ratio_Add.bars (b0 b1 : Nat) (e : Int) (he : ¬ e = 0) (x0 x1 x2 : Value) (u : FrameMode) (w : World) (hc : w.cell? ⟨b0, 0, none⟩ = some (.int .i64 e))
    (h0 : w.cell? ⟨b1, 0, none⟩ = some x0) (h1 : w.cell? ⟨b1, 1, none⟩ = some x1) (h2 : w.cell? ⟨b1, 2, none⟩ = some x2) (hf : ∀ i, w.frozen? ⟨b1, i, none⟩ = false) :
    CallsD Tryz.prog 149 #[.pointer (some ⟨b0, 0, none⟩), .pointer (some ⟨b1, 0, none⟩)] u w fun e u' w' => u' = u ∧ (e = .returned (.tuple #[]) ∧ w' = ((w.setCell ⟨b1, 0, none⟩ (.bool false)).setCell ⟨b1, 1, none⟩ (.slice none 0 0)).setCell ⟨b1, 2, none⟩ (.slice none 0 0)) := by
  have hu44 := Tryz.underlying44
  have hu42 := Tryz.underlying42
  have f0 := hf 0
  have f1 := hf 1
  have f2 := hf 2
  have g1 : (w.setCell ⟨b1, 0, none⟩ (.bool false)).cell? ⟨b1, 1, none⟩ = some x1 := q_setne (.inr (by decide)) h1
  have g2 : ((w.setCell ⟨b1, 0, none⟩ (.bool false)).setCell ⟨b1, 1, none⟩ (.slice none 0 0)).cell? ⟨b1, 2, none⟩ = some x2 := q_setne (.inr (by decide)) (q_setne (.inr (by decide)) h2)
  clear hf
  go_enter_d Tryz.func149, Tryz.ntmps149
  go_wp2
  go_end0
  exact ⟨rfl, rfl⟩
theorem ratio_Add.chk_step {k : Nat} {l : List S44} {j : Nat} {e : Int} (hj : j < l.length) (h : ratio_Add.chk k (l.drop j) = some e) :
    ∃ c, ratio_Check.f k (rd_T44 l j).f0.f0 (rd_T44 l j).f0.f1 (rd_T44 l j).f1 = some c ∧ (c = 0 ∧ ratio_Add.chk k (l.drop (j + 1)) = some e ∨ ¬ c = 0 ∧ e = c) := by
  have hg : rd_T44 l j = l[j] := by simp [rd_T44, hj]
  rw [List.drop_eq_getElem_cons hj, ratio_Add.chk] at h
  obtain ⟨c, h1, h2⟩ := Option.bind_eq_some_iff.1 h
  rw [hg]
  refine ⟨c, h1, ?_⟩
  by_cases hc : c = 0
  · rw [if_pos hc] at h2; exact .inl ⟨hc, h2⟩
  · rw [if_neg hc] at h2; exact .inr ⟨hc, (Option.some.inj h2).symm⟩
theorem ratio_Add.go_step {k : Nat} {l : List S44} {j : Nat} {s z : S44} (hj : j < l.length) (h : ratio_Add.go k s (l.drop j) = some z) :
    ∃ t, ratio_Add.op k s (rd_T44 l j) = some t ∧ ratio_Add.go k t (l.drop (j + 1)) = some z := by
  have hg : rd_T44 l j = l[j] := by simp [rd_T44, hj]
  rw [List.drop_eq_getElem_cons hj, ratio_Add.go] at h
  rw [hg]
  exact Option.bind_eq_some_iff.1 h
theorem ratio_Add.op_calls (k : Nat) (s x z : S44) (A1 : Option Addr) (c1 : Nat) (A2 : Option Addr) (c2 : Nat) (B1 : Option Addr) (d1 : Nat) (B2 : Option Addr) (d2 : Nat) (w : World)
    (h1 : Kd.C (Kd.int .u64) w A1 s.f0.f1.length s.f0.f1) (g1 : s.f0.f1.length ≤ c1) (h2 : Kd.C (Kd.int .u64) w A2 s.f1.length s.f1) (g2 : s.f1.length ≤ c2)
    (h3 : Kd.C (Kd.int .u64) w B1 x.f0.f1.length x.f0.f1) (g3 : x.f0.f1.length ≤ d1) (h4 : Kd.C (Kd.int .u64) w B2 x.f1.length x.f1) (g4 : x.f1.length ≤ d2) (h : ratio_Add.op k s x = some z) :
    Calls Tryz.prog 82 #[.agg #[.bool s.f0.f0, .slice A1 s.f0.f1.length c1, .slice A2 s.f1.length c2], .agg #[.bool x.f0.f0, .slice B1 x.f0.f1.length d1, .slice B2 x.f1.length d2]] w fun e w' =>
      ∃ A1 c1 A2 c2, e = .returned (.agg #[.bool z.f0.f0, .slice A1 z.f0.f1.length c1, .slice A2 z.f1.length c2]) ∧ (z.f0.f1.length ≤ c1 ∧ Kd.F (Kd.int .u64) w' (fun k => w.heap.size ≤ k) A1 z.f0.f1.length z.f0.f1 ∧ z.f1.length ≤ c2 ∧ Kd.F (Kd.int .u64) w' (fun k => w.heap.size ≤ k) A2 z.f1.length z.f1) ∧ Below w.heap.size w w' := by
  obtain ⟨t, ht, e⟩ := Option.bind_eq_some_iff.1 h
  obtain rfl := Option.some.inj e
  refine (ratio_sum.calls k _ A1 c1 _ A2 c2 _ _ B1 d1 _ B2 d2 _ t.1 t.2.1 t.2.2 w h1 g1 h2 g2 h3 g3 h4 g4 ht).mono ?_
  rintro e w' ⟨v1, v2, rfl, ⟨X1, y1, rfl, k1, f1⟩, ⟨X2, y2, rfl, k2, f2⟩, hb⟩
  exact ⟨X1, y1, X2, y2, rfl, ⟨k1, f1, k2, f2⟩, hb⟩
structure ratio_Add.Lies (n : Nat) (wr : World) (e : Int) (x0 x1 x2 : Value) : Prop where
  c0 : wr.cell? ⟨n + 1, 0, none⟩ = some x0
  c1 : wr.cell? ⟨n + 1, 1, none⟩ = some x1
  c2 : wr.cell? ⟨n + 1, 2, none⟩ = some x2
  f : ∀ i, wr.frozen? ⟨n + 1, i, none⟩ = false
  ce : wr.cell? ⟨n + 1 + 1, 0, none⟩ = some (.int .i64 e)
  fe : wr.frozen? ⟨n + 1 + 1, 0, none⟩ = false
theorem ratio_Add.Lies.below {n : Nat} {wr w1 : World} {e : Int} {x0 x1 x2 : Value} (h : ratio_Add.Lies n wr e x0 x1 x2) (hb : Below wr.heap.size wr w1) : ratio_Add.Lies n w1 e x0 x1 x2 :=
  ⟨q_below hb h.c0, q_below hb h.c1, q_below hb h.c2, fun i => (hb.frozen (p := ⟨n + 1, i, none⟩) (show n + 1 < wr.heap.size from World.block_lt_of_cell? wr (a := ⟨n + 1, 0, none⟩) h.c0)).trans (h.f i), q_below hb h.ce, q_fbelow hb h.ce h.fe⟩
theorem ratio_Add.Lies.err {n : Nat} {wr : World} {e : Int} {x0 x1 x2 : Value} (h : ratio_Add.Lies n wr e x0 x1 x2) (e' : Int) : ratio_Add.Lies n (wr.setCell ⟨n + 1 + 1, 0, none⟩ (.int .i64 e')) e' x0 x1 x2 :=
  ⟨q_setne (.inl (by omega)) h.c0, q_setne (.inl (by omega)) h.c1, q_setne (.inl (by omega)) h.c2, fun i => by rw [World.frozen?_setCell]; exact h.f i, q_set h.ce, by rw [World.frozen?_setCell]; exact h.fe⟩
theorem ratio_Add.Lies.out {n : Nat} {wr : World} {e : Int} {x0 x1 x2 : Value} (h : ratio_Add.Lies n wr e x0 x1 x2) (y0 y1 y2 : Value) : ratio_Add.Lies n (((wr.setCell ⟨n + 1, 0, none⟩ y0).setCell ⟨n + 1, 1, none⟩ y1).setCell ⟨n + 1, 2, none⟩ y2) e y0 y1 y2 :=
  ⟨q_setne (.inr (by decide)) (q_setne (.inr (by decide)) (q_set h.c0)), q_setne (.inr (by decide)) (q_set (q_setne (.inr (by decide)) h.c1)), q_set (q_setne (.inr (by decide)) (q_setne (.inr (by decide)) h.c2)),
    fun i => by rw [World.frozen?_setCell, World.frozen?_setCell, World.frozen?_setCell]; exact h.f i, q_setne (.inl (by omega)) (q_setne (.inl (by omega)) (q_setne (.inl (by omega)) h.ce)), by rw [World.frozen?_setCell, World.frozen?_setCell, World.frozen?_setCell]; exact h.fe⟩
theorem ratio_Add.newLies (w : World) (a b c : Value) (T : Nat) : ratio_Add.Lies w.heap.size (((w.alloc (.cells #[a, b, c] T)).alloc (.cells #[.bool false, .slice none 0 0, .slice none 0 0] T)).alloc (.cells #[.int .i64 0] 27)) 0 (.bool false) (.slice none 0 0) (.slice none 0 0) :=
  ⟨q_old _ (q_new (by simp) rfl), q_old _ (q_new (by simp) rfl), q_old _ (q_new (by simp) rfl), fun i => q_fold _ (by simp) (q_fnew (by simp)), q_new (by simp) rfl, q_fnew (by simp)⟩
def ratio_Add.Has3 (wr : World) (b : Nat) (x0 x1 x2 : Value) : Prop := wr.cell? ⟨b, 0, none⟩ = some x0 ∧ wr.cell? ⟨b, 1, none⟩ = some x1 ∧ wr.cell? ⟨b, 2, none⟩ = some x2
theorem ratio_Add.Has3.below {wr w1 : World} {b : Nat} {x0 x1 x2 : Value} (h : ratio_Add.Has3 wr b x0 x1 x2) (hb : Below wr.heap.size wr w1) : ratio_Add.Has3 w1 b x0 x1 x2 := ⟨q_below hb h.1, q_below hb h.2.1, q_below hb h.2.2⟩
theorem ratio_Add.Has3.set {wr : World} {b b' i : Nat} {v x0 x1 x2 : Value} (h : ratio_Add.Has3 wr b x0 x1 x2) (hne : b ≠ b') : ratio_Add.Has3 (wr.setCell ⟨b', i, none⟩ v) b x0 x1 x2 := ⟨q_setne (.inl hne) h.1, q_setne (.inl hne) h.2.1, q_setne (.inl hne) h.2.2⟩
theorem ratio_Add.step_below {a b c : World} (h1 : Below a.heap.size a b) (h2 : Below b.heap.size b c) : Below a.heap.size a c := h1.trans (h2.mono h1.size)
set_option maxRecDepth 100000 in
set_option maxHeartbeats 4000000 in
theorem ratio_Add.fold_calls (k : Nat) (P : Nat → Prop) (s : S44) (A1 : Option Addr) (c1 : Nat) (A2 : Option Addr) (c2 : Nat) (A0 : Option Addr) (c0 : Nat) (l0 : List S44) (z : S44) (e : Int) (w : World)
    (k1 : s.f0.f1.length ≤ c1) (f1 : Kd.F (Kd.int .u64) w P A1 s.f0.f1.length s.f0.f1) (k2 : s.f1.length ≤ c2) (f2 : Kd.F (Kd.int .u64) w P A2 s.f1.length s.f1) (hr0 : Kd.C k44 w A0 l0.length l0) (h : ratio_Add.fold k s l0 = some (z, e)) :
    Calls Tryz.prog 80 #[.agg #[.bool s.f0.f0, .slice A1 s.f0.f1.length c1, .slice A2 s.f1.length c2], .func (.func 82) #[] #[], .slice A0 l0.length c0] w fun en w' =>
      ∃ v, en = .returned (.tuple #[v, .int .i64 e]) ∧ ratio_Add.Val w' (fun k => P k ∨ w.heap.size ≤ k) z v ∧ Below w.heap.size w w' := by
  obtain ⟨ee, hk0, hk1⟩ := Option.bind_eq_some_iff.1 h
  have hu44 := Tryz.underlying44
  have hu42 := Tryz.underlying42
  have hm : l0.length ≤ 9223372036854775807 := hr0.2.1
  have HK0 := Aside0.mk hk0
  have HK1 := Aside0.mk hk1
  have HR0 := Aside0.mk hr0
  have HF1 := Aside0.mk (Kd.F_bound f1)
  have HF2 := Aside0.mk (Kd.F_bound f2)
  have HC1 := Aside0.mk k1
  have HC2 := Aside0.mk k2
  clear h hk0 hk1 hr0 k1 k2 f1 f2
  have hmf : ∀ (fn : Fn) (first cap : Array Value) (w : World), (Instr.makeFunc fn first cap).run Tryz.prog w = .ok (.func fn first cap) w := fun _ _ _ _ => rfl
  go_enter_defers Tryz.func80, Tryz.ntmps80
  go_wp2
  go_loopw [15] (fun i wr => ∃ j : Nat, j ≤ l0.length ∧ i = .int .i64 j ∧ Aside0 (ratio_Add.chk k (l0.drop j) = some ee) ∧ Aside0 (ratio_Add.Has3 wr w.heap.size (.bool s.f0.f0) (.slice A1 s.f0.f1.length c1) (.slice A2 s.f1.length c2)) ∧ Aside0 (ratio_Add.Lies w.heap.size wr 0 (.bool false) (.slice none 0 0) (.slice none 0 0)) ∧ Aside0 (Below w.heap.size w wr)  ∧ Aside0 (w.heap.size + 3 ≤ wr.heap.size)) (fun i _ => l0.length - (intOf i).toNat)
  case atStart => exact ⟨0, Nat.zero_le _, rfl, HK0, ⟨⟨q_old _ (q_old _ (q_new rfl rfl)), q_old _ (q_old _ (q_new rfl rfl)), q_old _ (q_old _ (q_new rfl rfl))⟩⟩, ⟨ratio_Add.newLies _ _ _ _ _⟩, ⟨below_alloc (below_alloc (below_alloc (Below.refl _ _) _) _) _⟩, ⟨by simp⟩⟩
  case round =>
    obtain ⟨j, hj, rfl, HD, HS, HL, HB, HZ⟩ := hrel
    by_cases hlt : j < l0.length
    · obtain ⟨ad, B1, d1, B2, d2, e1, x0, x1, x2, g1, s1, g2, s2⟩ := at_T44 (Kd.C_below HR0.out HB.out) (j : Int) (by omega) (by omega)
      obtain ⟨c, hc, hcc⟩ := ratio_Add.chk_step hlt HD.out
      subst e1
      rw [Int.toNat_natCast] at x0 x1 x2
      have HX := Aside0.mk (And.intro g1 (And.intro s1 (And.intro g2 s2)))
      have HC := Aside0.mk hc
      have HCC := Aside0.mk hcc
      clear g1 s1 g2 s2 hc hcc
      go_wp2_with (go_at_call 139; (with_reducible refine (ratio_Check.calls k _ B1 d1 _ B2 d2 _ c _ (Kd.C_alloc HX.out.2.1 _) HX.out.1 (Kd.C_alloc HX.out.2.2.2 _) HX.out.2.2.1 HC.out).mono ?_); rintro e w4 ⟨rfl, hb⟩; have HB4 := Aside0.mk (ratio_Add.step_below (below_alloc (Below.refl _ _) _) hb); clear hb; have HL4 := Aside0.mk (HL.out.below HB4.out); have hce := HL4.out.ce; have hfe := HL4.out.fe)
      · have hcb : ¬ c = 0 := by rename_i hq; simpa using hq
        obtain rfl : ee = c := by rcases HCC.out with ⟨h1, _⟩ | ⟨_, h2⟩; exact absurd h1 hcb; exact h2
        have hz := HK1.out
        rw [if_neg hcb] at hz
        obtain ⟨rfl, rfl⟩ := Prod.mk.inj (Option.some.inj hz)
        have HL5 := Aside0.mk (HL4.out.err ee)
        refine leaves_cons (f := 149) (args := #[.pointer (some ⟨w.heap.size + 1 + 1, 0, none⟩), .pointer (some ⟨w.heap.size + 1, 0, none⟩)]) (by simp) (by simp [go_sem]) ?_
        refine (ratio_Add.bars (w.heap.size + 1 + 1) (w.heap.size + 1) ee hcb _ _ _ _ _ HL5.out.ce HL5.out.c0 HL5.out.c1 HL5.out.c2 HL5.out.f).mono ?_
        rintro e u' w'' ⟨rfl, rfl, rfl⟩
        have HL6 := Aside0.mk (HL5.out.out (.bool false) (.slice none 0 0) (.slice none 0 0))
        refine ⟨.tuple #[.agg #[.bool false, .slice none 0 0, .slice none 0 0], .int .i64 ee], ?_, _, rfl, ⟨none, 0, none, 0, rfl, Nat.le_refl _, Kd.F_nil _ _ _, Nat.le_refl _, Kd.F_nil _ _ _⟩, ?_⟩
        · have q0 := HL6.out.c0
          have q1 := HL6.out.c1
          have q2 := HL6.out.c2
          have q3 := HL6.out.ce
          simp [results, Tryz.f80, go_sem, q0, q1, q2, q3, hu44, hu42]
        · exact (((((HB.out.trans (HB4.out.mono HB.out.size))).setCell (p := ⟨w.heap.size + 1 + 1, 0, none⟩) (by show w.heap.size ≤ w.heap.size + 1 + 1; omega) _).setCell (p := ⟨w.heap.size + 1, 0, none⟩) (by show w.heap.size ≤ w.heap.size + 1; omega) _).setCell (p := ⟨w.heap.size + 1, 1, none⟩) (by show w.heap.size ≤ w.heap.size + 1; omega) _).setCell (p := ⟨w.heap.size + 1, 2, none⟩) (by show w.heap.size ≤ w.heap.size + 1; omega) _
      · have hcb : c = 0 := by rename_i hq; simpa using hq
        subst hcb
        have hk : ratio_Add.chk k (l0.drop (j + 1)) = some ee := by rcases HCC.out with ⟨_, h1⟩ | ⟨h2, _⟩; exact h1; exact absurd rfl h2
        exact ⟨⟨j + 1, by omega, by simp, ⟨hk⟩, ⟨(HS.out.below HB4.out).set (by omega)⟩, ⟨HL4.out.err 0⟩, ⟨(HB.out.trans (HB4.out.mono HB.out.size)).setCell (p := ⟨w.heap.size + 1 + 1, 0, none⟩) (by show w.heap.size ≤ w.heap.size + 1 + 1; omega) _⟩, ⟨by have := HZ.out; have := HB4.out.size; simp; omega⟩⟩, by simp [intOf]; omega⟩
    · obtain rfl : j = l0.length := by omega
      obtain ⟨hs0, hs1, hs2⟩ := HS.out
      obtain ⟨hc0, hc1, hc2, hf, hce, hfe⟩ := HL.out
      have hf0 := hf 0
      have hf1 := hf 1
      have hf2 := hf 2
      obtain rfl : ee = 0 := by have := HD.out; rw [List.drop_length] at this; exact (Option.some.inj this).symm
      have hz := HK1.out
      rw [if_pos rfl] at hz
      obtain ⟨zz, hgo, hzz⟩ := Option.bind_eq_some_iff.1 hz
      obtain ⟨rfl, rfl⟩ := Prod.mk.inj (Option.some.inj hzz)
      have HGO := Aside0.mk hgo
      clear hf hz hzz hgo
      go_wp2
      have HL := Aside0.mk (HL.out.out (.bool s.f0.f0) (.slice A1 s.f0.f1.length c1) (.slice A2 s.f1.length c2))
      have HB := Aside0.mk (((HB.out.setCell (p := ⟨w.heap.size + 1, 0, none⟩) (by show w.heap.size ≤ w.heap.size + 1; omega) (.bool s.f0.f0)).setCell (p := ⟨w.heap.size + 1, 1, none⟩) (by show w.heap.size ≤ w.heap.size + 1; omega) (.slice A1 s.f0.f1.length c1)).setCell (p := ⟨w.heap.size + 1, 2, none⟩) (by show w.heap.size ≤ w.heap.size + 1; omega) (.slice A2 s.f1.length c2))
      have HZ : Aside0 (w.heap.size + 3 ≤ (((wr.setCell ⟨w.heap.size + 1, 0, none⟩ (.bool s.f0.f0)).setCell ⟨w.heap.size + 1, 1, none⟩ (.slice A1 s.f0.f1.length c1)).setCell ⟨w.heap.size + 1, 2, none⟩ (.slice A2 s.f1.length c2)).heap.size) := ⟨by have := HZ.out; simp; omega⟩
      clear hs0 hs1 hs2 hc0 hc1 hc2 hce hfe hf0 hf1 hf2 HS HD HK1 HK0 hlt
      generalize ((wr.setCell ⟨w.heap.size + 1, 0, none⟩ (.bool s.f0.f0)).setCell ⟨w.heap.size + 1, 1, none⟩ (.slice A1 s.f0.f1.length c1)).setCell ⟨w.heap.size + 1, 2, none⟩ (.slice A2 s.f1.length c2) = wS at *
      have HF1 := Aside0.mk (Kd.F_below HF1.out HB.out)
      have HF2 := Aside0.mk (Kd.F_below HF2.out HB.out)
      go_loopw [27] (fun i wr => ∃ (j : Nat) (y : S44) (X1 : Option Addr) (e1 : Nat) (X2 : Option Addr) (e2 : Nat), j ≤ l0.length ∧ i = .int .i64 j ∧ Aside0 (ratio_Add.go k y (l0.drop j) = some zz) ∧ Aside0 (ratio_Add.Lies w.heap.size wr 0 (.bool y.f0.f0) (.slice X1 y.f0.f1.length e1) (.slice X2 y.f1.length e2)) ∧ Aside0 (Below w.heap.size w wr) ∧ Aside0 (w.heap.size + 3 ≤ wr.heap.size) ∧ Aside0 (y.f0.f1.length ≤ e1 ∧ Kd.F (Kd.int .u64) wr (fun k => P k ∧ k < w.heap.size ∨ w.heap.size + 3 ≤ k) X1 y.f0.f1.length y.f0.f1 ∧ y.f1.length ≤ e2 ∧ Kd.F (Kd.int .u64) wr (fun k => P k ∧ k < w.heap.size ∨ w.heap.size + 3 ≤ k) X2 y.f1.length y.f1)) (fun i _ => l0.length - (intOf i).toNat)
      case atStart => exact ⟨0, s, A1, c1, A2, c2, Nat.zero_le _, rfl, HGO, HL, HB, HZ, ⟨HC1.out, Kd.F_mono HF1.out (fun _ h => .inl h), HC2.out, Kd.F_mono HF2.out (fun _ h => .inl h)⟩⟩
      case round =>
        clear HF1 HF2 HC1 HC2 HGO HL HB HZ
        obtain ⟨j, y, X1, e1, X2, e2, hj, rfl, HD, HL, HB, HZ, HY⟩ := hrel
        obtain ⟨hc0, hc1, hc2, hf, hce, hfe⟩ := HL.out
        have hf0 := hf 0
        have hf1 := hf 1
        have hf2 := hf 2
        clear hf
        by_cases hlt : j < l0.length
        · obtain ⟨ad, B1, d1, B2, d2, e1, x0, x1, x2, g1, s1, g2, s2⟩ := at_T44 (Kd.C_below HR0.out HB.out) (j : Int) (by omega) (by omega)
          obtain ⟨t, ht, htt⟩ := ratio_Add.go_step hlt HD.out
          subst e1
          rw [Int.toNat_natCast] at x0 x1 x2
          have HX := Aside0.mk (And.intro g1 (And.intro s1 (And.intro g2 s2)))
          have HT := Aside0.mk ht
          have HTT := Aside0.mk htt
          clear g1 s1 g2 s2 ht htt
          have ha0 := q_old (.cells #[.bool (rd_T44 l0 (j : Int)).f0.f0, .slice B1 (rd_T44 l0 (j : Int)).f0.f1.length d1, .slice B2 (rd_T44 l0 (j : Int)).f1.length d2] 44) hc0
          have ha1 := q_old (.cells #[.bool (rd_T44 l0 (j : Int)).f0.f0, .slice B1 (rd_T44 l0 (j : Int)).f0.f1.length d1, .slice B2 (rd_T44 l0 (j : Int)).f1.length d2] 44) hc1
          have ha2 := q_old (.cells #[.bool (rd_T44 l0 (j : Int)).f0.f0, .slice B1 (rd_T44 l0 (j : Int)).f0.f1.length d1, .slice B2 (rd_T44 l0 (j : Int)).f1.length d2] 44) hc2
          clear hc0 hc1 hc2
          go_wp2_with (go_at_call 82; (with_reducible refine (ratio_Add.op_calls k _ _ t X1 _ X2 _ B1 d1 B2 d2 _ (Kd.C_alloc (Kd.F_now HY.out.2.1) _) HY.out.1 (Kd.C_alloc (Kd.F_now HY.out.2.2.2) _) HY.out.2.2.1 (Kd.C_alloc HX.out.2.1 _) HX.out.1 (Kd.C_alloc HX.out.2.2.2 _) HX.out.2.2.1 HT.out).mono ?_); rintro e w4 ⟨Y1, m1, Y2, m2, rfl, hv, hb⟩; have HB4 := Aside0.mk (ratio_Add.step_below (below_alloc (Below.refl _ _) _) hb); have HV := Aside0.mk hv; clear hb hv; have HL4 := Aside0.mk (HL.out.below HB4.out); have hd0 := HL4.out.c0; have hd1 := HL4.out.c1; have hd2 := HL4.out.c2; have he0 := HL4.out.f 0; have he1 := HL4.out.f 1; have he2 := HL4.out.f 2)
          refine ⟨⟨j + 1, t, Y1, m1, Y2, m2, by omega, by simp, HTT, ⟨HL4.out.out _ _ _⟩, ⟨(((HB.out.trans (HB4.out.mono HB.out.size)).setCell (p := ⟨w.heap.size + 1, 0, none⟩) (by show w.heap.size ≤ w.heap.size + 1; omega) _).setCell (p := ⟨w.heap.size + 1, 1, none⟩) (by show w.heap.size ≤ w.heap.size + 1; omega) _).setCell (p := ⟨w.heap.size + 1, 2, none⟩) (by show w.heap.size ≤ w.heap.size + 1; omega) _⟩, ⟨by have := HZ.out; have := HB4.out.size; simp; omega⟩, ⟨HV.out.1, ?_, HV.out.2.2.1, ?_⟩⟩, by simp [intOf]; omega⟩
          · have hz := HZ.out
            exact Kd.F_mono (Kd.F_far (p := ⟨w.heap.size + 1, 2, none⟩) (Kd.F_far (p := ⟨w.heap.size + 1, 1, none⟩) (Kd.F_far (p := ⟨w.heap.size + 1, 0, none⟩) HV.out.2.1 (fun k hk => by simp at hk ⊢; omega) _) (fun k hk => by simp at hk ⊢; omega) _) (fun k hk => by simp at hk ⊢; omega) _) (fun k hk => .inr (by simp at hk; omega))
          · have hz := HZ.out
            exact Kd.F_mono (Kd.F_far (p := ⟨w.heap.size + 1, 2, none⟩) (Kd.F_far (p := ⟨w.heap.size + 1, 1, none⟩) (Kd.F_far (p := ⟨w.heap.size + 1, 0, none⟩) HV.out.2.2.2 (fun k hk => by simp at hk ⊢; omega) _) (fun k hk => by simp at hk ⊢; omega) _) (fun k hk => by simp at hk ⊢; omega) _) (fun k hk => .inr (by simp at hk; omega))
        · obtain rfl : j = l0.length := by omega
          obtain rfl : y = zz := by have := HD.out; rw [List.drop_length] at this; exact Option.some.inj this
          go_wp2
          have HL4 := Aside0.mk ((HL.out.out (.bool y.f0.f0) (.slice X1 y.f0.f1.length e1) (.slice X2 y.f1.length e2)).err 0)
          refine leaves_cons (f := 149) (args := #[.pointer (some ⟨w.heap.size + 1 + 1, 0, none⟩), .pointer (some ⟨w.heap.size + 1, 0, none⟩)]) (by simp) (by simp [go_sem]) ?_
          refine (ratio_Add.ends (w.heap.size + 1 + 1) (w.heap.size + 1) _ _ HL4.out.ce).mono ?_
          rintro e u' w'' ⟨rfl, rfl, rfl⟩
          refine ⟨.tuple #[.agg #[.bool y.f0.f0, .slice X1 y.f0.f1.length e1, .slice X2 y.f1.length e2], .int .i64 0], ?_, _, rfl, ⟨X1, e1, X2, e2, rfl, HY.out.1, ?_, HY.out.2.2.1, ?_⟩, ?_⟩
          · have q0 := HL4.out.c0
            have q1 := HL4.out.c1
            have q2 := HL4.out.c2
            have q3 := HL4.out.ce
            simp [results, Tryz.f80, go_sem, q0, q1, q2, q3, hu44, hu42]
          · exact Kd.F_mono (Kd.F_far (p := ⟨w.heap.size + 1 + 1, 0, none⟩) (Kd.F_far (p := ⟨w.heap.size + 1, 2, none⟩) (Kd.F_far (p := ⟨w.heap.size + 1, 1, none⟩) (Kd.F_far (p := ⟨w.heap.size + 1, 0, none⟩) HY.out.2.1 (fun k hk => by simp at hk ⊢; omega) _) (fun k hk => by simp at hk ⊢; omega) _) (fun k hk => by simp at hk ⊢; omega) _) (fun k hk => by simp at hk ⊢; omega) _) (fun k hk => by rcases hk with hk | hk; exact .inl hk.1; exact .inr (by omega))
          · exact Kd.F_mono (Kd.F_far (p := ⟨w.heap.size + 1 + 1, 0, none⟩) (Kd.F_far (p := ⟨w.heap.size + 1, 2, none⟩) (Kd.F_far (p := ⟨w.heap.size + 1, 1, none⟩) (Kd.F_far (p := ⟨w.heap.size + 1, 0, none⟩) HY.out.2.2.2 (fun k hk => by simp at hk ⊢; omega) _) (fun k hk => by simp at hk ⊢; omega) _) (fun k hk => by simp at hk ⊢; omega) _) (fun k hk => by simp at hk ⊢; omega) _) (fun k hk => by rcases hk with hk | hk; exact .inl hk.1; exact .inr (by omega))
          · exact (((HB.out.setCell (p := ⟨w.heap.size + 1, 0, none⟩) (by show w.heap.size ≤ w.heap.size + 1; omega) _).setCell (p := ⟨w.heap.size + 1, 1, none⟩) (by show w.heap.size ≤ w.heap.size + 1; omega) _).setCell (p := ⟨w.heap.size + 1, 2, none⟩) (by show w.heap.size ≤ w.heap.size + 1; omega) _).setCell (p := ⟨w.heap.size + 1 + 1, 0, none⟩) (by show w.heap.size ≤ w.heap.size + 1 + 1; omega) _
set_option maxRecDepth 100000 in
set_option maxHeartbeats 4000000 in
theorem ratio_Add.calls (k : Nat) (A0 : Option Addr) (c0 : Nat) (l0 : List S44) (r1 : Bool) (r2 : List Int) (r3 : List Int) (r4 : Int) (w : World) (hr0 : Kd.C k44 w A0 l0.length l0) (hc0 : l0.length ≤ c0) (h : ratio_Add.f k l0 = some (r1, r2, r3, r4)) :
    Calls Tryz.prog 33 #[.slice A0 l0.length c0] w fun e w' => ∃ v1_ v2_ : Value, e = .returned (.tuple #[.agg #[.bool r1, v1_, v2_], .int .i64 r4]) ∧ Kd.V (Kd.int .u64) 112 w' w.heap.size (fun k_ => (w.heap.size ≤ k_)) v1_ r2 ∧ Kd.V (Kd.int .u64) 112 w' w.heap.size (fun k_ => (w.heap.size ≤ k_)) v2_ r3 ∧ Below w.heap.size w w' := by
  obtain ⟨t, ht, e⟩ := Option.bind_eq_some_iff.1 h
  obtain ⟨⟨⟨b_, n_⟩, d_⟩, e_⟩ := t
  cases e
  have HT := Aside0.mk ht
  have HR0 := Aside0.mk hr0
  have hu44 := Tryz.underlying44
  have hu42 := Tryz.underlying42
  clear h ht hr0 hc0
  go_enter Tryz.func33, Tryz.ntmps33
  go_wp2_with (first | (go_at_call 81; (with_reducible refine (ratio_one.calls [1] _ rfl).mono ?_); rintro e w4 ⟨v0, rfl, hv, hb⟩; obtain ⟨X1, y1, rfl, k1, f1⟩ := Kd.R_V (base' := 0) (Kd.R_bound hv); have HB5 := Aside0.mk hb; have HB4 := Aside0.mk (ratio_Add.step_below (below_alloc (Below.refl _ _) _) hb); have HK := Aside0.mk k1; have HF := Aside0.mk f1; clear hb k1 f1 hv) | (go_at_call 80; go_loud (refine (ratio_Add.fold_calls k (fun k => w.heap.size < k) ⟨⟨false, []⟩, [1]⟩ none 0 X1 y1 A0 c0 l0 _ _ _ (Nat.le_refl _) (Kd.F_nil _ _ _) HK.out (Kd.F_mono HF.out (fun k hk => by have := hk.2.1; simp at this; omega)) (Kd.C_below HR0.out HB4.out) HT.out).mono ?_; rintro e w5 ⟨v, rfl, ⟨Y1, m1, Y2, m2, rfl, g1, h1, g2, h2⟩, hb⟩; have hc0 := q_below (b := w.heap.size) (i := 0) hb (q_below HB5.out (q_new rfl rfl)); have hc1 := q_below (b := w.heap.size) (i := 1) hb (q_below HB5.out (q_new rfl rfl)); have hc2 := q_below (b := w.heap.size) (i := 2) hb (q_below HB5.out (q_new rfl rfl)); have hf0 := q_fbelow (i := 0) hb (q_below HB5.out (q_new (n := w.heap.size) (i := 0) rfl rfl)) (q_fbelow HB5.out (q_new (n := w.heap.size) (i := 0) rfl rfl) (q_fnew rfl)); have hf1 := q_fbelow (i := 1) hb (q_below HB5.out (q_new (n := w.heap.size) (i := 1) rfl rfl)) (q_fbelow HB5.out (q_new (n := w.heap.size) (i := 1) rfl rfl) (q_fnew rfl)); have hf2 := q_fbelow (i := 2) hb (q_below HB5.out (q_new (n := w.heap.size) (i := 2) rfl rfl)) (q_fbelow HB5.out (q_new (n := w.heap.size) (i := 2) rfl rfl) (q_fnew rfl)); have HB6 := Aside0.mk (ratio_Add.step_below HB4.out hb); have HV := Aside0.mk (And.intro g1 (And.intro h1 (And.intro g2 h2))); clear hb g1 g2 h1 h2)))
  have hz0 := q_setne (b := w.heap.size) (i := 0) (b' := w.heap.size) (i' := 2) (v := .slice Y2 d_.length m2) (.inr (by decide)) (q_setne (b := w.heap.size) (i := 0) (b' := w.heap.size) (i' := 1) (v := .slice Y1 n_.length m1) (.inr (by decide)) (q_set (v := .bool b_) hc0))
  have hz1 := q_setne (b := w.heap.size) (i := 1) (b' := w.heap.size) (i' := 2) (v := .slice Y2 d_.length m2) (.inr (by decide)) (q_set (v := .slice Y1 n_.length m1) (q_setne (b := w.heap.size) (i := 1) (b' := w.heap.size) (i' := 0) (v := .bool b_) (.inr (by decide)) hc1))
  have hz2 := q_set (v := .slice Y2 d_.length m2) (q_setne (b := w.heap.size) (i := 2) (b' := w.heap.size) (i' := 1) (v := .slice Y1 n_.length m1) (.inr (by decide)) (q_setne (b := w.heap.size) (i := 2) (b' := w.heap.size) (i' := 0) (v := .bool b_) (.inr (by decide)) hc2))
  refine bodyPost_ret (v := .tuple #[.agg #[.bool b_, .slice Y1 n_.length m1, .slice Y2 d_.length m2], .int .i64 e_]) (by simp [results, Tryz.f33, go_sem, hz0, hz1, hz2, hu44, hu42]) rfl ?_
  have hs := HB5.out.size
  simp at hs
  refine ⟨_, _, rfl, ⟨Y1, m1, rfl, HV.out.1, ?_⟩, ⟨Y2, m2, rfl, HV.out.2.2.1, ?_⟩, ((HB6.out.setCell (p := ⟨w.heap.size, 0, none⟩) (Nat.le_refl _) _).setCell (p := ⟨w.heap.size, 1, none⟩) (Nat.le_refl _) _).setCell (p := ⟨w.heap.size, 2, none⟩) (Nat.le_refl _) _⟩
  · exact Kd.F_mono (Kd.F_far (p := ⟨w.heap.size, 2, none⟩) (Kd.F_far (p := ⟨w.heap.size, 1, none⟩) (Kd.F_far (p := ⟨w.heap.size, 0, none⟩) HV.out.2.1 (fun k hk => by simp at hk ⊢; omega) _) (fun k hk => by simp at hk ⊢; omega) _) (fun k hk => by simp at hk ⊢; omega) _) (fun k hk => by rcases hk with hk | hk <;> omega)
  · exact Kd.F_mono (Kd.F_far (p := ⟨w.heap.size, 2, none⟩) (Kd.F_far (p := ⟨w.heap.size, 1, none⟩) (Kd.F_far (p := ⟨w.heap.size, 0, none⟩) HV.out.2.2.2 (fun k hk => by simp at hk ⊢; omega) _) (fun k hk => by simp at hk ⊢; omega) _) (fun k hk => by simp at hk ⊢; omega) _) (fun k hk => by rcases hk with hk | hk <;> omega)
def ratio_product.f (k : Nat) (a0_0 : Bool) (l0_1 : List Int) (l0_2 : List Int) (a1_0 : Bool) (l1_1 : List Int) (l1_2 : List Int) : Option (Bool × List Int × List Int) := (quot_Gcd.f k l0_1 l1_2).bind fun t386 => ((quot_Gcd.f k l1_1 l0_2).bind fun t389 => ((ratio_by.f k l0_1 t386).bind fun t392 => ((ratio_by.f k l1_1 t389).bind fun t395 => ((times_Mul.f t392 t395).bind fun t398 => ((signed_Make.f k (a0_0 != a1_0) t398).bind fun bt401 => ((ratio_by.f k l0_2 t389).bind fun t406 => ((ratio_by.f k l1_2 t386).bind fun t409 => ((times_Mul.f t406 t409).bind fun t412 => (some (bt401.1, bt401.2, t412))))))))))
set_option maxRecDepth 100000 in
set_option maxHeartbeats 4000000 in
theorem ratio_product.num (k : Nat) (a0_0 : Bool) (v1 v2 : Value) (l0_1 : List Int) (l0_2 : List Int) (a1_0 : Bool) (u1 u2 : Value) (l1_1 : List Int) (l1_2 : List Int) (r1 : Bool) (r2 r3 : List Int) (w : World) (hv1 : Num w v1 l0_1) (hv2 : Num w v2 l0_2) (hu1 : Num w u1 l1_1) (hu2 : Num w u2 l1_2)
   (h : ratio_product.f k a0_0 l0_1 l0_2 a1_0 l1_1 l1_2 = some (r1, r2, r3)) :
    Calls Tryz.prog 169 #[.agg #[.bool a0_0, v1, v2], .agg #[.bool a1_0, u1, u2]] w fun e w' => ∃ x y, e = .returned (.agg #[.bool r1, x, y]) ∧ NewN w.heap.size w' x r2 ∧ NewN w.heap.size w' y r3 ∧ Since w w' := by
  have hu44 := Tryz.underlying44
  have hu42 := Tryz.underlying42
  obtain ⟨t1, g1, h⟩ := Option.bind_eq_some_iff.1 h
  obtain ⟨t2, g2, h⟩ := Option.bind_eq_some_iff.1 h
  obtain ⟨t3, g3, h⟩ := Option.bind_eq_some_iff.1 h
  obtain ⟨t4, g4, h⟩ := Option.bind_eq_some_iff.1 h
  obtain ⟨t5, g5, h⟩ := Option.bind_eq_some_iff.1 h
  obtain ⟨⟨b6, t6⟩, g6, h⟩ := Option.bind_eq_some_iff.1 h
  obtain ⟨t7, g7, h⟩ := Option.bind_eq_some_iff.1 h
  obtain ⟨t8, g8, h⟩ := Option.bind_eq_some_iff.1 h
  obtain ⟨t9, g9, h⟩ := Option.bind_eq_some_iff.1 h
  have h := Option.some.inj h
  simp only [Prod.mk.injEq] at h
  obtain ⟨rfl, rfl, rfl⟩ := h
  have G := Aside0.mk (And.intro g1 (And.intro g2 (And.intro g3 (And.intro g4 (And.intro g5 (And.intro g6 (And.intro g7 (And.intro g8 g9))))))))
  clear g1 g2 g3 g4 g5 g6 g7 g8 g9
  go_enter Tryz.func169, Tryz.ntmps169
  go_wp2
  obtain ⟨W, hW⟩ : ∃ W, W = (((w.alloc (.cells #[.bool a0_0, v1, v2] 44)).alloc (.cells #[.bool a1_0, u1, u2] 44)).alloc (.cells #[.bool false, .slice none 0 0, .slice none 0 0] 44)) := ⟨_, rfl⟩
  have hs : Since w W := by rw [hW]; exact ((Since.refl w).alloc _).alloc _ |>.alloc _
  have b0 : Box W w.heap.size #[.bool a0_0, v1, v2] 44 := by rw [hW]; exact ((Box.new _ _ _).since ((Since.refl _).alloc _)).since ((Since.refl _).alloc _)
  have b1 : Box W (w.heap.size + 1) #[.bool a1_0, u1, u2] 44 := by rw [hW]; have := Box.new (w.alloc (.cells #[.bool a0_0, v1, v2] 44)) #[.bool a1_0, u1, u2] 44; rw [World.size_alloc] at this; exact this.since ((Since.refl _).alloc _)
  have b2 : Box W (w.heap.size + 1 + 1) #[.bool false, .slice none 0 0, .slice none 0 0] 44 := by rw [hW]; have := Box.new ((w.alloc (.cells #[.bool a0_0, v1, v2] 44)).alloc (.cells #[.bool a1_0, u1, u2] 44)) #[.bool false, .slice none 0 0, .slice none 0 0] 44; rw [World.size_alloc, World.size_alloc] at this; exact this
  rw [← hW]
  clear hW
  have N1 := hv1.since hs
  have N2 := hv2.since hs
  have M1 := hu1.since hs
  have M2 := hu2.since hs
  refine Reg.region (rows := [⟨8, [], .is (.pointer (some ⟨w.heap.size, 0, none⟩))⟩, ⟨9, [0], .is (.pointer (some ⟨w.heap.size, 1, none⟩))⟩, ⟨10, [1], .is v1⟩, ⟨11, [], .is (.pointer (some ⟨w.heap.size + 1, 2, none⟩))⟩, ⟨12, [3], .is u2⟩, ⟨13, [2, 4], .new w.heap.size t1⟩,
    ⟨14, [], .is (.pointer (some ⟨w.heap.size + 1, 0, none⟩))⟩, ⟨15, [6], .is (.pointer (some ⟨w.heap.size + 1, 1, none⟩))⟩, ⟨16, [7], .is u1⟩, ⟨17, [], .is (.pointer (some ⟨w.heap.size, 2, none⟩))⟩, ⟨18, [9], .is v2⟩, ⟨19, [8, 10], .new w.heap.size t2⟩, ⟨5, [5], .new w.heap.size t1⟩, ⟨6, [11], .new w.heap.size t2⟩]) (by kernel_rfl) (by kernel_rfl) ?_ ?_
  · simp only [Reg.Steps]
    repeat' apply And.intro
    all_goals first | exact trivial | (intro a w' hs' hk hu; simp only [Reg.Uses, List.getElem?_cons_zero, List.getElem?_cons_succ, Reg.Sp.ok, and_true] at hu)
    all_goals first | (have h0 := (Box.since b0 hs').c3; have h1 := (Box.since b1 hs').c3; refine .inl ⟨_, w', ?_, Since.refl _, rfl⟩; have k2 := hk 2 rfl; have k3 := hk 3 rfl; unfold execOp; simp only [hu, k2, k3]; go_simp; done) | exact Reg.Gives.copy (by rfl) hu | skip
    · refine Reg.Gives.call rfl Tryz.func195 #[v1, u2] (by simp [hu]) (quot_Gcd.new (N1.since hs') (M2.since hs') G.out.1 (Nat.le_trans hs.size hs'.size))
    · refine Reg.Gives.call rfl Tryz.func195 #[u1, v2] (by simp [hu]) (quot_Gcd.new (M1.since hs') (N2.since hs') G.out.2.1 (Nat.le_trans hs.size hs'.size))
  · intro W1 hs1
    simp only [Reg.Done, List.length_cons, List.length_nil, List.drop_succ_cons, List.drop_zero, List.drop_nil, Reg.Tail]
    intro x13 h13 x19 h19 x5 h5 x6 h6
    simp only [List.setIfInBounds_toArray, List.set_cons_zero, List.set_cons_succ]
    go_wp2
    have c0 := b0.since hs1
    have c1 := b1.since hs1
    have c2 := b2.since hs1
    have hs1w := hs.trans hs1
    have O1 := N1.since hs1
    have O2 := N2.since hs1
    have P1 := M1.since hs1
    have P2 := M2.since hs1
    clear N1 N2 M1 M2 b0 b1 b2 h13 h19
    refine Reg.region (rows := [⟨20, [], .is (.pointer (some ⟨w.heap.size, 0, none⟩))⟩, ⟨21, [0], .is (.pointer (some ⟨w.heap.size, 0, none⟩))⟩, ⟨22, [1], .is (.bool a0_0)⟩, ⟨23, [], .is (.pointer (some ⟨w.heap.size + 1, 0, none⟩))⟩, ⟨24, [3], .is (.pointer (some ⟨w.heap.size + 1, 0, none⟩))⟩, ⟨25, [4], .is (.bool a1_0)⟩,
      ⟨26, [2, 5], .is (.bool (a0_0 != a1_0))⟩, ⟨27, [], .is (.pointer (some ⟨w.heap.size, 0, none⟩))⟩, ⟨28, [7], .is (.pointer (some ⟨w.heap.size, 1, none⟩))⟩, ⟨29, [8], .is v1⟩, ⟨30, [], .is x5⟩, ⟨31, [9, 10], .new w.heap.size t3⟩,
      ⟨32, [], .is (.pointer (some ⟨w.heap.size + 1, 0, none⟩))⟩, ⟨33, [12], .is (.pointer (some ⟨w.heap.size + 1, 1, none⟩))⟩, ⟨34, [13], .is u1⟩, ⟨35, [], .is x6⟩, ⟨36, [14, 15], .new w.heap.size t4⟩, ⟨37, [11, 16], .new w.heap.size t5⟩, ⟨38, [6, 17], .newI w.heap.size b6 t6⟩,
      ⟨7, [], .box (w.heap.size + 1 + 1 + 1) #[.bool false, .slice none 0 0] 42⟩]) (by kernel_rfl) (by kernel_rfl) ?_ ?_
    · simp only [Reg.Steps]
      repeat' apply And.intro
      all_goals first | exact trivial | (intro a w' hs' hk hu; simp only [Reg.Uses, List.getElem?_cons_zero, List.getElem?_cons_succ, Reg.Sp.ok, and_true] at hu)
      all_goals first | (have h0 := (Box.since c0 hs').c3; have h1 := (Box.since c1 hs').c3; refine .inl ⟨_, w', ?_, Since.refl _, rfl⟩; have k2 := hk 2 rfl; have k3 := hk 3 rfl; have k5 := hk 5 rfl; have k6 := hk 6 rfl; unfold execOp; simp only [hu, k2, k3, k5, k6]; go_simp; done) | (refine .inl ⟨_, w', ?_, Since.refl _, rfl⟩; unfold execOp; simp only [hu]; cases a0_0 <;> cases a1_0 <;> rfl) | skip
      · exact Reg.Gives.call rfl Tryz.func196 #[v1, x5] (by simp [hu]) (ratio_by.new (O1.since hs') (h5.num.since hs') G.out.2.2.1 (Nat.le_trans hs1w.size hs'.size))
      · exact Reg.Gives.call rfl Tryz.func196 #[u1, x6] (by simp [hu]) (ratio_by.new (P1.since hs') (h6.num.since hs') G.out.2.2.2.1 (Nat.le_trans hs1w.size hs'.size))
      · exact Reg.Gives.call rfl Tryz.func153 #[a.eval (.tmp 31), a.eval (.tmp 36)] (by simp) (times_Mul.new hu.1.num hu.2.num G.out.2.2.2.2.1 (Nat.le_trans hs1w.size hs'.size))
      · exact Reg.Gives.call rfl Tryz.func69 #[.bool (a0_0 != a1_0), a.eval (.tmp 37)] (by simp [hu.1]) (signed_Make.new hu.2.num G.out.2.2.2.2.2.1 (Nat.le_trans hs1w.size hs'.size))
      · exact .inl ⟨_, w'.alloc (.cells #[.bool false, .slice none 0 0] 42), by unfold execOp; go_simp, (Since.refl _).alloc _, _, rfl, by have := c2.lt; have := hs'.size; omega, Box.new _ _ _⟩
    · intro W2 hs2
      simp only [Reg.Done, List.length_cons, List.length_nil, List.drop_succ_cons, List.drop_zero, List.drop_nil, Reg.Tail]
      intro x31 h31 x36 h36 x37 h37 x38 h38 x7 h7
      simp only [List.setIfInBounds_toArray, List.set_cons_zero, List.set_cons_succ]
      obtain ⟨x, rfl, hx⟩ := h38
      obtain ⟨b, rfl, hb, hbox⟩ := h7
      obtain ⟨Ax, cx, ex⟩ := hx.slice
      subst ex
      have z : Box (W2.setCell ⟨b, 0, none⟩ (.bool b6)) b #[.bool b6, .slice none 0 0] 42 := hbox.set 0 _
      have z2 : Box ((W2.setCell ⟨b, 0, none⟩ (.bool b6)).setCell ⟨b, 1, none⟩ (.slice Ax t6.length cx)) b #[.bool b6, .slice Ax t6.length cx] 42 := z.set 1 _
      have q0 := hbox.c2
      have f0 := hbox.frozen 0
      have q1 := z.c2
      have f1 := z.frozen 1
      have d0 := ((c0.since hs2).far (i := 0) (show w.heap.size ≠ b by omega) (.bool b6)).far (i := 1) (show w.heap.size ≠ b by omega) (.slice Ax t6.length cx)
      have d1 := ((c1.since hs2).far (i := 0) (show w.heap.size + 1 ≠ b by omega) (.bool b6)).far (i := 1) (show w.heap.size + 1 ≠ b by omega) (.slice Ax t6.length cx)
      have d2 := ((c2.since hs2).far (i := 0) (show w.heap.size + 1 + 1 ≠ b by omega) (.bool b6)).far (i := 1) (show w.heap.size + 1 + 1 ≠ b by omega) (.slice Ax t6.length cx)
      have hx := (hx.set hbox (i := 0) (by decide) (.bool b6)).set z (i := 1) (by decide) (.slice Ax t6.length cx)
      have h5 := ((h5.since hs2).set hbox (i := 0) (by decide) (.bool b6)).set z (i := 1) (by decide) (.slice Ax t6.length cx)
      have h6 := ((h6.since hs2).set hbox (i := 0) (by decide) (.bool b6)).set z (i := 1) (by decide) (.slice Ax t6.length cx)
      have hs3 : Since w ((W2.setCell ⟨b, 0, none⟩ (.bool b6)).setCell ⟨b, 1, none⟩ (.slice Ax t6.length cx)) := (Below.setCell (hs1w.trans hs2) (p := ⟨b, 0, none⟩) (by show w.heap.size ≤ b; omega) _).setCell (p := ⟨b, 1, none⟩) (by show w.heap.size ≤ b; omega) _
      have O2 := hv2.since hs3
      have P2 := hu2.since hs3
      go_wp2
      generalize ((W2.setCell ⟨b, 0, none⟩ (.bool b6)).setCell ⟨b, 1, none⟩ (.slice Ax t6.length cx)) = W3 at *
      clear z q0 f0 q1 f1 hbox c0 c1 c2 h31 h36 h37
      refine Reg.region (rows := [⟨39, [], .is (.agg #[.bool b6, .slice Ax t6.length cx])⟩, ⟨40, [], .is (.pointer (some ⟨w.heap.size, 2, none⟩))⟩, ⟨41, [1], .is v2⟩, ⟨42, [], .is x6⟩, ⟨43, [2, 3], .new w.heap.size t7⟩, ⟨44, [], .is (.pointer (some ⟨w.heap.size + 1, 2, none⟩))⟩, ⟨45, [5], .is u2⟩, ⟨46, [], .is x5⟩, ⟨47, [6, 7], .new w.heap.size t8⟩,
        ⟨48, [4, 8], .new w.heap.size t9⟩, ⟨49, [0, 9], .of (fun v W => ∃ y, v = .agg #[.bool b6, .slice Ax t6.length cx, y] ∧ NewN w.heap.size W y t9) (fun _ _ _ h k => by obtain ⟨x, e, h⟩ := h; exact ⟨x, e, h.since k⟩)⟩]) (by kernel_rfl) (by kernel_rfl) ?_ ?_
      · simp only [Reg.Steps]
        repeat' apply And.intro
        all_goals first | exact trivial | (intro a w' hs' hk hu; simp only [Reg.Uses, List.getElem?_cons_zero, List.getElem?_cons_succ, Reg.Sp.ok, and_true] at hu)
        all_goals first | (have h0 := (Box.since d0 hs').c3; have h1 := (Box.since d1 hs').c3; have h2 := (Box.since z2 hs').c2; refine .inl ⟨_, w', ?_, Since.refl _, rfl⟩; have k2 := hk 2 rfl; have k3 := hk 3 rfl; have k5 := hk 5 rfl; have k6 := hk 6 rfl; have k7 := hk 7 rfl; unfold execOp; simp only [hu, k2, k3, k5, k6, k7]; go_simp; done) | skip
        · exact Reg.Gives.call rfl Tryz.func196 #[v2, x6] (by simp [hu]) (ratio_by.new (O2.since hs') ((NewN.num h6).since hs') G.out.2.2.2.2.2.2.1 (Nat.le_trans hs3.size hs'.size))
        · exact Reg.Gives.call rfl Tryz.func196 #[u2, x5] (by simp [hu]) (ratio_by.new (P2.since hs') ((NewN.num h5).since hs') G.out.2.2.2.2.2.2.2.1 (Nat.le_trans hs3.size hs'.size))
        · exact Reg.Gives.call rfl Tryz.func153 #[a.eval (.tmp 43), a.eval (.tmp 47)] (by simp) (times_Mul.new hu.1.num hu.2.num G.out.2.2.2.2.2.2.2.2 (Nat.le_trans hs3.size hs'.size))
        · obtain ⟨e39, hy⟩ := hu
          obtain ⟨Ay, cy, e48⟩ := hy.slice
          refine .inl ⟨.agg #[.bool b6, .slice Ax t6.length cx, .slice Ay t9.length cy], w', ?_, Since.refl _, _, rfl, e48 ▸ hy⟩
          unfold execOp
          simp only [List.map_toArray, List.map_cons, List.map_nil, e39, e48]
          go_simp
      · intro W4 hs4
        simp only [Reg.Done, List.length_cons, List.length_nil, List.drop_succ_cons, List.drop_zero, List.drop_nil, Reg.Tail]
        intro x43 h43 x47 h47 x48 h48 x49 h49
        simp only [List.setIfInBounds_toArray, List.set_cons_zero, List.set_cons_succ]
        obtain ⟨y, rfl, hy⟩ := h49
        obtain ⟨Ay, cy, ey⟩ := hy.slice
        subst ey
        have e2 := d2.since hs4
        have y0 : Box (W4.setCell ⟨w.heap.size + 1 + 1, 0, none⟩ (.bool b6)) (w.heap.size + 1 + 1) #[.bool b6, .slice none 0 0, .slice none 0 0] 44 := e2.set 0 _
        have y1 : Box ((W4.setCell ⟨w.heap.size + 1 + 1, 0, none⟩ (.bool b6)).setCell ⟨w.heap.size + 1 + 1, 1, none⟩ (.slice Ax t6.length cx)) (w.heap.size + 1 + 1) #[.bool b6, .slice Ax t6.length cx, .slice none 0 0] 44 := y0.set 1 _
        have y2 : Box (((W4.setCell ⟨w.heap.size + 1 + 1, 0, none⟩ (.bool b6)).setCell ⟨w.heap.size + 1 + 1, 1, none⟩ (.slice Ax t6.length cx)).setCell ⟨w.heap.size + 1 + 1, 2, none⟩ (.slice Ay t9.length cy)) (w.heap.size + 1 + 1) #[.bool b6, .slice Ax t6.length cx, .slice Ay t9.length cy] 44 := y1.set 2 _
        have q0 := e2.c3
        have f0 := e2.frozen 0
        have q1 := y0.c3
        have f1 := y0.frozen 1
        have q2 := y1.c3
        have f2 := y1.frozen 2
        have q3 := y2.c3
        go_wp2
        refine bodyPost_ret (v := .agg #[.bool b6, .slice Ax t6.length cx, .slice Ay t9.length cy]) (by simp [results, Tryz.f169, go_sem, q3, hu44, hu42]) rfl ?_
        exact ⟨_, _, rfl, (((hx.since hs4).set e2 (i := 0) (by decide) _).set y0 (i := 1) (by decide) _).set y1 (i := 2) (by decide) _, ((hy.set e2 (i := 0) (by decide) _).set y0 (i := 1) (by decide) _).set y1 (i := 2) (by decide) _, ((Below.setCell (hs3.trans hs4) (p := ⟨w.heap.size + 1 + 1, 0, none⟩) (by show w.heap.size ≤ w.heap.size + 1 + 1; omega) _).setCell (p := ⟨w.heap.size + 1 + 1, 1, none⟩) (by show w.heap.size ≤ w.heap.size + 1 + 1; omega) _).setCell (p := ⟨w.heap.size + 1 + 1, 2, none⟩) (by show w.heap.size ≤ w.heap.size + 1 + 1; omega) _⟩
theorem ratio_product.calls (k : Nat) (a0_0 : Bool) (A0_1 : Option Addr) (c0_1 : Nat) (l0_1 : List Int) (A0_2 : Option Addr) (c0_2 : Nat) (l0_2 : List Int) (a1_0 : Bool) (A1_1 : Option Addr) (c1_1 : Nat) (l1_1 : List Int) (A1_2 : Option Addr) (c1_2 : Nat) (l1_2 : List Int) (r1 : Bool) (r2 : List Int) (r3 : List Int) (w : World) (hr0_1 : Kd.C (Kd.int .u64) w A0_1 l0_1.length l0_1) (hc0_1 : l0_1.length ≤ c0_1) (hr0_2 : Kd.C (Kd.int .u64) w A0_2 l0_2.length l0_2) (hc0_2 : l0_2.length ≤ c0_2) (hr1_1 : Kd.C (Kd.int .u64) w A1_1 l1_1.length l1_1) (hc1_1 : l1_1.length ≤ c1_1) (hr1_2 : Kd.C (Kd.int .u64) w A1_2 l1_2.length l1_2) (hc1_2 : l1_2.length ≤ c1_2) (h : ratio_product.f k a0_0 l0_1 l0_2 a1_0 l1_1 l1_2 = some (r1, r2, r3)) :
    Calls Tryz.prog 169 #[.agg #[.bool a0_0, .slice A0_1 l0_1.length c0_1, .slice A0_2 l0_2.length c0_2], .agg #[.bool a1_0, .slice A1_1 l1_1.length c1_1, .slice A1_2 l1_2.length c1_2]] w fun e w' => ∃ v1_ v2_ : Value, e = .returned (.agg #[.bool r1, v1_, v2_]) ∧ Kd.V (Kd.int .u64) 112 w' w.heap.size (fun k_ => w.heap.size ≤ k_) v1_ r2 ∧ Kd.V (Kd.int .u64) 112 w' w.heap.size (fun k_ => w.heap.size ≤ k_) v2_ r3 ∧ Below w.heap.size w w' := by
  refine (ratio_product.num k a0_0 _ _ l0_1 l0_2 a1_0 _ _ l1_1 l1_2 r1 r2 r3 w (Num.mk hr0_1 hc0_1) (Num.mk hr0_2 hc0_2) (Num.mk hr1_1 hc1_1) (Num.mk hr1_2 hc1_2) h).mono ?_
  rintro e w' ⟨x, y, rfl, hx, hy, hb⟩
  exact ⟨x, y, rfl, hx.V, hy.V, hb⟩
def ratio_Mul.chk (k : Nat) : List S44 → Option Int
  | [] => some 0
  | x :: r => (ratio_Check.f k x.f0.f0 x.f0.f1 x.f1).bind fun e => if e = 0 then ratio_Mul.chk k r else some e
def ratio_Mul.op (k : Nat) (s x : S44) : Option S44 := (ratio_product.f k s.f0.f0 s.f0.f1 s.f1 x.f0.f0 x.f0.f1 x.f1).bind fun t => some ⟨⟨t.1, t.2.1⟩, t.2.2⟩
def ratio_Mul.go (k : Nat) : S44 → List S44 → Option S44
  | s, [] => some s
  | s, x :: r => (ratio_Mul.op k s x).bind fun t => ratio_Mul.go k t r
def ratio_Mul.fold (k : Nat) (s : S44) (l : List S44) : Option (S44 × Int) := (ratio_Mul.chk k l).bind fun e => if e = 0 then (ratio_Mul.go k s l).bind fun t => some (t, 0) else some (z44, e)
def ratio_Mul.f (k : Nat) (l0 : List S44) : Option (Bool × List Int × List Int × Int) := (ratio_Mul.fold k ⟨⟨false, [1]⟩, [1]⟩ l0).bind fun t => some (t.1.f0.f0, t.1.f0.f1, t.1.f1, t.2)
def ratio_Mul.Val (W : World) (ok : Nat → Prop) (x : S44) (v : Value) : Prop := ∃ A1 c1 A2 c2, v = .agg #[.bool x.f0.f0, .slice A1 x.f0.f1.length c1, .slice A2 x.f1.length c2] ∧ x.f0.f1.length ≤ c1 ∧ Kd.F (Kd.int .u64) W ok A1 x.f0.f1.length x.f0.f1 ∧ x.f1.length ≤ c2 ∧ Kd.F (Kd.int .u64) W ok A2 x.f1.length x.f1
theorem ratio_Mul.ends (b0 b1 : Nat) (u : FrameMode) (w : World) (hc : w.cell? ⟨b0, 0, none⟩ = some (.int .i64 0)) :
    CallsD Tryz.prog 149 #[.pointer (some ⟨b0, 0, none⟩), .pointer (some ⟨b1, 0, none⟩)] u w fun e u' w' => u' = u ∧ (e = .returned (.tuple #[]) ∧ w' = w) := by
  go_enter_d Tryz.func149, Tryz.ntmps149
  go_wp2
  go_end0
  exact ⟨rfl, rfl⟩
set_option maxRecDepth 100000 in
theorem ratio_Mul.bars (b0 b1 : Nat) (e : Int) (he : ¬ e = 0) (x0 x1 x2 : Value) (u : FrameMode) (w : World) (hc : w.cell? ⟨b0, 0, none⟩ = some (.int .i64 e))
    (h0 : w.cell? ⟨b1, 0, none⟩ = some x0) (h1 : w.cell? ⟨b1, 1, none⟩ = some x1) (h2 : w.cell? ⟨b1, 2, none⟩ = some x2) (hf : ∀ i, w.frozen? ⟨b1, i, none⟩ = false) :
    CallsD Tryz.prog 149 #[.pointer (some ⟨b0, 0, none⟩), .pointer (some ⟨b1, 0, none⟩)] u w fun e u' w' => u' = u ∧ (e = .returned (.tuple #[]) ∧ w' = ((w.setCell ⟨b1, 0, none⟩ (.bool false)).setCell ⟨b1, 1, none⟩ (.slice none 0 0)).setCell ⟨b1, 2, none⟩ (.slice none 0 0)) := by
  have hu44 := Tryz.underlying44
  have hu42 := Tryz.underlying42
  have f0 := hf 0
  have f1 := hf 1
  have f2 := hf 2
  have g1 : (w.setCell ⟨b1, 0, none⟩ (.bool false)).cell? ⟨b1, 1, none⟩ = some x1 := q_setne (.inr (by decide)) h1
  have g2 : ((w.setCell ⟨b1, 0, none⟩ (.bool false)).setCell ⟨b1, 1, none⟩ (.slice none 0 0)).cell? ⟨b1, 2, none⟩ = some x2 := q_setne (.inr (by decide)) (q_setne (.inr (by decide)) h2)
  clear hf
  go_enter_d Tryz.func149, Tryz.ntmps149
  go_wp2
  go_end0
  exact ⟨rfl, rfl⟩
theorem ratio_Mul.chk_step {k : Nat} {l : List S44} {j : Nat} {e : Int} (hj : j < l.length) (h : ratio_Mul.chk k (l.drop j) = some e) :
    ∃ c, ratio_Check.f k (rd_T44 l j).f0.f0 (rd_T44 l j).f0.f1 (rd_T44 l j).f1 = some c ∧ (c = 0 ∧ ratio_Mul.chk k (l.drop (j + 1)) = some e ∨ ¬ c = 0 ∧ e = c) := by
  have hg : rd_T44 l j = l[j] := by simp [rd_T44, hj]
  rw [List.drop_eq_getElem_cons hj, ratio_Mul.chk] at h
  obtain ⟨c, h1, h2⟩ := Option.bind_eq_some_iff.1 h
  rw [hg]
  refine ⟨c, h1, ?_⟩
  by_cases hc : c = 0
  · rw [if_pos hc] at h2; exact .inl ⟨hc, h2⟩
  · rw [if_neg hc] at h2; exact .inr ⟨hc, (Option.some.inj h2).symm⟩
theorem ratio_Mul.go_step {k : Nat} {l : List S44} {j : Nat} {s z : S44} (hj : j < l.length) (h : ratio_Mul.go k s (l.drop j) = some z) :
    ∃ t, ratio_Mul.op k s (rd_T44 l j) = some t ∧ ratio_Mul.go k t (l.drop (j + 1)) = some z := by
  have hg : rd_T44 l j = l[j] := by simp [rd_T44, hj]
  rw [List.drop_eq_getElem_cons hj, ratio_Mul.go] at h
  rw [hg]
  exact Option.bind_eq_some_iff.1 h
theorem ratio_Mul.op_calls (k : Nat) (s x z : S44) (A1 : Option Addr) (c1 : Nat) (A2 : Option Addr) (c2 : Nat) (B1 : Option Addr) (d1 : Nat) (B2 : Option Addr) (d2 : Nat) (w : World)
    (h1 : Kd.C (Kd.int .u64) w A1 s.f0.f1.length s.f0.f1) (g1 : s.f0.f1.length ≤ c1) (h2 : Kd.C (Kd.int .u64) w A2 s.f1.length s.f1) (g2 : s.f1.length ≤ c2)
    (h3 : Kd.C (Kd.int .u64) w B1 x.f0.f1.length x.f0.f1) (g3 : x.f0.f1.length ≤ d1) (h4 : Kd.C (Kd.int .u64) w B2 x.f1.length x.f1) (g4 : x.f1.length ≤ d2) (h : ratio_Mul.op k s x = some z) :
    Calls Tryz.prog 169 #[.agg #[.bool s.f0.f0, .slice A1 s.f0.f1.length c1, .slice A2 s.f1.length c2], .agg #[.bool x.f0.f0, .slice B1 x.f0.f1.length d1, .slice B2 x.f1.length d2]] w fun e w' =>
      ∃ A1 c1 A2 c2, e = .returned (.agg #[.bool z.f0.f0, .slice A1 z.f0.f1.length c1, .slice A2 z.f1.length c2]) ∧ (z.f0.f1.length ≤ c1 ∧ Kd.F (Kd.int .u64) w' (fun k => w.heap.size ≤ k) A1 z.f0.f1.length z.f0.f1 ∧ z.f1.length ≤ c2 ∧ Kd.F (Kd.int .u64) w' (fun k => w.heap.size ≤ k) A2 z.f1.length z.f1) ∧ Below w.heap.size w w' := by
  obtain ⟨t, ht, e⟩ := Option.bind_eq_some_iff.1 h
  obtain rfl := Option.some.inj e
  refine (ratio_product.calls k _ A1 c1 _ A2 c2 _ _ B1 d1 _ B2 d2 _ t.1 t.2.1 t.2.2 w h1 g1 h2 g2 h3 g3 h4 g4 ht).mono ?_
  rintro e w' ⟨v1, v2, rfl, ⟨X1, y1, rfl, k1, f1⟩, ⟨X2, y2, rfl, k2, f2⟩, hb⟩
  exact ⟨X1, y1, X2, y2, rfl, ⟨k1, f1, k2, f2⟩, hb⟩
structure ratio_Mul.Lies (n : Nat) (wr : World) (e : Int) (x0 x1 x2 : Value) : Prop where
  c0 : wr.cell? ⟨n + 1, 0, none⟩ = some x0
  c1 : wr.cell? ⟨n + 1, 1, none⟩ = some x1
  c2 : wr.cell? ⟨n + 1, 2, none⟩ = some x2
  f : ∀ i, wr.frozen? ⟨n + 1, i, none⟩ = false
  ce : wr.cell? ⟨n + 1 + 1, 0, none⟩ = some (.int .i64 e)
  fe : wr.frozen? ⟨n + 1 + 1, 0, none⟩ = false
theorem ratio_Mul.Lies.below {n : Nat} {wr w1 : World} {e : Int} {x0 x1 x2 : Value} (h : ratio_Mul.Lies n wr e x0 x1 x2) (hb : Below wr.heap.size wr w1) : ratio_Mul.Lies n w1 e x0 x1 x2 :=
  ⟨q_below hb h.c0, q_below hb h.c1, q_below hb h.c2, fun i => (hb.frozen (p := ⟨n + 1, i, none⟩) (show n + 1 < wr.heap.size from World.block_lt_of_cell? wr (a := ⟨n + 1, 0, none⟩) h.c0)).trans (h.f i), q_below hb h.ce, q_fbelow hb h.ce h.fe⟩
theorem ratio_Mul.Lies.err {n : Nat} {wr : World} {e : Int} {x0 x1 x2 : Value} (h : ratio_Mul.Lies n wr e x0 x1 x2) (e' : Int) : ratio_Mul.Lies n (wr.setCell ⟨n + 1 + 1, 0, none⟩ (.int .i64 e')) e' x0 x1 x2 :=
  ⟨q_setne (.inl (by omega)) h.c0, q_setne (.inl (by omega)) h.c1, q_setne (.inl (by omega)) h.c2, fun i => by rw [World.frozen?_setCell]; exact h.f i, q_set h.ce, by rw [World.frozen?_setCell]; exact h.fe⟩
theorem ratio_Mul.Lies.out {n : Nat} {wr : World} {e : Int} {x0 x1 x2 : Value} (h : ratio_Mul.Lies n wr e x0 x1 x2) (y0 y1 y2 : Value) : ratio_Mul.Lies n (((wr.setCell ⟨n + 1, 0, none⟩ y0).setCell ⟨n + 1, 1, none⟩ y1).setCell ⟨n + 1, 2, none⟩ y2) e y0 y1 y2 :=
  ⟨q_setne (.inr (by decide)) (q_setne (.inr (by decide)) (q_set h.c0)), q_setne (.inr (by decide)) (q_set (q_setne (.inr (by decide)) h.c1)), q_set (q_setne (.inr (by decide)) (q_setne (.inr (by decide)) h.c2)),
    fun i => by rw [World.frozen?_setCell, World.frozen?_setCell, World.frozen?_setCell]; exact h.f i, q_setne (.inl (by omega)) (q_setne (.inl (by omega)) (q_setne (.inl (by omega)) h.ce)), by rw [World.frozen?_setCell, World.frozen?_setCell, World.frozen?_setCell]; exact h.fe⟩
theorem ratio_Mul.newLies (w : World) (a b c : Value) (T : Nat) : ratio_Mul.Lies w.heap.size (((w.alloc (.cells #[a, b, c] T)).alloc (.cells #[.bool false, .slice none 0 0, .slice none 0 0] T)).alloc (.cells #[.int .i64 0] 27)) 0 (.bool false) (.slice none 0 0) (.slice none 0 0) :=
  ⟨q_old _ (q_new (by simp) rfl), q_old _ (q_new (by simp) rfl), q_old _ (q_new (by simp) rfl), fun i => q_fold _ (by simp) (q_fnew (by simp)), q_new (by simp) rfl, q_fnew (by simp)⟩
def ratio_Mul.Has3 (wr : World) (b : Nat) (x0 x1 x2 : Value) : Prop := wr.cell? ⟨b, 0, none⟩ = some x0 ∧ wr.cell? ⟨b, 1, none⟩ = some x1 ∧ wr.cell? ⟨b, 2, none⟩ = some x2
theorem ratio_Mul.Has3.below {wr w1 : World} {b : Nat} {x0 x1 x2 : Value} (h : ratio_Mul.Has3 wr b x0 x1 x2) (hb : Below wr.heap.size wr w1) : ratio_Mul.Has3 w1 b x0 x1 x2 := ⟨q_below hb h.1, q_below hb h.2.1, q_below hb h.2.2⟩
theorem ratio_Mul.Has3.set {wr : World} {b b' i : Nat} {v x0 x1 x2 : Value} (h : ratio_Mul.Has3 wr b x0 x1 x2) (hne : b ≠ b') : ratio_Mul.Has3 (wr.setCell ⟨b', i, none⟩ v) b x0 x1 x2 := ⟨q_setne (.inl hne) h.1, q_setne (.inl hne) h.2.1, q_setne (.inl hne) h.2.2⟩
theorem ratio_Mul.step_below {a b c : World} (h1 : Below a.heap.size a b) (h2 : Below b.heap.size b c) : Below a.heap.size a c := h1.trans (h2.mono h1.size)
set_option maxRecDepth 100000 in
set_option maxHeartbeats 4000000 in
theorem ratio_Mul.fold_calls (k : Nat) (P : Nat → Prop) (s : S44) (A1 : Option Addr) (c1 : Nat) (A2 : Option Addr) (c2 : Nat) (A0 : Option Addr) (c0 : Nat) (l0 : List S44) (z : S44) (e : Int) (w : World)
    (k1 : s.f0.f1.length ≤ c1) (f1 : Kd.F (Kd.int .u64) w P A1 s.f0.f1.length s.f0.f1) (k2 : s.f1.length ≤ c2) (f2 : Kd.F (Kd.int .u64) w P A2 s.f1.length s.f1) (hr0 : Kd.C k44 w A0 l0.length l0) (h : ratio_Mul.fold k s l0 = some (z, e)) :
    Calls Tryz.prog 80 #[.agg #[.bool s.f0.f0, .slice A1 s.f0.f1.length c1, .slice A2 s.f1.length c2], .func (.func 169) #[] #[], .slice A0 l0.length c0] w fun en w' =>
      ∃ v, en = .returned (.tuple #[v, .int .i64 e]) ∧ ratio_Mul.Val w' (fun k => P k ∨ w.heap.size ≤ k) z v ∧ Below w.heap.size w w' := by
  obtain ⟨ee, hk0, hk1⟩ := Option.bind_eq_some_iff.1 h
  have hu44 := Tryz.underlying44
  have hu42 := Tryz.underlying42
  have hm : l0.length ≤ 9223372036854775807 := hr0.2.1
  have HK0 := Aside0.mk hk0
  have HK1 := Aside0.mk hk1
  have HR0 := Aside0.mk hr0
  have HF1 := Aside0.mk (Kd.F_bound f1)
  have HF2 := Aside0.mk (Kd.F_bound f2)
  have HC1 := Aside0.mk k1
  have HC2 := Aside0.mk k2
  clear h hk0 hk1 hr0 k1 k2 f1 f2
  have hmf : ∀ (fn : Fn) (first cap : Array Value) (w : World), (Instr.makeFunc fn first cap).run Tryz.prog w = .ok (.func fn first cap) w := fun _ _ _ _ => rfl
  go_enter_defers Tryz.func80, Tryz.ntmps80
  go_wp2
  go_loopw [15] (fun i wr => ∃ j : Nat, j ≤ l0.length ∧ i = .int .i64 j ∧ Aside0 (ratio_Mul.chk k (l0.drop j) = some ee) ∧ Aside0 (ratio_Mul.Has3 wr w.heap.size (.bool s.f0.f0) (.slice A1 s.f0.f1.length c1) (.slice A2 s.f1.length c2)) ∧ Aside0 (ratio_Mul.Lies w.heap.size wr 0 (.bool false) (.slice none 0 0) (.slice none 0 0)) ∧ Aside0 (Below w.heap.size w wr)  ∧ Aside0 (w.heap.size + 3 ≤ wr.heap.size)) (fun i _ => l0.length - (intOf i).toNat)
  case atStart => exact ⟨0, Nat.zero_le _, rfl, HK0, ⟨⟨q_old _ (q_old _ (q_new rfl rfl)), q_old _ (q_old _ (q_new rfl rfl)), q_old _ (q_old _ (q_new rfl rfl))⟩⟩, ⟨ratio_Mul.newLies _ _ _ _ _⟩, ⟨below_alloc (below_alloc (below_alloc (Below.refl _ _) _) _) _⟩, ⟨by simp⟩⟩
  case round =>
    obtain ⟨j, hj, rfl, HD, HS, HL, HB, HZ⟩ := hrel
    by_cases hlt : j < l0.length
    · obtain ⟨ad, B1, d1, B2, d2, e1, x0, x1, x2, g1, s1, g2, s2⟩ := at_T44 (Kd.C_below HR0.out HB.out) (j : Int) (by omega) (by omega)
      obtain ⟨c, hc, hcc⟩ := ratio_Mul.chk_step hlt HD.out
      subst e1
      rw [Int.toNat_natCast] at x0 x1 x2
      have HX := Aside0.mk (And.intro g1 (And.intro s1 (And.intro g2 s2)))
      have HC := Aside0.mk hc
      have HCC := Aside0.mk hcc
      clear g1 s1 g2 s2 hc hcc
      go_wp2_with (go_at_call 139; (with_reducible refine (ratio_Check.calls k _ B1 d1 _ B2 d2 _ c _ (Kd.C_alloc HX.out.2.1 _) HX.out.1 (Kd.C_alloc HX.out.2.2.2 _) HX.out.2.2.1 HC.out).mono ?_); rintro e w4 ⟨rfl, hb⟩; have HB4 := Aside0.mk (ratio_Mul.step_below (below_alloc (Below.refl _ _) _) hb); clear hb; have HL4 := Aside0.mk (HL.out.below HB4.out); have hce := HL4.out.ce; have hfe := HL4.out.fe)
      · have hcb : ¬ c = 0 := by rename_i hq; simpa using hq
        obtain rfl : ee = c := by rcases HCC.out with ⟨h1, _⟩ | ⟨_, h2⟩; exact absurd h1 hcb; exact h2
        have hz := HK1.out
        rw [if_neg hcb] at hz
        obtain ⟨rfl, rfl⟩ := Prod.mk.inj (Option.some.inj hz)
        have HL5 := Aside0.mk (HL4.out.err ee)
        refine leaves_cons (f := 149) (args := #[.pointer (some ⟨w.heap.size + 1 + 1, 0, none⟩), .pointer (some ⟨w.heap.size + 1, 0, none⟩)]) (by simp) (by simp [go_sem]) ?_
        refine (ratio_Mul.bars (w.heap.size + 1 + 1) (w.heap.size + 1) ee hcb _ _ _ _ _ HL5.out.ce HL5.out.c0 HL5.out.c1 HL5.out.c2 HL5.out.f).mono ?_
        rintro e u' w'' ⟨rfl, rfl, rfl⟩
        have HL6 := Aside0.mk (HL5.out.out (.bool false) (.slice none 0 0) (.slice none 0 0))
        refine ⟨.tuple #[.agg #[.bool false, .slice none 0 0, .slice none 0 0], .int .i64 ee], ?_, _, rfl, ⟨none, 0, none, 0, rfl, Nat.le_refl _, Kd.F_nil _ _ _, Nat.le_refl _, Kd.F_nil _ _ _⟩, ?_⟩
        · have q0 := HL6.out.c0
          have q1 := HL6.out.c1
          have q2 := HL6.out.c2
          have q3 := HL6.out.ce
          simp [results, Tryz.f80, go_sem, q0, q1, q2, q3, hu44, hu42]
        · exact (((((HB.out.trans (HB4.out.mono HB.out.size))).setCell (p := ⟨w.heap.size + 1 + 1, 0, none⟩) (by show w.heap.size ≤ w.heap.size + 1 + 1; omega) _).setCell (p := ⟨w.heap.size + 1, 0, none⟩) (by show w.heap.size ≤ w.heap.size + 1; omega) _).setCell (p := ⟨w.heap.size + 1, 1, none⟩) (by show w.heap.size ≤ w.heap.size + 1; omega) _).setCell (p := ⟨w.heap.size + 1, 2, none⟩) (by show w.heap.size ≤ w.heap.size + 1; omega) _
      · have hcb : c = 0 := by rename_i hq; simpa using hq
        subst hcb
        have hk : ratio_Mul.chk k (l0.drop (j + 1)) = some ee := by rcases HCC.out with ⟨_, h1⟩ | ⟨h2, _⟩; exact h1; exact absurd rfl h2
        exact ⟨⟨j + 1, by omega, by simp, ⟨hk⟩, ⟨(HS.out.below HB4.out).set (by omega)⟩, ⟨HL4.out.err 0⟩, ⟨(HB.out.trans (HB4.out.mono HB.out.size)).setCell (p := ⟨w.heap.size + 1 + 1, 0, none⟩) (by show w.heap.size ≤ w.heap.size + 1 + 1; omega) _⟩, ⟨by have := HZ.out; have := HB4.out.size; simp; omega⟩⟩, by simp [intOf]; omega⟩
    · obtain rfl : j = l0.length := by omega
      obtain ⟨hs0, hs1, hs2⟩ := HS.out
      obtain ⟨hc0, hc1, hc2, hf, hce, hfe⟩ := HL.out
      have hf0 := hf 0
      have hf1 := hf 1
      have hf2 := hf 2
      obtain rfl : ee = 0 := by have := HD.out; rw [List.drop_length] at this; exact (Option.some.inj this).symm
      have hz := HK1.out
      rw [if_pos rfl] at hz
      obtain ⟨zz, hgo, hzz⟩ := Option.bind_eq_some_iff.1 hz
      obtain ⟨rfl, rfl⟩ := Prod.mk.inj (Option.some.inj hzz)
      have HGO := Aside0.mk hgo
      clear hf hz hzz hgo
      go_wp2
      have HL := Aside0.mk (HL.out.out (.bool s.f0.f0) (.slice A1 s.f0.f1.length c1) (.slice A2 s.f1.length c2))
      have HB := Aside0.mk (((HB.out.setCell (p := ⟨w.heap.size + 1, 0, none⟩) (by show w.heap.size ≤ w.heap.size + 1; omega) (.bool s.f0.f0)).setCell (p := ⟨w.heap.size + 1, 1, none⟩) (by show w.heap.size ≤ w.heap.size + 1; omega) (.slice A1 s.f0.f1.length c1)).setCell (p := ⟨w.heap.size + 1, 2, none⟩) (by show w.heap.size ≤ w.heap.size + 1; omega) (.slice A2 s.f1.length c2))
      have HZ : Aside0 (w.heap.size + 3 ≤ (((wr.setCell ⟨w.heap.size + 1, 0, none⟩ (.bool s.f0.f0)).setCell ⟨w.heap.size + 1, 1, none⟩ (.slice A1 s.f0.f1.length c1)).setCell ⟨w.heap.size + 1, 2, none⟩ (.slice A2 s.f1.length c2)).heap.size) := ⟨by have := HZ.out; simp; omega⟩
      clear hs0 hs1 hs2 hc0 hc1 hc2 hce hfe hf0 hf1 hf2 HS HD HK1 HK0 hlt
      generalize ((wr.setCell ⟨w.heap.size + 1, 0, none⟩ (.bool s.f0.f0)).setCell ⟨w.heap.size + 1, 1, none⟩ (.slice A1 s.f0.f1.length c1)).setCell ⟨w.heap.size + 1, 2, none⟩ (.slice A2 s.f1.length c2) = wS at *
      have HF1 := Aside0.mk (Kd.F_below HF1.out HB.out)
      have HF2 := Aside0.mk (Kd.F_below HF2.out HB.out)
      go_loopw [27] (fun i wr => ∃ (j : Nat) (y : S44) (X1 : Option Addr) (e1 : Nat) (X2 : Option Addr) (e2 : Nat), j ≤ l0.length ∧ i = .int .i64 j ∧ Aside0 (ratio_Mul.go k y (l0.drop j) = some zz) ∧ Aside0 (ratio_Mul.Lies w.heap.size wr 0 (.bool y.f0.f0) (.slice X1 y.f0.f1.length e1) (.slice X2 y.f1.length e2)) ∧ Aside0 (Below w.heap.size w wr) ∧ Aside0 (w.heap.size + 3 ≤ wr.heap.size) ∧ Aside0 (y.f0.f1.length ≤ e1 ∧ Kd.F (Kd.int .u64) wr (fun k => P k ∧ k < w.heap.size ∨ w.heap.size + 3 ≤ k) X1 y.f0.f1.length y.f0.f1 ∧ y.f1.length ≤ e2 ∧ Kd.F (Kd.int .u64) wr (fun k => P k ∧ k < w.heap.size ∨ w.heap.size + 3 ≤ k) X2 y.f1.length y.f1)) (fun i _ => l0.length - (intOf i).toNat)
      case atStart => exact ⟨0, s, A1, c1, A2, c2, Nat.zero_le _, rfl, HGO, HL, HB, HZ, ⟨HC1.out, Kd.F_mono HF1.out (fun _ h => .inl h), HC2.out, Kd.F_mono HF2.out (fun _ h => .inl h)⟩⟩
      case round =>
        clear HF1 HF2 HC1 HC2 HGO HL HB HZ
        obtain ⟨j, y, X1, e1, X2, e2, hj, rfl, HD, HL, HB, HZ, HY⟩ := hrel
        obtain ⟨hc0, hc1, hc2, hf, hce, hfe⟩ := HL.out
        have hf0 := hf 0
        have hf1 := hf 1
        have hf2 := hf 2
        clear hf
        by_cases hlt : j < l0.length
        · obtain ⟨ad, B1, d1, B2, d2, e1, x0, x1, x2, g1, s1, g2, s2⟩ := at_T44 (Kd.C_below HR0.out HB.out) (j : Int) (by omega) (by omega)
          obtain ⟨t, ht, htt⟩ := ratio_Mul.go_step hlt HD.out
          subst e1
          rw [Int.toNat_natCast] at x0 x1 x2
          have HX := Aside0.mk (And.intro g1 (And.intro s1 (And.intro g2 s2)))
          have HT := Aside0.mk ht
          have HTT := Aside0.mk htt
          clear g1 s1 g2 s2 ht htt
          have ha0 := q_old (.cells #[.bool (rd_T44 l0 (j : Int)).f0.f0, .slice B1 (rd_T44 l0 (j : Int)).f0.f1.length d1, .slice B2 (rd_T44 l0 (j : Int)).f1.length d2] 44) hc0
          have ha1 := q_old (.cells #[.bool (rd_T44 l0 (j : Int)).f0.f0, .slice B1 (rd_T44 l0 (j : Int)).f0.f1.length d1, .slice B2 (rd_T44 l0 (j : Int)).f1.length d2] 44) hc1
          have ha2 := q_old (.cells #[.bool (rd_T44 l0 (j : Int)).f0.f0, .slice B1 (rd_T44 l0 (j : Int)).f0.f1.length d1, .slice B2 (rd_T44 l0 (j : Int)).f1.length d2] 44) hc2
          clear hc0 hc1 hc2
          go_wp2_with (go_at_call 169; (with_reducible refine (ratio_Mul.op_calls k _ _ t X1 _ X2 _ B1 d1 B2 d2 _ (Kd.C_alloc (Kd.F_now HY.out.2.1) _) HY.out.1 (Kd.C_alloc (Kd.F_now HY.out.2.2.2) _) HY.out.2.2.1 (Kd.C_alloc HX.out.2.1 _) HX.out.1 (Kd.C_alloc HX.out.2.2.2 _) HX.out.2.2.1 HT.out).mono ?_); rintro e w4 ⟨Y1, m1, Y2, m2, rfl, hv, hb⟩; have HB4 := Aside0.mk (ratio_Mul.step_below (below_alloc (Below.refl _ _) _) hb); have HV := Aside0.mk hv; clear hb hv; have HL4 := Aside0.mk (HL.out.below HB4.out); have hd0 := HL4.out.c0; have hd1 := HL4.out.c1; have hd2 := HL4.out.c2; have he0 := HL4.out.f 0; have he1 := HL4.out.f 1; have he2 := HL4.out.f 2)
          refine ⟨⟨j + 1, t, Y1, m1, Y2, m2, by omega, by simp, HTT, ⟨HL4.out.out _ _ _⟩, ⟨(((HB.out.trans (HB4.out.mono HB.out.size)).setCell (p := ⟨w.heap.size + 1, 0, none⟩) (by show w.heap.size ≤ w.heap.size + 1; omega) _).setCell (p := ⟨w.heap.size + 1, 1, none⟩) (by show w.heap.size ≤ w.heap.size + 1; omega) _).setCell (p := ⟨w.heap.size + 1, 2, none⟩) (by show w.heap.size ≤ w.heap.size + 1; omega) _⟩, ⟨by have := HZ.out; have := HB4.out.size; simp; omega⟩, ⟨HV.out.1, ?_, HV.out.2.2.1, ?_⟩⟩, by simp [intOf]; omega⟩
          · have hz := HZ.out
            exact Kd.F_mono (Kd.F_far (p := ⟨w.heap.size + 1, 2, none⟩) (Kd.F_far (p := ⟨w.heap.size + 1, 1, none⟩) (Kd.F_far (p := ⟨w.heap.size + 1, 0, none⟩) HV.out.2.1 (fun k hk => by simp at hk ⊢; omega) _) (fun k hk => by simp at hk ⊢; omega) _) (fun k hk => by simp at hk ⊢; omega) _) (fun k hk => .inr (by simp at hk; omega))
          · have hz := HZ.out
            exact Kd.F_mono (Kd.F_far (p := ⟨w.heap.size + 1, 2, none⟩) (Kd.F_far (p := ⟨w.heap.size + 1, 1, none⟩) (Kd.F_far (p := ⟨w.heap.size + 1, 0, none⟩) HV.out.2.2.2 (fun k hk => by simp at hk ⊢; omega) _) (fun k hk => by simp at hk ⊢; omega) _) (fun k hk => by simp at hk ⊢; omega) _) (fun k hk => .inr (by simp at hk; omega))
        · obtain rfl : j = l0.length := by omega
          obtain rfl : y = zz := by have := HD.out; rw [List.drop_length] at this; exact Option.some.inj this
          go_wp2
          have HL4 := Aside0.mk ((HL.out.out (.bool y.f0.f0) (.slice X1 y.f0.f1.length e1) (.slice X2 y.f1.length e2)).err 0)
          refine leaves_cons (f := 149) (args := #[.pointer (some ⟨w.heap.size + 1 + 1, 0, none⟩), .pointer (some ⟨w.heap.size + 1, 0, none⟩)]) (by simp) (by simp [go_sem]) ?_
          refine (ratio_Mul.ends (w.heap.size + 1 + 1) (w.heap.size + 1) _ _ HL4.out.ce).mono ?_
          rintro e u' w'' ⟨rfl, rfl, rfl⟩
          refine ⟨.tuple #[.agg #[.bool y.f0.f0, .slice X1 y.f0.f1.length e1, .slice X2 y.f1.length e2], .int .i64 0], ?_, _, rfl, ⟨X1, e1, X2, e2, rfl, HY.out.1, ?_, HY.out.2.2.1, ?_⟩, ?_⟩
          · have q0 := HL4.out.c0
            have q1 := HL4.out.c1
            have q2 := HL4.out.c2
            have q3 := HL4.out.ce
            simp [results, Tryz.f80, go_sem, q0, q1, q2, q3, hu44, hu42]
          · exact Kd.F_mono (Kd.F_far (p := ⟨w.heap.size + 1 + 1, 0, none⟩) (Kd.F_far (p := ⟨w.heap.size + 1, 2, none⟩) (Kd.F_far (p := ⟨w.heap.size + 1, 1, none⟩) (Kd.F_far (p := ⟨w.heap.size + 1, 0, none⟩) HY.out.2.1 (fun k hk => by simp at hk ⊢; omega) _) (fun k hk => by simp at hk ⊢; omega) _) (fun k hk => by simp at hk ⊢; omega) _) (fun k hk => by simp at hk ⊢; omega) _) (fun k hk => by rcases hk with hk | hk; exact .inl hk.1; exact .inr (by omega))
          · exact Kd.F_mono (Kd.F_far (p := ⟨w.heap.size + 1 + 1, 0, none⟩) (Kd.F_far (p := ⟨w.heap.size + 1, 2, none⟩) (Kd.F_far (p := ⟨w.heap.size + 1, 1, none⟩) (Kd.F_far (p := ⟨w.heap.size + 1, 0, none⟩) HY.out.2.2.2 (fun k hk => by simp at hk ⊢; omega) _) (fun k hk => by simp at hk ⊢; omega) _) (fun k hk => by simp at hk ⊢; omega) _) (fun k hk => by simp at hk ⊢; omega) _) (fun k hk => by rcases hk with hk | hk; exact .inl hk.1; exact .inr (by omega))
          · exact (((HB.out.setCell (p := ⟨w.heap.size + 1, 0, none⟩) (by show w.heap.size ≤ w.heap.size + 1; omega) _).setCell (p := ⟨w.heap.size + 1, 1, none⟩) (by show w.heap.size ≤ w.heap.size + 1; omega) _).setCell (p := ⟨w.heap.size + 1, 2, none⟩) (by show w.heap.size ≤ w.heap.size + 1; omega) _).setCell (p := ⟨w.heap.size + 1 + 1, 0, none⟩) (by show w.heap.size ≤ w.heap.size + 1 + 1; omega) _
set_option maxRecDepth 100000 in
set_option maxHeartbeats 4000000 in
theorem ratio_Mul.calls (k : Nat) (A0 : Option Addr) (c0 : Nat) (l0 : List S44) (r1 : Bool) (r2 : List Int) (r3 : List Int) (r4 : Int) (w : World) (hr0 : Kd.C k44 w A0 l0.length l0) (hc0 : l0.length ≤ c0) (h : ratio_Mul.f k l0 = some (r1, r2, r3, r4)) :
    Calls Tryz.prog 103 #[.slice A0 l0.length c0] w fun e w' => ∃ v1_ v2_ : Value, e = .returned (.tuple #[.agg #[.bool r1, v1_, v2_], .int .i64 r4]) ∧ Kd.V (Kd.int .u64) 112 w' w.heap.size (fun k_ => (w.heap.size ≤ k_)) v1_ r2 ∧ Kd.V (Kd.int .u64) 112 w' w.heap.size (fun k_ => (w.heap.size ≤ k_)) v2_ r3 ∧ Below w.heap.size w w' := by
  obtain ⟨t, ht, e⟩ := Option.bind_eq_some_iff.1 h
  obtain ⟨⟨⟨b_, n_⟩, d_⟩, e_⟩ := t
  cases e
  have HT := Aside0.mk ht
  have HR0 := Aside0.mk hr0
  have hu44 := Tryz.underlying44
  have hu42 := Tryz.underlying42
  clear h ht hr0 hc0
  go_enter Tryz.func103, Tryz.ntmps103
  go_wp2_with (first | (go_at_call 81; have HB5_ := HB5; clear HB5; (with_reducible refine (ratio_one.calls [1] _ rfl).mono ?_); rintro e w6 ⟨v1, rfl, hv, hb⟩; obtain ⟨X2, y2, rfl, k2, f2⟩ := Kd.R_V (base' := 0) (Kd.R_bound hv); have HB7 := Aside0.mk (ratio_Mul.step_below HB5_.out hb); have HB6 := Aside0.mk (ratio_Mul.step_below HB4.out hb); have HK2 := Aside0.mk k2; have HF2 := Aside0.mk f2; have HF1 := Aside0.mk (Kd.F_below HF.out hb); have HS := Aside0.mk HB5_.out.size; clear hb k2 f2 hv HB4 HF HB5_) | (go_at_call 81; (with_reducible refine (ratio_one.calls [1] _ rfl).mono ?_); rintro e w4 ⟨v0, rfl, hv, hb⟩; obtain ⟨X1, y1, rfl, k1, f1⟩ := Kd.R_V (base' := 0) (Kd.R_bound hv); have HB5 := Aside0.mk hb; have HB4 := Aside0.mk (ratio_Mul.step_below (below_alloc (Below.refl _ _) _) hb); have HK := Aside0.mk k1; have HF := Aside0.mk f1; clear hb k1 f1 hv) | (go_at_call 80; go_loud (refine (ratio_Mul.fold_calls k (fun k => w.heap.size < k) ⟨⟨false, [1]⟩, [1]⟩ X1 y1 X2 y2 A0 c0 l0 _ _ _ HK.out (Kd.F_mono HF1.out (fun k hk => by have := hk.2.1; simp at this; omega)) HK2.out (Kd.F_mono HF2.out (fun k hk => by have := hk.2.1; have := HS.out; simp at this; omega)) (Kd.C_below HR0.out HB6.out) HT.out).mono ?_; rintro e w5 ⟨v, rfl, ⟨Y1, m1, Y2, m2, rfl, g1, h1, g2, h2⟩, hb⟩; have hc0 := q_below (b := w.heap.size) (i := 0) hb (q_below HB7.out (q_new rfl rfl)); have hc1 := q_below (b := w.heap.size) (i := 1) hb (q_below HB7.out (q_new rfl rfl)); have hc2 := q_below (b := w.heap.size) (i := 2) hb (q_below HB7.out (q_new rfl rfl)); have hf0 := q_fbelow (i := 0) hb (q_below HB7.out (q_new (n := w.heap.size) (i := 0) rfl rfl)) (q_fbelow HB7.out (q_new (n := w.heap.size) (i := 0) rfl rfl) (q_fnew rfl)); have hf1 := q_fbelow (i := 1) hb (q_below HB7.out (q_new (n := w.heap.size) (i := 1) rfl rfl)) (q_fbelow HB7.out (q_new (n := w.heap.size) (i := 1) rfl rfl) (q_fnew rfl)); have hf2 := q_fbelow (i := 2) hb (q_below HB7.out (q_new (n := w.heap.size) (i := 2) rfl rfl)) (q_fbelow HB7.out (q_new (n := w.heap.size) (i := 2) rfl rfl) (q_fnew rfl)); have HB8 := Aside0.mk (ratio_Mul.step_below HB6.out hb); have HV := Aside0.mk (And.intro g1 (And.intro h1 (And.intro g2 h2))); clear hb g1 g2 h1 h2)))
  have hz0 := q_setne (b := w.heap.size) (i := 0) (b' := w.heap.size) (i' := 2) (v := .slice Y2 d_.length m2) (.inr (by decide)) (q_setne (b := w.heap.size) (i := 0) (b' := w.heap.size) (i' := 1) (v := .slice Y1 n_.length m1) (.inr (by decide)) (q_set (v := .bool b_) hc0))
  have hz1 := q_setne (b := w.heap.size) (i := 1) (b' := w.heap.size) (i' := 2) (v := .slice Y2 d_.length m2) (.inr (by decide)) (q_set (v := .slice Y1 n_.length m1) (q_setne (b := w.heap.size) (i := 1) (b' := w.heap.size) (i' := 0) (v := .bool b_) (.inr (by decide)) hc1))
  have hz2 := q_set (v := .slice Y2 d_.length m2) (q_setne (b := w.heap.size) (i := 2) (b' := w.heap.size) (i' := 1) (v := .slice Y1 n_.length m1) (.inr (by decide)) (q_setne (b := w.heap.size) (i := 2) (b' := w.heap.size) (i' := 0) (v := .bool b_) (.inr (by decide)) hc2))
  refine bodyPost_ret (v := .tuple #[.agg #[.bool b_, .slice Y1 n_.length m1, .slice Y2 d_.length m2], .int .i64 e_]) (by simp [results, Tryz.f103, go_sem, hz0, hz1, hz2, hu44, hu42]) rfl ?_
  have hs := HB7.out.size
  simp at hs
  refine ⟨_, _, rfl, ⟨Y1, m1, rfl, HV.out.1, ?_⟩, ⟨Y2, m2, rfl, HV.out.2.2.1, ?_⟩, ((HB8.out.setCell (p := ⟨w.heap.size, 0, none⟩) (Nat.le_refl _) _).setCell (p := ⟨w.heap.size, 1, none⟩) (Nat.le_refl _) _).setCell (p := ⟨w.heap.size, 2, none⟩) (Nat.le_refl _) _⟩
  · exact Kd.F_mono (Kd.F_far (p := ⟨w.heap.size, 2, none⟩) (Kd.F_far (p := ⟨w.heap.size, 1, none⟩) (Kd.F_far (p := ⟨w.heap.size, 0, none⟩) HV.out.2.1 (fun k hk => by simp at hk ⊢; omega) _) (fun k hk => by simp at hk ⊢; omega) _) (fun k hk => by simp at hk ⊢; omega) _) (fun k hk => by rcases hk with hk | hk <;> omega)
  · exact Kd.F_mono (Kd.F_far (p := ⟨w.heap.size, 2, none⟩) (Kd.F_far (p := ⟨w.heap.size, 1, none⟩) (Kd.F_far (p := ⟨w.heap.size, 0, none⟩) HV.out.2.2.2 (fun k hk => by simp at hk ⊢; omega) _) (fun k hk => by simp at hk ⊢; omega) _) (fun k hk => by simp at hk ⊢; omega) _) (fun k hk => by rcases hk with hk | hk <;> omega)
end Go.Proofs.YtjeepapdaciieaaGreat.X
