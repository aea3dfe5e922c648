/- Part 1 of the proof of MassSizes: what the program's functions compute, function by function. -/
import Derived.Laws.Externs
import Derived.RangeFuncNested
import Derived.RangeFuncBound
import Derived.RangeFuncLeaves
import Derived.RangeFuncCalls
import Derived.OwnWalkIn
import Derived.ArgAppend
import Derived.OrdersIn
import Derived.RegionIn
import Derived.Test.YtjeepapdaciieaaGreatMMassSizes0
namespace Go.Proofs.YtjeepapdaciieaaGreat.X
open Go.RowKit Go.Proofs.YtjeepapdaciieaaGreatW.PrintWords Go.Proofs.YtjeepapdaciieaaGreatW.PrintLast Go.Proofs.YtjeepapdaciieaaGreatW.PrintMore
attribute [local go_sem] max2_int min2_int max_two min_two max_three min_three max_four min_four
set_option linter.unusedVariables false
set_option linter.unusedSimpArgs false
mutual
def soliton_Check.j0 : Nat → List Int → Bool → Option (Int)
  | 0, _, _ => none
  | k + 1, x0, x24 => if x24 = true then (some 13) else (soliton_Check.l0 k false x0 (x0.length : Int) 0)
def soliton_Check.l0 : Nat → Bool → List Int → Int → Int → Option (Int)
  | 0, _, _, _, _ => none
  | k + 1, x5, x25, x26, x27 => if x27 < x26 then (if 0 ≤ x27 then (if x27 < (x25.length : Int) then (if (rd x25 x27) < 0 then (some 13) else (if (rd x25 x27) > 16777215 then (some 13) else (if x5 = true then (soliton_Check.l0 k true x25 x26 (wrap64 (x27 + 1))) else (soliton_Check.l0 k (decide ((rd x25 x27) > 0)) x25 x26 (wrap64 (x27 + 1)))))) else (none)) else (none)) else (if x5 = true then (some 0) else (some 13))
end
def soliton_Check.f (k : Nat) (l0 : List Int) (a1 : Int) : Option (Int) := if a1 < 1 then (soliton_Check.j0 k l0 true) else (if a1 > 65536 then (soliton_Check.j0 k l0 true) else (if (l0.length : Int) < 1 then (soliton_Check.j0 k l0 true) else (soliton_Check.j0 k l0 (decide ((l0.length : Int) > a1)))))
set_option maxHeartbeats 8000000 in
set_option maxRecDepth 100000 in
theorem soliton_Check.calls (k : Nat) (A0 : Option Addr) (c0 : Nat) (l0 : List Int) (a1 : Int) (r : Int) (w : World) (hr0 : Kd.C (Kd.int .i64) w A0 l0.length l0) (hc0 : l0.length ≤ c0) (h : soliton_Check.f k l0 a1 = some r) :
    Calls Tryz.prog 47 #[.slice A0 l0.length c0, .int .i64 a1] w fun e w' => e = .returned (.int .i64 r) ∧ Drawn0 w w' := by
  have HR0 := Aside0.mk hr0
  have HC0 := Aside0.mk hc0
  clear hr0 hc0
  have H : (if a1 < 1 then (soliton_Check.j0 k l0 true) else (if a1 > 65536 then (soliton_Check.j0 k l0 true) else (if (l0.length : Int) < 1 then (soliton_Check.j0 k l0 true) else (soliton_Check.j0 k l0 (decide ((l0.length : Int) > a1)))))) = some r := h
  clear h
  have HC3 := Aside0.mk H
  clear H
  go_enter Tryz.func47, Tryz.ntmps47
  go_upto_region 1 with (fail)
  go_cut [24] (fun v24 wc => ∃ (kq : Nat) (x24_2 : Bool), v24 = .bool x24_2 ∧ Aside0 (soliton_Check.j0 kq l0 x24_2 = some r) ∧ Aside0 (kq ≤ k) ∧ Drawn0 w wc)
  case first =>
    have H := HC3.out
    clear HC3
    by_cases c4 : a1 < 1
    · rw [if_pos c4] at H
      have c4b0 : decide (a1 < 1) = true := decide_eq_true c4
      clear c4
      (first | rw [c4b0] | (simp only [i64_w, i32_w]; rw [c4b0]) | skip)
      have H' := Aside0.mk H
      clear H
      go_wp2
      go_meet
      case rel => exact ⟨_, (true), (by first | rfl | (simp; done) | (simp [*]; done)), H', ⟨by first | omega | exact Nat.le_refl _⟩, by repeat (first | exact Drawn0.refl _ | apply Drawn0.step)⟩
    · rw [if_neg c4] at H
      have c4b0 : decide (a1 < 1) = false := decide_eq_false c4
      clear c4
      (first | rw [c4b0] | (simp only [i64_w, i32_w]; rw [c4b0]) | skip)
      by_cases c5 : a1 > 65536
      · rw [if_pos c5] at H
        have c5b0 : decide (65536 < a1) = true := decide_eq_true c5
        clear c5
        have H' := Aside0.mk H
        clear H
        go_wp2
        go_meet
        case rel => exact ⟨_, (true), (by first | rfl | (simp; done) | (simp [*]; done)), H', ⟨by first | omega | exact Nat.le_refl _⟩, by repeat (first | exact Drawn0.refl _ | apply Drawn0.step)⟩
      · rw [if_neg c5] at H
        have c5b0 : decide (65536 < a1) = false := decide_eq_false c5
        clear c5
        by_cases c6 : (l0.length : Int) < 1
        · rw [if_pos c6] at H
          have c6b0 : decide ((l0.length : Int) < 1) = true := decide_eq_true c6
          have c6b1 : decide (l0.length < 1) = true := decide_eq_true (by omega)
          clear c6
          have H' := Aside0.mk H
          clear H
          go_wp2
          go_meet
          case rel => exact ⟨_, (true), (by first | rfl | (simp; done) | (simp [*]; done)), H', ⟨by first | omega | exact Nat.le_refl _⟩, by repeat (first | exact Drawn0.refl _ | apply Drawn0.step)⟩
        · rw [if_neg c6] at H
          have c6b0 : decide ((l0.length : Int) < 1) = false := decide_eq_false c6
          have c6b1 : decide (l0.length < 1) = false := decide_eq_false (by omega)
          clear c6
          have H' := Aside0.mk H
          clear H
          go_wp2
          go_meet
          case rel => exact ⟨_, (decide ((l0.length : Int) > a1)), (by first | rfl | (simp; done) | (simp [*]; done)), H', ⟨by first | omega | exact Nat.le_refl _⟩, by repeat (first | exact Drawn0.refl _ | apply Drawn0.step)⟩
  case rest =>
    clear HC3
    try clear p2
    try clear c4
    try clear c4b0
    try clear c5
    try clear c5b0
    try clear c6
    try clear c6b0
    try clear c6b1
    obtain ⟨kq, x24_2, rfl, HA, HJ2, ⟨mc2, rfl⟩⟩ := hcut
    cases kq with
    | zero => exact absurd HA.out (by simp [soliton_Check.j0])
    | succ kj2 =>
      have H := HA.out
      clear HA
      simp only [soliton_Check.j0] at H
      by_cases c7 : x24_2 = true
      · subst c7
        have H1 : (some 13) = some r := by rw [if_pos rfl] at H; exact H
        clear H
        have H := H1
        clear H1
        obtain rfl := Option.some.inj H
        go_wp2
        go_ret
        exact ⟨by first | rfl | (simp; done) | (simp [*]; done), by repeat (first | exact Drawn0.refl _ | apply Drawn0.step)⟩
      · replace c7 := Bool.eq_false_iff.mpr c7
        subst c7
        have H1 : (soliton_Check.l0 kj2 false l0 (l0.length : Int) 0) = some r := by rw [if_neg (show ¬ (false = true) by decide)] at H; exact H
        clear H
        have H := H1
        clear H1
        have H' := Aside0.mk H
        clear H
        go_wp2
        go_loopg [5, 27] kj2 (fun kq v5 v27 w' => ∃ (x5_2 : Bool) (x27_2 : Int), v5 = .bool x5_2 ∧ v27 = .int .i64 x27_2 ∧ Aside0 (soliton_Check.l0 kq x5_2 l0 (l0.length : Int) x27_2 = some r) ∧ Aside0 (kq ≤ kj2) ∧ Drawn0 w w')
        case atStart => exact ⟨(false), (0), (by first | rfl | (simp; done) | (simp [*]; done)), (by first | rfl | (simp; done) | (simp [*]; done)), H', ⟨Nat.le_refl _⟩, by repeat (first | exact Drawn0.refl _ | apply Drawn0.step)⟩
        case round =>
          clear H'
          try clear c2
          try clear p2
          try clear c4
          try clear c4b0
          try clear c5
          try clear c5b0
          try clear c6
          try clear c6b0
          try clear c6b1
          try clear c7
          try clear p2
          obtain ⟨x5_2, x27_2, rfl, rfl, HA, HK2, ⟨m2, rfl⟩⟩ := hrel
          cases gk with
          | zero => exact absurd HA.out (by simp [soliton_Check.l0])
          | succ k2 =>
            have H := HA.out
            clear HA
            simp only [soliton_Check.l0] at H
            by_cases c8 : x27_2 < (l0.length : Int)
            · rw [if_pos c8] at H
              have c8b0 : decide (x27_2 < (l0.length : Int)) = true := decide_eq_true c8
              clear c8
              by_cases c9 : 0 ≤ x27_2
              · rw [if_pos c9] at H
                have c9b0 : decide (0 ≤ x27_2) = true := decide_eq_true c9
                clear c9
                by_cases c10 : x27_2 < (l0.length : Int)
                · rw [if_pos c10] at H
                  have c10b0 : decide (x27_2 < (l0.length : Int)) = true := decide_eq_true c10
                  clear c10
                  by_cases c11 : (rd l0 x27_2) < 0
                  · rw [if_pos c11] at H
                    have c11b0 : decide ((rd l0 x27_2) < 0) = true := decide_eq_true c11
                    clear c11
                    obtain rfl := Option.some.inj H
                    have p101 : 0 ≤ (x27_2 : Int) := of_decide_eq_true (by first | (with_reducible assumption) | assumption)
                    have q101 : x27_2 < (l0.length : Int) := of_decide_eq_true (by first | (with_reducible assumption) | assumption)
                    obtain ⟨ad101, e101, hx101_0⟩ := Kd.at_int HR0.out x27_2 p101 q101
                    cases e101
                    replace p101 := eq_true p101
                    replace q101 := eq_true q101
                    go_wp2
                    go_ret
                    exact ⟨by first | rfl | (simp; done) | (simp [*]; done), by repeat (first | exact Drawn0.refl _ | apply Drawn0.step)⟩
                  · rw [if_neg c11] at H
                    have c11b0 : decide ((rd l0 x27_2) < 0) = false := decide_eq_false c11
                    clear c11
                    by_cases c12 : (rd l0 x27_2) > 16777215
                    · rw [if_pos c12] at H
                      have c12b0 : decide (16777215 < (rd l0 x27_2)) = true := decide_eq_true c12
                      clear c12
                      obtain rfl := Option.some.inj H
                      have p101 : 0 ≤ (x27_2 : Int) := of_decide_eq_true (by first | (with_reducible assumption) | assumption)
                      have q101 : x27_2 < (l0.length : Int) := of_decide_eq_true (by first | (with_reducible assumption) | assumption)
                      obtain ⟨ad101, e101, hx101_0⟩ := Kd.at_int HR0.out x27_2 p101 q101
                      cases e101
                      replace p101 := eq_true p101
                      replace q101 := eq_true q101
                      go_wp2
                      go_ret
                      exact ⟨by first | rfl | (simp; done) | (simp [*]; done), by repeat (first | exact Drawn0.refl _ | apply Drawn0.step)⟩
                    · rw [if_neg c12] at H
                      have c12b0 : decide (16777215 < (rd l0 x27_2)) = false := decide_eq_false c12
                      clear c12
                      by_cases c13 : x5_2 = true
                      · subst c13
                        have H1 : (soliton_Check.l0 k2 true l0 (l0.length : Int) (wrap64 (x27_2 + 1))) = some r := by rw [if_pos rfl] at H; exact H
                        clear H
                        have H := H1
                        clear H1
                        have H' := Aside0.mk H
                        clear H
                        have p101 : 0 ≤ (x27_2 : Int) := of_decide_eq_true (by first | (with_reducible assumption) | assumption)
                        have q101 : x27_2 < (l0.length : Int) := of_decide_eq_true (by first | (with_reducible assumption) | assumption)
                        obtain ⟨ad101, e101, hx101_0⟩ := Kd.at_int HR0.out x27_2 p101 q101
                        cases e101
                        replace p101 := eq_true p101
                        replace q101 := eq_true q101
                        go_wp2
                        go_roundg k2
                        case measure => have := HJ2.out; have := HK2.out; omega
                        case rel => exact ⟨(true), (wrap64 (x27_2 + 1)), (by first | rfl | (simp; done) | (simp [*]; done)), (by first | rfl | (simp; done) | (simp [*]; done)), H', ⟨by have := HJ2.out; have := HK2.out; omega⟩, by repeat (first | exact Drawn0.refl _ | apply Drawn0.step)⟩
                      · replace c13 := Bool.eq_false_iff.mpr c13
                        subst c13
                        have H1 : (soliton_Check.l0 k2 (decide ((rd l0 x27_2) > 0)) l0 (l0.length : Int) (wrap64 (x27_2 + 1))) = some r := by rw [if_neg (show ¬ (false = true) by decide)] at H; exact H
                        clear H
                        have H := H1
                        clear H1
                        have H' := Aside0.mk H
                        clear H
                        have p101 : 0 ≤ (x27_2 : Int) := of_decide_eq_true (by first | (with_reducible assumption) | assumption)
                        have q101 : x27_2 < (l0.length : Int) := of_decide_eq_true (by first | (with_reducible assumption) | assumption)
                        obtain ⟨ad101, e101, hx101_0⟩ := Kd.at_int HR0.out x27_2 p101 q101
                        cases e101
                        replace p101 := eq_true p101
                        replace q101 := eq_true q101
                        go_wp2
                        go_roundg k2
                        case measure => have := HJ2.out; have := HK2.out; omega
                        case rel => exact ⟨(decide ((rd l0 x27_2) > 0)), (wrap64 (x27_2 + 1)), (by first | rfl | (simp; done) | (simp [*]; done)), (by first | rfl | (simp; done) | (simp [*]; done)), H', ⟨by have := HJ2.out; have := HK2.out; omega⟩, by repeat (first | exact Drawn0.refl _ | apply Drawn0.step)⟩
                · rw [if_neg c10] at H
                  exact absurd H (by simp)
              · rw [if_neg c9] at H
                exact absurd H (by simp)
            · rw [if_neg c8] at H
              have c8b0 : decide (x27_2 < (l0.length : Int)) = false := decide_eq_false c8
              clear c8
              by_cases c14 : x5_2 = true
              · subst c14
                have H1 : (some 0) = some r := by rw [if_pos rfl] at H; exact H
                clear H
                have H := H1
                clear H1
                obtain rfl := Option.some.inj H
                go_wp2
                go_ret
                exact ⟨by first | rfl | (simp; done) | (simp [*]; done), by repeat (first | exact Drawn0.refl _ | apply Drawn0.step)⟩
              · replace c14 := Bool.eq_false_iff.mpr c14
                subst c14
                have H1 : (some 13) = some r := by rw [if_neg (show ¬ (false = true) by decide)] at H; exact H
                clear H
                have H := H1
                clear H1
                obtain rfl := Option.some.inj H
                go_wp2
                go_ret
                exact ⟨by first | rfl | (simp; done) | (simp [*]; done), by repeat (first | exact Drawn0.refl _ | apply Drawn0.step)⟩
def mass_refuses.f (k : Nat) (l0 : List Int) (a1 : Int) (a2 : Int) : Option (Int) := (soliton_Check.f k l0 a1).bind fun t310 => (if t310 = 0 then (if a2 < 0 then (some 3) else (if a2 > 4096 then (some 3) else (some 0))) else (some 13))
set_option maxHeartbeats 8000000 in
set_option maxRecDepth 100000 in
theorem mass_refuses.calls (k : Nat) (A0 : Option Addr) (c0 : Nat) (l0 : List Int) (a1 : Int) (a2 : Int) (r : Int) (w : World) (hr0 : Kd.C (Kd.int .i64) w A0 l0.length l0) (hc0 : l0.length ≤ c0) (h : mass_refuses.f k l0 a1 a2 = some r) :
    Calls Tryz.prog 117 #[.slice A0 l0.length c0, .int .i64 a1, .int .i64 a2] w fun e w' => e = .returned (.int .i64 r) ∧ Drawn0 w w' := by
  have HR0 := Aside0.mk hr0
  have HC0 := Aside0.mk hc0
  clear hr0 hc0
  have H : ((soliton_Check.f k l0 a1).bind fun t310 => (if t310 = 0 then (if a2 < 0 then (some 3) else (if a2 > 4096 then (some 3) else (some 0))) else (some 13))) = some r := h
  clear h
  replace H := Option.bind_eq_some_iff.mp H
  obtain ⟨t310, A40, H⟩ := H
  replace H : (if t310 = 0 then (if a2 < 0 then (some 3) else (if a2 > 4096 then (some 3) else (some 0))) else (some 13)) = some r := H
  have A4 := Aside0.mk A40
  clear A40
  by_cases c5 : t310 = 0
  · rw [if_pos c5] at H
    have c5b0 : (t310 == 0) = true := beq_iff_eq.mpr c5
    have c5b1 : (t310 != 0) = false := bne_eq_false_iff_eq.mpr c5
    clear c5
    by_cases c6 : a2 < 0
    · rw [if_pos c6] at H
      have c6b0 : decide (a2 < 0) = true := decide_eq_true c6
      clear c6
      obtain rfl := Option.some.inj H
      go_enter Tryz.func117, Tryz.ntmps117
      go_wp2_with (first | ((with_reducible refine gate_callee (f := 47) rfl ?_); refine goesL_ (some 10) rfl rfl Tryz.func47 (by kernel_rfl) rfl #[.slice A0 l0.length c0, .int .i64 a1] rfl (by (try simp only [List.map_toArray, List.map_cons, List.map_nil]); first | done | rfl | (simp only [List.length_drop, List.length_take]; rfl)) ?_; (with_reducible refine (soliton_Check.calls k _ _ l0 a1 t310 _ ?side1 ?side2 A4.out).mono ?_); (case side1 => repeat (first | exact HR0.out | (with_reducible refine Kd.C_alloc ?_ _) | (with_reducible refine Kd.C_drewN ?_ _) | (with_reducible refine Kd.C_drew ?_))); (case side2 => exact HC0.out); rintro e w' ⟨rfl, ⟨nd, rfl⟩⟩; refine ⟨_, rfl, ?_⟩))
      go_ret
      exact ⟨by first | rfl | (simp; done) | (simp [*]; done), by repeat (first | exact Drawn0.refl _ | apply Drawn0.step)⟩
    · rw [if_neg c6] at H
      have c6b0 : decide (a2 < 0) = false := decide_eq_false c6
      clear c6
      by_cases c7 : a2 > 4096
      · rw [if_pos c7] at H
        have c7b0 : decide (4096 < a2) = true := decide_eq_true c7
        clear c7
        obtain rfl := Option.some.inj H
        go_enter Tryz.func117, Tryz.ntmps117
        go_wp2_with (first | ((with_reducible refine gate_callee (f := 47) rfl ?_); refine goesL_ (some 10) rfl rfl Tryz.func47 (by kernel_rfl) rfl #[.slice A0 l0.length c0, .int .i64 a1] rfl (by (try simp only [List.map_toArray, List.map_cons, List.map_nil]); first | done | rfl | (simp only [List.length_drop, List.length_take]; rfl)) ?_; (with_reducible refine (soliton_Check.calls k _ _ l0 a1 t310 _ ?side1 ?side2 A4.out).mono ?_); (case side1 => repeat (first | exact HR0.out | (with_reducible refine Kd.C_alloc ?_ _) | (with_reducible refine Kd.C_drewN ?_ _) | (with_reducible refine Kd.C_drew ?_))); (case side2 => exact HC0.out); rintro e w' ⟨rfl, ⟨nd, rfl⟩⟩; refine ⟨_, rfl, ?_⟩))
        go_ret
        exact ⟨by first | rfl | (simp; done) | (simp [*]; done), by repeat (first | exact Drawn0.refl _ | apply Drawn0.step)⟩
      · rw [if_neg c7] at H
        have c7b0 : decide (4096 < a2) = false := decide_eq_false c7
        clear c7
        obtain rfl := Option.some.inj H
        go_enter Tryz.func117, Tryz.ntmps117
        go_wp2_with (first | ((with_reducible refine gate_callee (f := 47) rfl ?_); refine goesL_ (some 10) rfl rfl Tryz.func47 (by kernel_rfl) rfl #[.slice A0 l0.length c0, .int .i64 a1] rfl (by (try simp only [List.map_toArray, List.map_cons, List.map_nil]); first | done | rfl | (simp only [List.length_drop, List.length_take]; rfl)) ?_; (with_reducible refine (soliton_Check.calls k _ _ l0 a1 t310 _ ?side1 ?side2 A4.out).mono ?_); (case side1 => repeat (first | exact HR0.out | (with_reducible refine Kd.C_alloc ?_ _) | (with_reducible refine Kd.C_drewN ?_ _) | (with_reducible refine Kd.C_drew ?_))); (case side2 => exact HC0.out); rintro e w' ⟨rfl, ⟨nd, rfl⟩⟩; refine ⟨_, rfl, ?_⟩))
        go_ret
        exact ⟨by first | rfl | (simp; done) | (simp [*]; done), by repeat (first | exact Drawn0.refl _ | apply Drawn0.step)⟩
  · rw [if_neg c5] at H
    have c5b0 : (t310 == 0) = false := beq_eq_false_iff_ne.mpr c5
    have c5b1 : (t310 != 0) = true := bne_iff_ne.mpr c5
    obtain rfl := Option.some.inj H
    go_enter Tryz.func117, Tryz.ntmps117
    go_wp2_with (first | ((with_reducible refine gate_callee (f := 47) rfl ?_); refine goesL_ (some 10) rfl rfl Tryz.func47 (by kernel_rfl) rfl #[.slice A0 l0.length c0, .int .i64 a1] rfl (by (try simp only [List.map_toArray, List.map_cons, List.map_nil]); first | done | rfl | (simp only [List.length_drop, List.length_take]; rfl)) ?_; (with_reducible refine (soliton_Check.calls k _ _ l0 a1 t310 _ ?side1 ?side2 A4.out).mono ?_); (case side1 => repeat (first | exact HR0.out | (with_reducible refine Kd.C_alloc ?_ _) | (with_reducible refine Kd.C_drewN ?_ _) | (with_reducible refine Kd.C_drew ?_))); (case side2 => exact HC0.out); rintro e w' ⟨rfl, ⟨nd, rfl⟩⟩; refine ⟨_, rfl, ?_⟩))
    go_ret
    exact ⟨by first | rfl | (simp; done) | (simp [*]; done), by repeat (first | exact Drawn0.refl _ | apply Drawn0.step)⟩
def soliton_Total.sum (l : List Int) : Int := l.foldl (fun s x => wrap64 (s + x)) 0
theorem soliton_Total.sum_snoc (l : List Int) (x : Int) : soliton_Total.sum (l ++ [x]) = wrap64 (soliton_Total.sum l + x) := by simp [soliton_Total.sum]
def soliton_Total.f (l0 : List Int) : Option Int := some (soliton_Total.sum l0)
theorem soliton_Total.add (B : Nat) (s x : Int) (w : World) (hc : w.cell? ⟨B, 0, none⟩ = some (.int .i64 s)) (hf : w.frozen? ⟨B, 0, none⟩ = false) :
    Calls Tryz.prog 160 #[.int .i64 x, .pointer (some ⟨B, 0, none⟩)] w fun e w' => e = .returned (.tuple #[]) ∧ w' = w.setCell ⟨B, 0, none⟩ (.int .i64 (wrap64 (s + x))) := by
  go_enter Tryz.func160, Tryz.ntmps160
  go_wp2
  go_end0
  exact ⟨rfl, rfl⟩
set_option maxRecDepth 100000 in
set_option maxHeartbeats 4000000 in
theorem soliton_Total.calls (A0 : Option Addr) (c0 : Nat) (l0 : List Int) (r : Int) (w : World) (hr0 : Kd.C (Kd.int .i64) w A0 l0.length l0) (hc0 : l0.length ≤ c0) (h : soliton_Total.f l0 = some r) :
    Calls Tryz.prog 90 #[.slice A0 l0.length c0] w fun e w' => e = .returned (.int .i64 r) ∧ Below w.heap.size w w' := by
  obtain rfl := Option.some.inj h
  clear h hc0
  have hm : l0.length ≤ 9223372036854775807 := hr0.2.1
  have HR0 := Aside0.mk hr0
  clear hr0
  go_enter Tryz.func90, Tryz.ntmps90
  go_wp2
  go_loopw [9] (fun i wr => ∃ k : Nat, k ≤ l0.length ∧ i = .int .i64 k ∧ (wr.cell? ⟨w.heap.size, 0, none⟩ = some (.int .i64 (soliton_Total.sum (l0.take k))) ∧ wr.frozen? ⟨w.heap.size, 0, none⟩ = false) ∧ Below w.heap.size w wr) (fun i _ => l0.length - (intOf i).toNat)
  case atStart => exact ⟨0, Nat.zero_le _, rfl, ⟨q_new rfl rfl, q_fnew rfl⟩, below_alloc (Below.refl _ _) _⟩
  case round =>
    obtain ⟨k, hk, rfl, ⟨hc, hf⟩, hb⟩ := hrel
    by_cases hlt : k < l0.length
    · obtain ⟨ad, e1, hx⟩ := Kd.at_int (Kd.C_below HR0.out hb) (k : Int) (by omega) (by omega)
      have hx' : wr.cell? (ad.add k) = some (.int .i64 (l0.getD k 0)) := by simpa [rd] using hx
      subst e1
      have hs := soliton_Total.sum_snoc (l0.take k) l0[k]
      have ht : l0.take (k + 1) = l0.take k ++ [l0[k]] := by rw [List.take_succ_eq_append_getElem hlt]
      have HS := Aside0.mk (ht ▸ hs : soliton_Total.sum (l0.take (k + 1)) = _)
      clear hx hs ht
      go_wp2_with (go_at_call 160; (with_reducible refine (soliton_Total.add _ _ _ _ hc hf).mono ?_); rintro e w' ⟨rfl, rfl⟩)
      go_roundw
      case rel => exact ⟨k + 1, by omega, by go_num, ⟨by rw [HS.out]; exact World.cell?_setCell_same' _ _ _ (by rw [hc]; rfl), by rw [World.frozen?_setCell]; exact hf⟩, hb.setCell (p := ⟨w.heap.size, 0, none⟩) (Nat.le_refl _) _⟩
      case measure => simp [intOf]; omega
    · obtain rfl : k = l0.length := by omega
      rw [List.take_length] at hc
      go_wp2
      have hc5 := World.cell?_setCell_same' wr ⟨w.heap.size, 0, none⟩ (.int .i64 (soliton_Total.sum l0)) (by rw [hc]; rfl)
      exact bodyPost_ret (v := .int .i64 (soliton_Total.sum l0)) (by simp [results, Tryz.f90, go_sem, hc5]) rfl ⟨rfl, hb.setCell (p := ⟨w.heap.size, 0, none⟩) (Nat.le_refl _) _⟩
def stop_fine.l0 : Nat → Int → List Int → Int → List Int → Int → Int → Option (Bool)
  | 0, _, _, _, _, _, _ => none
  | k + 1, x0, x1, x5, x8, x9, x10 => if x10 < x9 then (if 0 ≤ x10 then (if x10 < (x8.length : Int) then (if (rd x8 x10) ≤ x5 then (some false) else (if (rd x8 x10) ≥ x0 then (some false) else (stop_fine.l0 k x0 x1 (rd x8 x10) x8 x9 (wrap64 (x10 + 1))))) else (none)) else (none)) else (some (decide ((x1.length : Int) > 0)))
def stop_fine.f (k : Nat) (a0 : Int) (l1 : List Int) : Option (Bool) := stop_fine.l0 k a0 l1 (-1) l1 (l1.length : Int) 0
set_option maxHeartbeats 8000000 in
set_option maxRecDepth 100000 in
theorem stop_fine.calls (k : Nat) (a0 : Int) (A1 : Option Addr) (c1 : Nat) (l1 : List Int) (r : Bool) (w : World) (hr1 : Kd.C (Kd.int .i64) w A1 l1.length l1) (hc1 : l1.length ≤ c1) (h : stop_fine.f k a0 l1 = some r) :
    Calls Tryz.prog 221 #[.int .i64 a0, .slice A1 l1.length c1] w fun e w' => e = .returned (.bool r) ∧ Drawn0 w w' := by
  have HR1 := Aside0.mk hr1
  have HC1 := Aside0.mk hc1
  clear hr1 hc1
  have H : (stop_fine.l0 k a0 l1 (-1) l1 (l1.length : Int) 0) = some r := h
  clear h
  have H' := Aside0.mk H
  clear H
  go_enter Tryz.func221, Tryz.ntmps221
  go_wp2
  go_loopg [5, 10] k (fun kq v5 v10 w' => ∃ (x5_1 : Int) (x10_1 : Int), v5 = .int .i64 x5_1 ∧ v10 = .int .i64 x10_1 ∧ Aside0 (stop_fine.l0 kq a0 l1 x5_1 l1 (l1.length : Int) x10_1 = some r) ∧ Aside0 (kq ≤ k) ∧ Drawn0 w w')
  case atStart => exact ⟨((-1)), (0), (by first | rfl | (simp; done) | (simp [*]; done)), (by first | rfl | (simp; done) | (simp [*]; done)), H', ⟨Nat.le_refl _⟩, by repeat (first | exact Drawn0.refl _ | apply Drawn0.step)⟩
  case round =>
    clear H'
    try clear c1
    try clear c2
    try clear p2
    obtain ⟨x5_1, x10_1, rfl, rfl, HA, HK1, ⟨m1, rfl⟩⟩ := hrel
    cases gk with
    | zero => exact absurd HA.out (by simp [stop_fine.l0])
    | succ k1 =>
      have H := HA.out
      clear HA
      simp only [stop_fine.l0] at H
      by_cases c3 : x10_1 < (l1.length : Int)
      · rw [if_pos c3] at H
        have c3b0 : decide (x10_1 < (l1.length : Int)) = true := decide_eq_true c3
        clear c3
        by_cases c4 : 0 ≤ x10_1
        · rw [if_pos c4] at H
          have c4b0 : decide (0 ≤ x10_1) = true := decide_eq_true c4
          clear c4
          by_cases c5 : x10_1 < (l1.length : Int)
          · rw [if_pos c5] at H
            have c5b0 : decide (x10_1 < (l1.length : Int)) = true := decide_eq_true c5
            clear c5
            by_cases c6 : (rd l1 x10_1) ≤ x5_1
            · rw [if_pos c6] at H
              have c6b0 : decide ((rd l1 x10_1) ≤ x5_1) = true := decide_eq_true c6
              clear c6
              obtain rfl := Option.some.inj H
              have p503 : 0 ≤ (x10_1 : Int) := of_decide_eq_true (by first | (with_reducible assumption) | assumption)
              have q503 : x10_1 < (l1.length : Int) := of_decide_eq_true (by first | (with_reducible assumption) | assumption)
              obtain ⟨ad503, e503, hx503_0⟩ := Kd.at_int HR1.out x10_1 p503 q503
              cases e503
              replace p503 := eq_true p503
              replace q503 := eq_true q503
              go_wp2
              go_ret
              exact ⟨by first | rfl | (simp; done) | (simp [*]; done), by repeat (first | exact Drawn0.refl _ | apply Drawn0.step)⟩
            · rw [if_neg c6] at H
              have c6b0 : decide ((rd l1 x10_1) ≤ x5_1) = false := decide_eq_false c6
              clear c6
              by_cases c7 : (rd l1 x10_1) ≥ a0
              · rw [if_pos c7] at H
                have c7b0 : decide (a0 ≤ (rd l1 x10_1)) = true := decide_eq_true c7
                clear c7
                obtain rfl := Option.some.inj H
                have p503 : 0 ≤ (x10_1 : Int) := of_decide_eq_true (by first | (with_reducible assumption) | assumption)
                have q503 : x10_1 < (l1.length : Int) := of_decide_eq_true (by first | (with_reducible assumption) | assumption)
                obtain ⟨ad503, e503, hx503_0⟩ := Kd.at_int HR1.out x10_1 p503 q503
                cases e503
                replace p503 := eq_true p503
                replace q503 := eq_true q503
                go_wp2
                go_ret
                exact ⟨by first | rfl | (simp; done) | (simp [*]; done), by repeat (first | exact Drawn0.refl _ | apply Drawn0.step)⟩
              · rw [if_neg c7] at H
                have c7b0 : decide (a0 ≤ (rd l1 x10_1)) = false := decide_eq_false c7
                clear c7
                have H' := Aside0.mk H
                clear H
                have p503 : 0 ≤ (x10_1 : Int) := of_decide_eq_true (by first | (with_reducible assumption) | assumption)
                have q503 : x10_1 < (l1.length : Int) := of_decide_eq_true (by first | (with_reducible assumption) | assumption)
                obtain ⟨ad503, e503, hx503_0⟩ := Kd.at_int HR1.out x10_1 p503 q503
                cases e503
                replace p503 := eq_true p503
                replace q503 := eq_true q503
                go_wp2
                go_roundg k1
                case measure => have := HK1.out; omega
                case rel => exact ⟨(rd l1 x10_1), (wrap64 (x10_1 + 1)), (by first | rfl | (simp; done) | (simp [*]; done)), (by first | rfl | (simp; done) | (simp [*]; done)), H', ⟨by have := HK1.out; omega⟩, by repeat (first | exact Drawn0.refl _ | apply Drawn0.step)⟩
          · rw [if_neg c5] at H
            exact absurd H (by simp)
        · rw [if_neg c4] at H
          exact absurd H (by simp)
      · rw [if_neg c3] at H
        have c3b0 : decide (x10_1 < (l1.length : Int)) = false := decide_eq_false c3
        clear c3
        obtain rfl := Option.some.inj H
        go_wp2
        go_ret
        exact ⟨by first | rfl | (simp; done) | (simp [*]; done), by repeat (first | exact Drawn0.refl _ | apply Drawn0.step)⟩
def mass_few.l0 : Nat → Int → Int → Int → Int → Option (Bool)
  | 0, _, _, _, _ => none
  | k + 1, x0, x5, x6, x7 => if x7 < x6 then (if (wrap64 (x5 * x0)) > 4096 then (some false) else (if x0 ≤ 1 then (some true) else (mass_few.l0 k x0 (wrap64 (x5 * x0)) x6 (wrap64 (x7 + 1))))) else (some true)
def mass_few.f (k : Nat) (a0 : Int) (a1 : Int) : Option (Bool) := mass_few.l0 k a0 1 a1 0
set_option maxHeartbeats 8000000 in
set_option maxRecDepth 100000 in
theorem mass_few.calls (k : Nat) (a0 : Int) (a1 : Int) (r : Bool) (w : World) (h : mass_few.f k a0 a1 = some r) :
    Calls Tryz.prog 132 #[.int .i64 a0, .int .i64 a1] w fun e w' => e = .returned (.bool r) ∧ Drawn0 w w' := by
  have H : (mass_few.l0 k a0 1 a1 0) = some r := h
  clear h
  have H' := Aside0.mk H
  clear H
  go_enter Tryz.func132, Tryz.ntmps132
  go_wp2
  go_loopg [5, 7] k (fun kq v5 v7 w' => ∃ (x5_1 : Int) (x7_1 : Int), v5 = .int .i64 x5_1 ∧ v7 = .int .i64 x7_1 ∧ Aside0 (mass_few.l0 kq a0 x5_1 a1 x7_1 = some r) ∧ Aside0 (kq ≤ k) ∧ Drawn0 w w')
  case atStart => exact ⟨(1), (0), (by first | rfl | (simp; done) | (simp [*]; done)), (by first | rfl | (simp; done) | (simp [*]; done)), H', ⟨Nat.le_refl _⟩, by repeat (first | exact Drawn0.refl _ | apply Drawn0.step)⟩
  case round =>
    clear H'
    try clear c1
    try clear p2
    obtain ⟨x5_1, x7_1, rfl, rfl, HA, HK1, ⟨m1, rfl⟩⟩ := hrel
    cases gk with
    | zero => exact absurd HA.out (by simp [mass_few.l0])
    | succ k1 =>
      have H := HA.out
      clear HA
      simp only [mass_few.l0] at H
      by_cases c3 : x7_1 < a1
      · rw [if_pos c3] at H
        have c3b0 : decide (x7_1 < a1) = true := decide_eq_true c3
        clear c3
        by_cases c4 : (wrap64 (x5_1 * a0)) > 4096
        · rw [if_pos c4] at H
          have c4b0 : decide (4096 < (wrap64 (x5_1 * a0))) = true := decide_eq_true c4
          clear c4
          obtain rfl := Option.some.inj H
          go_wp2
          go_ret
          exact ⟨by first | rfl | (simp; done) | (simp [*]; done), by repeat (first | exact Drawn0.refl _ | apply Drawn0.step)⟩
        · rw [if_neg c4] at H
          have c4b0 : decide (4096 < (wrap64 (x5_1 * a0))) = false := decide_eq_false c4
          clear c4
          by_cases c5 : a0 ≤ 1
          · rw [if_pos c5] at H
            have c5b0 : decide (a0 ≤ 1) = true := decide_eq_true c5
            clear c5
            obtain rfl := Option.some.inj H
            go_wp2
            go_ret
            exact ⟨by first | rfl | (simp; done) | (simp [*]; done), by repeat (first | exact Drawn0.refl _ | apply Drawn0.step)⟩
          · rw [if_neg c5] at H
            have c5b0 : decide (a0 ≤ 1) = false := decide_eq_false c5
            clear c5
            have H' := Aside0.mk H
            clear H
            go_wp2
            go_roundg k1
            case measure => have := HK1.out; omega
            case rel => exact ⟨(wrap64 (x5_1 * a0)), (wrap64 (x7_1 + 1)), (by first | rfl | (simp; done) | (simp [*]; done)), (by first | rfl | (simp; done) | (simp [*]; done)), H', ⟨by have := HK1.out; omega⟩, by repeat (first | exact Drawn0.refl _ | apply Drawn0.step)⟩
      · rw [if_neg c3] at H
        have c3b0 : decide (x7_1 < a1) = false := decide_eq_false c3
        clear c3
        obtain rfl := Option.some.inj H
        go_wp2
        go_ret
        exact ⟨by first | rfl | (simp; done) | (simp [*]; done), by repeat (first | exact Drawn0.refl _ | apply Drawn0.step)⟩
def ratio_sum_1.f (l0 : List Int) : Option (Bool × List Int) := some (false, l0)
def bits_Sub64.f (a0 a1 a2 : Int) : Option (Int × Int) := if a2 = 0 then some ((((a0.toNat + 18446744073709551616 - a1.toNat) % 18446744073709551616 : Nat) : Int), ((if a0.toNat < a1.toNat then 1 else 0 : Nat) : Int)) else if a2 = 1 then some ((((a0.toNat + 18446744073709551616 - a1.toNat - 1) % 18446744073709551616 : Nat) : Int), ((if a0.toNat < a1.toNat + 1 then 1 else 0 : Nat) : Int)) else none
def bits_Sub64.entry : Array Value → Sem Value := fun args => do
  let (x, y, b) ← Extern.MathBitsCarry.three "Sub64" args
  pure (Extern.MathBitsCarry.pair ((x + Extern.MathBitsCarry.m64 - y - b) % Extern.MathBitsCarry.m64) (if x < y + b then 1 else 0))
theorem bits_Sub64.calls (a0 a1 a2 : Int) (r1 r2 : Int) (w : World) (h : bits_Sub64.f a0 a1 a2 = some (r1, r2)) :
    ECalls Tryz.prog 274 #[.int .u64 a0, .int .u64 a1, .int .u64 a2] w fun e w' => e = .returned (.tuple #[.int .u64 r1, .int .u64 r2]) ∧ Drawn0 w w' := by
  unfold bits_Sub64.f at h
  have hx := run_callFunc_extern Tryz.func274 (by kernel_rfl) (by kernel_rfl) (by kernel_rfl) (e := bits_Sub64.entry) (by kernel_rfl) #[.int .u64 a0, .int .u64 a1, .int .u64 a2] w
  by_cases c : a2 = 0
  · rw [if_pos c] at h
    injection h with h
    injection h with h1 h2
    subst h1 h2 c
    exact ⟨_, w, hx, rfl, drawn0_self w⟩
  · rw [if_neg c] at h
    by_cases c : a2 = 1
    · rw [if_pos c] at h
      injection h with h
      injection h with h1 h2
      subst h1 h2 c
      exact ⟨_, w, hx, rfl, drawn0_self w⟩
    · rw [if_neg c] at h
      cases h
def limbs_digit.f (l0 : List Int) (a1 : Int) : Option (Int) := if a1 < (l0.length : Int) then (if 0 ≤ a1 then (some (rd l0 a1)) else (none)) else (some 0)
set_option maxHeartbeats 8000000 in
set_option maxRecDepth 100000 in
theorem limbs_digit.calls (A0 : Option Addr) (c0 : Nat) (l0 : List Int) (a1 : Int) (r : Int) (w : World) (hr0 : Kd.C (Kd.int .u64) w A0 l0.length l0) (hc0 : l0.length ≤ c0) (h : limbs_digit.f l0 a1 = some r) :
    Calls Tryz.prog 271 #[.slice A0 l0.length c0, .int .i64 a1] w fun e w' => e = .returned (.int .u64 r) ∧ Drawn0 w w' := by
  have HR0 := Aside0.mk hr0
  have HC0 := Aside0.mk hc0
  clear hr0 hc0
  have H : (if a1 < (l0.length : Int) then (if 0 ≤ a1 then (some (rd l0 a1)) else (none)) else (some 0)) = some r := h
  clear h
  by_cases c3 : a1 < (l0.length : Int)
  · rw [if_pos c3] at H
    have c3b0 : decide (a1 < (l0.length : Int)) = true := decide_eq_true c3
    clear c3
    by_cases c4 : 0 ≤ a1
    · rw [if_pos c4] at H
      have c4b0 : decide (0 ≤ a1) = true := decide_eq_true c4
      clear c4
      obtain rfl := Option.some.inj H
      have p173 : 0 ≤ (a1 : Int) := of_decide_eq_true (by first | (with_reducible assumption) | assumption)
      have q173 : a1 < (l0.length : Int) := of_decide_eq_true (by first | (with_reducible assumption) | assumption)
      obtain ⟨ad173, e173, hx173_0⟩ := Kd.at_int HR0.out a1 p173 q173
      cases e173
      replace p173 := eq_true p173
      replace q173 := eq_true q173
      go_enter Tryz.func271, Tryz.ntmps271
      go_wp2
      go_ret
      exact ⟨by first | rfl | (simp; done) | (simp [*]; done), by repeat (first | exact Drawn0.refl _ | apply Drawn0.step)⟩
    · rw [if_neg c4] at H
      exact absurd H (by simp)
  · rw [if_neg c3] at H
    have c3b0 : decide (a1 < (l0.length : Int)) = false := decide_eq_false c3
    clear c3
    obtain rfl := Option.some.inj H
    go_enter Tryz.func271, Tryz.ntmps271
    go_wp2
    go_ret
    exact ⟨by first | rfl | (simp; done) | (simp [*]; done), by repeat (first | exact Drawn0.refl _ | apply Drawn0.step)⟩
def slices_ClipNat.f (l0 : List Int) : Option (List Int) := some l0
set_option maxHeartbeats 1000000 in
theorem slices_ClipNat.calls (P0_ : Nat → Prop) (A0 : Option Addr) (c0 : Nat) (l0 : List Int) (r : List Int) (w : World) (hs0 : Kd.V (Kd.int .u64) 112 w w.heap.size (fun k_ => P0_ k_) (.slice A0 l0.length c0) l0) (h : slices_ClipNat.f l0 = some r) :
    Calls Tryz.prog 273 #[.slice A0 l0.length c0] w fun e w' => ∃ v0_ : Value, e = .returned (v0_) ∧ Kd.V (Kd.int .u64) 112 w' w.heap.size (fun k_ => (P0_ k_ ∨ w.heap.size ≤ k_)) v0_ r ∧ Below w.heap.size w w' := by
  obtain rfl := Option.some.inj h
  have HO0 := Aside0.mk hs0
  clear h hs0
  obtain ⟨A, c, e, hc, hf⟩ := HO0.out
  injection e with e1 e2 e3
  subst e1 e3
  have hb : l0.length ≤ 9223372036854775807 := (hf _ (fun _ _ _ => rfl)).2.1
  have HF := Aside0.mk hf
  clear hf e2
  go_enter Tryz.func273, Tryz.ntmps273
  go_wp2
  go_ret
  exact ⟨_, rfl, ⟨A0, l0.length, rfl, Nat.le_refl _, Kd.F_mono HF.out (fun _ hk => .inl hk)⟩, Below.refl _ _⟩
def bits_Add64.f (a0 a1 a2 : Int) : Option (Int × Int) := if a2 = 0 then some ((((a0.toNat + a1.toNat) % 18446744073709551616 : Nat) : Int), (((a0.toNat + a1.toNat) / 18446744073709551616 : Nat) : Int)) else if a2 = 1 then some ((((a0.toNat + a1.toNat + 1) % 18446744073709551616 : Nat) : Int), (((a0.toNat + a1.toNat + 1) / 18446744073709551616 : Nat) : Int)) else none
theorem bits_Add64.calls (a0 a1 a2 : Int) (r1 r2 : Int) (w : World) (h : bits_Add64.f a0 a1 a2 = some (r1, r2)) :
    ECalls Tryz.prog 249 #[.int .u64 a0, .int .u64 a1, .int .u64 a2] w fun e w' => e = .returned (.tuple #[.int .u64 r1, .int .u64 r2]) ∧ Drawn0 w w' := by
  unfold bits_Add64.f at h
  have hx := run_callFunc_extern Tryz.func249 (by kernel_rfl) (by kernel_rfl) (by kernel_rfl) (e := add64Entry) (by kernel_rfl) #[.int .u64 a0, .int .u64 a1, .int .u64 a2] w
  by_cases c : a2 = 0
  · rw [if_pos c] at h
    injection h with h
    injection h with h1 h2
    subst h1 h2 c
    exact ⟨_, w, hx, rfl, drawn0_self w⟩
  · rw [if_neg c] at h
    by_cases c : a2 = 1
    · rw [if_pos c] at h
      injection h with h
      injection h with h1 h2
      subst h1 h2 c
      exact ⟨_, w, hx, rfl, drawn0_self w⟩
    · rw [if_neg c] at h
      cases h
def artesianlaw23_ahead.l0 : Nat → List Int → List Int → Int → Option (Bool)
  | 0, _, _, _ => none
  | k + 1, x0, x1, x5 => if x5 < (x0.length : Int) then (if 0 ≤ x5 then (if x5 < (x1.length : Int) then (if (rd x0 x5) = (rd x1 x5) then (artesianlaw23_ahead.l0 k x0 x1 (wrap64 (x5 + 1))) else (some (decide ((rd x0 x5) < (rd x1 x5))))) else (none)) else (none)) else (some false)
def artesianlaw23_ahead.f (k : Nat) (l0 : List Int) (l1 : List Int) : Option (Bool) := if (l0.length : Int) = (l1.length : Int) then (artesianlaw23_ahead.l0 k l0 l1 0) else (some (decide ((l0.length : Int) < (l1.length : Int))))
set_option maxHeartbeats 8000000 in
set_option maxRecDepth 100000 in
theorem artesianlaw23_ahead.calls (k : Nat) (A0 : Option Addr) (c0 : Nat) (l0 : List Int) (A1 : Option Addr) (c1 : Nat) (l1 : List Int) (r : Bool) (w : World) (hr0 : Kd.C (Kd.int .i64) w A0 l0.length l0) (hc0 : l0.length ≤ c0) (hr1 : Kd.C (Kd.int .i64) w A1 l1.length l1) (hc1 : l1.length ≤ c1) (h : artesianlaw23_ahead.f k l0 l1 = some r) :
    Calls Tryz.prog 24 #[.slice A0 l0.length c0, .slice A1 l1.length c1] w fun e w' => e = .returned (.bool r) ∧ Drawn0 w w' := by
  have HR0 := Aside0.mk hr0
  have HC0 := Aside0.mk hc0
  clear hr0 hc0
  have HR1 := Aside0.mk hr1
  have HC1 := Aside0.mk hc1
  clear hr1 hc1
  have H : (if (l0.length : Int) = (l1.length : Int) then (artesianlaw23_ahead.l0 k l0 l1 0) else (some (decide ((l0.length : Int) < (l1.length : Int))))) = some r := h
  clear h
  by_cases c3 : (l0.length : Int) = (l1.length : Int)
  · rw [if_pos c3] at H
    have c3b0 : ((l0.length : Int) == (l1.length : Int)) = true := beq_iff_eq.mpr c3
    have c3b1 : ((l0.length : Int) != (l1.length : Int)) = false := bne_eq_false_iff_eq.mpr c3
    have c3b2 : (l0.length == l1.length) = true := by first | simpa using c3 | (simp at c3 ⊢; omega)
    clear c3
    have H' := Aside0.mk H
    clear H
    go_enter Tryz.func24, Tryz.ntmps24
    go_wp2
    repeat (go_quiet (fail); try go_wp2)
    go_loopg [5] k (fun kq v5 w' => ∃ (x5_1 : Int), v5 = .int .i64 x5_1 ∧ Aside0 (artesianlaw23_ahead.l0 kq l0 l1 x5_1 = some r) ∧ Aside0 (kq ≤ k) ∧ Drawn0 w w')
    case atStart => exact ⟨(0), (by first | rfl | (simp; done) | (simp [*]; done)), H', ⟨Nat.le_refl _⟩, by repeat (first | exact Drawn0.refl _ | apply Drawn0.step)⟩
    case round =>
      clear H'
      try clear c1
      try clear c2
      try clear p2
      try clear c3
      try clear c3b0
      try clear c3b1
      try clear c3b2
      obtain ⟨x5_1, rfl, HA, HK1, ⟨m1, rfl⟩⟩ := hrel
      cases gk with
      | zero => exact absurd HA.out (by simp [artesianlaw23_ahead.l0])
      | succ k1 =>
        have H := HA.out
        clear HA
        simp only [artesianlaw23_ahead.l0] at H
        by_cases c4 : x5_1 < (l0.length : Int)
        · rw [if_pos c4] at H
          have c4b0 : decide (x5_1 < (l0.length : Int)) = true := decide_eq_true c4
          clear c4
          by_cases c5 : 0 ≤ x5_1
          · rw [if_pos c5] at H
            have c5b0 : decide (0 ≤ x5_1) = true := decide_eq_true c5
            clear c5
            by_cases c6 : x5_1 < (l1.length : Int)
            · rw [if_pos c6] at H
              have c6b0 : decide (x5_1 < (l1.length : Int)) = true := decide_eq_true c6
              clear c6
              by_cases c7 : (rd l0 x5_1) = (rd l1 x5_1)
              · rw [if_pos c7] at H
                have c7b0 : ((rd l0 x5_1) == (rd l1 x5_1)) = true := beq_iff_eq.mpr c7
                have c7b1 : ((rd l0 x5_1) != (rd l1 x5_1)) = false := bne_eq_false_iff_eq.mpr c7
                clear c7
                have H' := Aside0.mk H
                clear H
                have p547 : 0 ≤ (x5_1 : Int) := of_decide_eq_true (by first | (with_reducible assumption) | assumption)
                have q547 : x5_1 < (l0.length : Int) := of_decide_eq_true (by first | (with_reducible assumption) | assumption)
                obtain ⟨ad547, e547, hx547_0⟩ := Kd.at_int HR0.out x5_1 p547 q547
                cases e547
                replace p547 := eq_true p547
                replace q547 := eq_true q547
                have p548 : 0 ≤ (x5_1 : Int) := of_decide_eq_true (by first | (with_reducible assumption) | assumption)
                have q548 : x5_1 < (l1.length : Int) := of_decide_eq_true (by first | (with_reducible assumption) | assumption)
                obtain ⟨ad548, e548, hx548_0⟩ := Kd.at_int HR1.out x5_1 p548 q548
                cases e548
                replace p548 := eq_true p548
                replace q548 := eq_true q548
                go_wp2
                repeat (go_quiet (fail); try go_wp2)
                go_roundg k1
                case measure => have := HK1.out; omega
                case rel => exact ⟨(wrap64 (x5_1 + 1)), (by first | rfl | (simp; done) | (simp [*]; done)), H', ⟨by have := HK1.out; omega⟩, by repeat (first | exact Drawn0.refl _ | apply Drawn0.step)⟩
              · rw [if_neg c7] at H
                have c7b0 : ((rd l0 x5_1) == (rd l1 x5_1)) = false := beq_eq_false_iff_ne.mpr c7
                have c7b1 : ((rd l0 x5_1) != (rd l1 x5_1)) = true := bne_iff_ne.mpr c7
                obtain rfl := Option.some.inj H
                have p547 : 0 ≤ (x5_1 : Int) := of_decide_eq_true (by first | (with_reducible assumption) | assumption)
                have q547 : x5_1 < (l0.length : Int) := of_decide_eq_true (by first | (with_reducible assumption) | assumption)
                obtain ⟨ad547, e547, hx547_0⟩ := Kd.at_int HR0.out x5_1 p547 q547
                cases e547
                replace p547 := eq_true p547
                replace q547 := eq_true q547
                have p548 : 0 ≤ (x5_1 : Int) := of_decide_eq_true (by first | (with_reducible assumption) | assumption)
                have q548 : x5_1 < (l1.length : Int) := of_decide_eq_true (by first | (with_reducible assumption) | assumption)
                obtain ⟨ad548, e548, hx548_0⟩ := Kd.at_int HR1.out x5_1 p548 q548
                cases e548
                replace p548 := eq_true p548
                replace q548 := eq_true q548
                have p549 : 0 ≤ (x5_1 : Int) := of_decide_eq_true (by first | (with_reducible assumption) | assumption)
                have q549 : x5_1 < (l0.length : Int) := of_decide_eq_true (by first | (with_reducible assumption) | assumption)
                obtain ⟨ad549, e549, hx549_0⟩ := Kd.at_int HR0.out x5_1 p549 q549
                obtain rfl : ad547 = ad549 := (by injection e549)
                replace p549 := eq_true p549
                replace q549 := eq_true q549
                have p550 : 0 ≤ (x5_1 : Int) := of_decide_eq_true (by first | (with_reducible assumption) | assumption)
                have q550 : x5_1 < (l1.length : Int) := of_decide_eq_true (by first | (with_reducible assumption) | assumption)
                obtain ⟨ad550, e550, hx550_0⟩ := Kd.at_int HR1.out x5_1 p550 q550
                obtain rfl : ad548 = ad550 := (by injection e550)
                replace p550 := eq_true p550
                replace q550 := eq_true q550
                go_wp2
                repeat (go_quiet (fail); try go_wp2)
                go_ret
                exact ⟨by first | rfl | (simp; done) | (simp [*]; done), by repeat (first | exact Drawn0.refl _ | apply Drawn0.step)⟩
            · rw [if_neg c6] at H
              exact absurd H (by simp)
          · rw [if_neg c5] at H
            exact absurd H (by simp)
        · rw [if_neg c4] at H
          have c4b0 : decide (x5_1 < (l0.length : Int)) = false := decide_eq_false c4
          clear c4
          obtain rfl := Option.some.inj H
          go_wp2
          repeat (go_quiet (fail); try go_wp2)
          go_ret
          exact ⟨by first | rfl | (simp; done) | (simp [*]; done), by repeat (first | exact Drawn0.refl _ | apply Drawn0.step)⟩
  · rw [if_neg c3] at H
    have c3b0 : ((l0.length : Int) == (l1.length : Int)) = false := beq_eq_false_iff_ne.mpr c3
    have c3b1 : ((l0.length : Int) != (l1.length : Int)) = true := bne_iff_ne.mpr c3
    have c3b2 : (l0.length == l1.length) = false := by first | simpa using c3 | (simp at c3 ⊢; omega)
    obtain rfl := Option.some.inj H
    go_enter Tryz.func24, Tryz.ntmps24
    go_wp2
    repeat (go_quiet (fail); try go_wp2)
    go_ret
    exact ⟨by first | rfl | (simp; done) | (simp [*]; done), by repeat (first | exact Drawn0.refl _ | apply Drawn0.step)⟩
def artesianlaw23_small.l0 : Nat → List Int → Int → List Int → Int → Option (List Int × Bool)
  | 0, _, _, _, _ => none
  | k + 1, x0, x1, x6, x7 => if x7 < x1 then (if x7 < (x0.length : Int) then (if 0 ≤ x7 then ((artesiankit_Pick.f (rd x0 x7) 4).bind fun t541 => (if x6.length < 17592186044416 then (artesianlaw23_small.l0 k x0 x1 (x6 ++ [t541]) (wrap64 (x7 + 1))) else (none))) else (none)) else ((soliton_Check.f k x6 x1).bind fun t545 => (some (x6, (t545 == 0))))) else ((soliton_Check.f k x6 x1).bind fun t546 => (some (x6, (t546 == 0))))
def artesianlaw23_small.f (k : Nat) (l0 : List Int) (a1 : Int) : Option (List Int × Bool) := artesianlaw23_small.l0 k l0 a1 ([] : List Int) 0
set_option maxHeartbeats 8000000 in
set_option maxRecDepth 100000 in
theorem artesianlaw23_small.calls (k : Nat) (A0 : Option Addr) (c0 : Nat) (l0 : List Int) (a1 : Int) (r1 : List Int) (r2 : Bool) (w : World) (hr0 : Kd.C (Kd.int .i64) w A0 l0.length l0) (hc0 : l0.length ≤ c0) (h : artesianlaw23_small.f k l0 a1 = some (r1, r2)) :
    Calls Tryz.prog 23 #[.slice A0 l0.length c0, .int .i64 a1] w fun e w' => ∃ v0_ : Value, e = .returned (.tuple #[v0_, .bool r2]) ∧ Kd.R (Kd.int .i64) 3 w' w.heap.size (fun _ => True) v0_ r1 ∧ Below w.heap.size w w' := by
  have HR0 := Aside0.mk hr0
  have HC0 := Aside0.mk hc0
  clear hr0 hc0
  have HB := Aside0.mk (Below.refl w.heap.size w)
  have H : (artesianlaw23_small.l0 k l0 a1 ([] : List Int) 0) = some (r1, r2) := h
  clear h
  have H' := Aside0.mk H
  clear H
  go_enter Tryz.func23, Tryz.ntmps23
  go_wp2
  go_loopg [6, 7] k (fun kq v6 v7 w' => ∃ (x6_1 : List Int) (x7_1 : Int), v7 = .int .i64 x7_1 ∧ Aside0 (artesianlaw23_small.l0 kq l0 a1 x6_1 x7_1 = some (r1, r2)) ∧ Aside0 (kq ≤ k) ∧ Aside0 (Kd.R (Kd.int .i64) 3 w' w.heap.size (fun _ => True) v6 x6_1) ∧ Aside0 (Below w.heap.size w w'))
  case atStart => exact ⟨(([] : List Int)), (0), (by first | rfl | (simp; done) | (simp [*]; done)), H', ⟨Nat.le_refl _⟩, ⟨by first | exact Kd.R_nil _ _ _ _ _ | exact Kd.N_nil _ _ _ _ _ | exact Kd.V_nil _ _ _ _ _ | exact Kd.Q_nil _ _ _ _ _ | exact Kd.S_nil _ _ _ _ _⟩, ⟨by repeat (first | (with_reducible first | exact HB.out | apply below_alloc | apply pw_below_drewN | apply below_drew1) | exact HB.out)⟩⟩
  case round =>
    clear H'
    try clear c2
    try clear p2
    obtain ⟨x6_1, x7_1, rfl, HA, HK1, HO_6, HB⟩ := hrel
    cases gk with
    | zero => exact absurd HA.out (by simp [artesianlaw23_small.l0])
    | succ k1 =>
      have H := HA.out
      clear HA
      simp only [artesianlaw23_small.l0] at H
      by_cases c3 : x7_1 < a1
      · rw [if_pos c3] at H
        have c3b0 : decide (x7_1 < a1) = true := decide_eq_true c3
        clear c3
        by_cases c4 : x7_1 < (l0.length : Int)
        · rw [if_pos c4] at H
          have c4b0 : decide (x7_1 < (l0.length : Int)) = true := decide_eq_true c4
          clear c4
          by_cases c5 : 0 ≤ x7_1
          · rw [if_pos c5] at H
            have c5b0 : decide (0 ≤ x7_1) = true := decide_eq_true c5
            clear c5
            replace H := Option.bind_eq_some_iff.mp H
            obtain ⟨t541, A60, H⟩ := H
            replace H : (if x6_1.length < 17592186044416 then (artesianlaw23_small.l0 k1 l0 a1 (x6_1 ++ [t541]) (wrap64 (x7_1 + 1))) else (none)) = some (r1, r2) := H
            have A6 := Aside0.mk A60
            clear A60
            by_cases c7 : x6_1.length < 17592186044416
            · rw [if_pos c7] at H
              have LMc7 := Aside0.mk c7
              clear c7
              obtain ⟨y542, hy542⟩ : ∃ y_ : List Int, y_ = (x6_1 ++ [t541]) := ⟨_, rfl⟩
              replace H : (artesianlaw23_small.l0 k1 l0 a1 y542 (wrap64 (x7_1 + 1))) = some (r1, r2) := by first | (rw [hy542]; with_reducible exact H) | (have H2_ := (Option.bind_some _ _).symm.trans H; rw [hy542]; with_reducible exact H2_) | (have H2_ := (Option.bind_some _ _).symm.trans H; with_reducible exact H2_) | with_reducible exact H | (rw [hy542]; exact H) | exact H
              have Ny542 := Aside0.mk hy542
              clear hy542
              have H' := Aside0.mk H
              clear H
              have p540 : 0 ≤ (x7_1 : Int) := of_decide_eq_true (by first | (with_reducible assumption) | assumption)
              have q540 : x7_1 < (l0.length : Int) := of_decide_eq_true (by first | (with_reducible assumption) | assumption)
              obtain ⟨ad540, e540, hx540_0⟩ := Kd.at_int HR0.out x7_1 p540 q540
              cases e540
              replace hx540_0 := (HB.out.cell (World.block_lt_of_cell? w _ hx540_0)).trans hx540_0
              replace p540 := eq_true p540
              replace q540 := eq_true q540
              go_wp2_with (first | ((with_reducible refine gate_callee (f := 22) rfl ?_); refine goesL_ (some 24) rfl rfl Tryz.func22 (by kernel_rfl) rfl #[.int .i64 (rd l0 x7_1), .int .i64 4] rfl (by (try simp only [List.map_toArray, List.map_cons, List.map_nil]); first | done | rfl | (simp only [List.length_drop, List.length_take]; rfl)) ?_; (with_reducible refine (artesiankit_Pick.calls (rd l0 x7_1) 4 t541 _ A6.out).mono ?_); rintro e w' ⟨rfl, ⟨nd, rfl⟩⟩; refine ⟨_, rfl, ?_⟩) | ((with_reducible refine gate_builtin (b := .append) (xs := #[.tmp 19, .tmp 25]) rfl ?_); (try (refine gate_guard (by rfl) ?_; dsimp only)); at_builtin; refine Kd.R_append (Kd.int .i64) (w0 := w) w.heap.size rfl (.tmp 19) (.tmp 25) 22 3 (.int .i64 0) 8 rfl Tryz.underlying22 info3 rfl (by decide) (by omega) u6 x6_1 t541 [.int .i64 t541] (fun _ => True) (fun _ => False) rfl rfl ?aP (fun _ hk => hk.elim) ?aF ?aO ?aB ?aS ?aL ?_; (case aP => exact rfl); (case aB => exact (by repeat (first | (with_reducible first | exact HB.out | apply below_alloc | apply pw_below_drewN | apply below_drew1) | exact HB.out))); (case aF => exact (fun _ _ => trivial)); (case aO => exact (by (with_reducible repeat (first | apply Kd.R_alloc | apply Kd.R_drewN | apply Kd.R_drew)); exact HO_6.out)); (case aS => exact (below_size (by repeat (first | (with_reducible first | exact HB.out | apply below_alloc | apply pw_below_drewN | apply below_drew1) | exact HB.out)))); (case aL => have := LMc7.out; omega); intro v543 w8 ho hb hg hat; rw [← Ny542.out] at ho; have n0_ := Aside0.mk (hb); have n1_ := Aside0.mk (ho); clear HB; clear HO_6; have HB := n0_; have HO544 := n1_; clear n0_ n1_; clear ho hb hg hat))
              go_roundg k1
              case measure => have := HK1.out; omega
              case rel => exact ⟨(y542), (wrap64 (x7_1 + 1)), (by first | rfl | (simp; done) | (simp [*]; done)), H', ⟨by have := HK1.out; omega⟩, ⟨by (with_reducible repeat (first | apply Kd.R_alloc | apply Kd.R_drewN | apply Kd.R_drew)); exact HO544.out⟩, ⟨by repeat (first | (with_reducible first | exact HB.out | apply below_alloc | apply pw_below_drewN | apply below_drew1) | exact HB.out)⟩⟩
            · rw [if_neg c7] at H
              exact absurd H (by simp)
          · rw [if_neg c5] at H
            exact absurd H (by simp)
        · rw [if_neg c4] at H
          have c4b0 : decide (x7_1 < (l0.length : Int)) = false := decide_eq_false c4
          clear c4
          replace H := Option.bind_eq_some_iff.mp H
          obtain ⟨t545, A90, H⟩ := H
          replace H : (some (x6_1, (t545 == 0))) = some (r1, r2) := H
          have A9 := Aside0.mk A90
          clear A90
          simp only [Option.some.injEq, Prod.mk.injEq] at H
          obtain ⟨rfl, rfl⟩ := H
          obtain ⟨Ao10, co10, eo10⟩ := Kd.R_slice HO_6.out
          subst eo10
          go_wp2_with (first | ((with_reducible refine gate_callee (f := 47) rfl ?_); refine goesL_ (some 30) rfl rfl Tryz.func47 (by kernel_rfl) rfl #[.slice Ao10 x6_1.length co10, .int .i64 a1] rfl (by (try simp only [List.map_toArray, List.map_cons, List.map_nil]); first | done | rfl | (simp only [List.length_drop, List.length_take]; rfl)) ?_; (with_reducible refine (soliton_Check.calls k1 _ _ x6_1 a1 t545 _ ?side1 ?side2 A9.out).mono ?_); (case side1 => repeat (first | exact (Kd.R_reads' HO_6.out).2.2 | (with_reducible refine Kd.C_alloc ?_ _) | (with_reducible refine Kd.C_drewN ?_ _) | (with_reducible refine Kd.C_drew ?_))); (case side2 => exact (Kd.R_reads' HO_6.out).2.1); rintro e w' ⟨rfl, ⟨nd, rfl⟩⟩; refine ⟨_, rfl, ?_⟩))
          go_ret2
          exact ⟨_, by first | rfl | (simp [errW_none, errW_some] <;> rfl) | (simp [*, errW_none, errW_some] <;> rfl), by (with_reducible repeat (first | apply Kd.R_alloc | apply Kd.R_drewN | apply Kd.R_drew)); exact HO_6.out, by repeat (first | (with_reducible first | exact HB.out | apply below_alloc | apply pw_below_drewN | apply below_drew1) | exact HB.out)⟩
      · rw [if_neg c3] at H
        have c3b0 : decide (x7_1 < a1) = false := decide_eq_false c3
        clear c3
        replace H := Option.bind_eq_some_iff.mp H
        obtain ⟨t546, A110, H⟩ := H
        replace H : (some (x6_1, (t546 == 0))) = some (r1, r2) := H
        have A11 := Aside0.mk A110
        clear A110
        simp only [Option.some.injEq, Prod.mk.injEq] at H
        obtain ⟨rfl, rfl⟩ := H
        obtain ⟨Ao12, co12, eo12⟩ := Kd.R_slice HO_6.out
        subst eo12
        go_wp2_with (first | ((with_reducible refine gate_callee (f := 47) rfl ?_); refine goesL_ (some 30) rfl rfl Tryz.func47 (by kernel_rfl) rfl #[.slice Ao12 x6_1.length co12, .int .i64 a1] rfl (by (try simp only [List.map_toArray, List.map_cons, List.map_nil]); first | done | rfl | (simp only [List.length_drop, List.length_take]; rfl)) ?_; (with_reducible refine (soliton_Check.calls k1 _ _ x6_1 a1 t546 _ ?side1 ?side2 A11.out).mono ?_); (case side1 => repeat (first | exact (Kd.R_reads' HO_6.out).2.2 | (with_reducible refine Kd.C_alloc ?_ _) | (with_reducible refine Kd.C_drewN ?_ _) | (with_reducible refine Kd.C_drew ?_))); (case side2 => exact (Kd.R_reads' HO_6.out).2.1); rintro e w' ⟨rfl, ⟨nd, rfl⟩⟩; refine ⟨_, rfl, ?_⟩))
        go_ret2
        exact ⟨_, by first | rfl | (simp [errW_none, errW_some] <;> rfl) | (simp [*, errW_none, errW_some] <;> rfl), by (with_reducible repeat (first | apply Kd.R_alloc | apply Kd.R_drewN | apply Kd.R_drew)); exact HO_6.out, by repeat (first | (with_reducible first | exact HB.out | apply below_alloc | apply pw_below_drewN | apply below_drew1) | exact HB.out)⟩
end Go.Proofs.YtjeepapdaciieaaGreat.X
namespace Go.Proofs.YtjeepapdaciieaaGreat.X
open Go.RowKit
section
structure Turns (O : Nat → Prop) (W W' : World) : Prop where
  os : W'.os = W.os
  tape : W'.tape = W.tape
  output : W'.output = W.output
  size : W.heap.size ≤ W'.heap.size
  block : ∀ k, k < W.heap.size → ¬ O k → W'.heap[k]? = W.heap[k]?
namespace Turns
variable {O O' : Nat → Prop} {A B C W W' : World}
theorem refl (O : Nat → Prop) (W : World) : Turns O W W := ⟨rfl, rfl, rfl, Nat.le_refl _, fun _ _ _ => rfl⟩
theorem trans (h : Turns O A B) (k : Turns O' B C) (g : ∀ i, O' i → O i ∨ A.heap.size ≤ i) : Turns O A C :=
  ⟨k.os.trans h.os, k.tape.trans h.tape, k.output.trans h.output, Nat.le_trans h.size k.size, fun i hi ho => (k.block i (Nat.lt_of_lt_of_le hi h.size) (fun e => by rcases g i e with g | g; exact ho g; omega)).trans (h.block i hi ho)⟩
theorem trans' (h : Turns O A B) (k : Turns O B C) : Turns O A C := h.trans k (fun _ h => .inl h)
theorem mono (h : Turns O W W') (g : ∀ i, O i → O' i) : Turns O' W W' := ⟨h.os, h.tape, h.output, h.size, fun i hi ho => h.block i hi (fun e => ho (g i e))⟩
theorem of_below (h : Below W.heap.size W W') : Turns O W W' := ⟨h.os, h.tape, h.output, h.size, fun i hi _ => h.block i hi⟩
theorem below (h : Turns O W W') {n : Nat} (g : ∀ i, O i → n ≤ i) (hn : n ≤ W.heap.size) : Below n W W' := ⟨h.os, h.tape, h.output, h.size, fun i hi => h.block i (by omega) (fun e => by have := g i e; omega)⟩
theorem setCell (W : World) (p : Addr) (u : Value) (h : O p.block) : Turns O W (W.setCell p u) := ⟨rfl, rfl, rfl, by simp [World.setCell], fun i _ ho => Below.heap_setCell W p u i (fun e => ho (e ▸ h))⟩
theorem putObj (W : World) (l : Nat) (o : Obj) (h : O l) : Turns O W (W.putObj l o) := ⟨rfl, rfl, rfl, by simp [World.putObj], fun i _ ho => World.putObj_heap_other (fun e => ho (e ▸ h))⟩
end Turns
def Stable {β : Type} (J : (Nat → Prop) → β → World → Prop) : Prop := ∀ O O' s W W', J O s W → Turns O W W' → (∀ k, O' k → O k ∨ W.heap.size ≤ k) → J O' s W'
structure Keeps (K : Nat → Prop) (W W' : World) : Prop where
  size : W.heap.size ≤ W'.heap.size
  same : ∀ k, K k → k < W.heap.size → W'.heap[k]? = W.heap[k]?
namespace Keeps
variable {K K' : Nat → Prop} {A B C W W' : World}
theorem refl (K : Nat → Prop) (W : World) : Keeps K W W := ⟨Nat.le_refl _, fun _ _ _ => rfl⟩
theorem trans (h : Keeps K A B) (k : Keeps K B C) : Keeps K A C := ⟨Nat.le_trans h.size k.size, fun i hi hl => (k.same i hi (Nat.lt_of_lt_of_le hl h.size)).trans (h.same i hi hl)⟩
theorem mono (h : Keeps K W W') (g : ∀ i, K' i → K i) : Keeps K' W W' := ⟨h.size, fun i hi => h.same i (g i hi)⟩
theorem of_below {n : Nat} (h : Below n W W') (g : ∀ i, K i → i < W.heap.size → i < n) : Keeps K W W' := ⟨h.size, fun i hi hl => h.block i (g i hi hl)⟩
theorem of_new (h : Below W.heap.size W W') : Keeps K W W' := of_below h (fun _ _ h => h)
theorem setCell (W : World) (p : Addr) (u : Value) (h : ¬ K p.block) : Keeps K W (W.setCell p u) := ⟨by simp [World.setCell], fun i hi _ => Below.heap_setCell W p u i (fun e => h (e ▸ hi))⟩
theorem putObj (W : World) (l : Nat) (o : Obj) (h : ¬ K l) : Keeps K W (W.putObj l o) := ⟨by simp [World.putObj], fun i hi _ => World.putObj_heap_other (fun e => h (e ▸ hi))⟩
theorem of_turns {O : Nat → Prop} (h : Turns O W W') (g : ∀ i, K i → ¬ O i) : Keeps K W W' := ⟨h.size, fun i hi hl => h.block i hl (g i hi)⟩
end Keeps
variable {P : Program}
theorem roundIn_any {n m l0 : Nat} {l : Nat} {f : FuncId} {tmps : Array Value} {assign body : Code} {W : World} {R : Ending → World → Prop} (h : RoundIn Fence.wide n P l f tmps assign body W R) : RoundIn (Fence.wide.inRound l0) m P l f tmps assign body W R := ⟨trivial, fun c cs _ => h.2 c cs (room_wide _)⟩
def SeqW {α : Type} (P : Program) (g : Nat) (lb : Array Value) (encs : α → Array Value) (G : Nat → List α → α → (Nat → Prop) → World → Prop) (S Sp : List α → Prop) (R O0 : Nat → Prop) (w : World) : Prop :=
  ∀ (l : Nat) (J Jx : (Nat → Prop) → List α → World → Prop) (W : World), Keeps (fun k => R k ∨ O0 k) w W → Stable J → Stable Jx →
    (∀ O pre x W0 W1, (∀ k, O0 k → O k) → (∀ k, O k → k < W0.heap.size) → W.heap.size ≤ W0.heap.size → J O pre W0 → Turns O W0 W1 → G W0.heap.size pre x O W1 → YieldAt Fence.wide 1 P l (encs x) W1 fun e W' =>
      (e = .returned (.bool true) ∧ J O (pre ++ [x]) W' ∧ Keeps (fun k => R k ∨ O k) W1 W') ∨ (e = .returned (.bool false) ∧ Jx O (pre ++ [x]) W' ∧ Keeps (fun k => R k ∨ O k) W1 W')) →
    J O0 [] W →
    CallsIn Fence.wide 2 P g (#[.func (.yield l) #[] #[]] ++ lb) W fun e W' => (∃ v, e = .returned v) ∧ ((∃ xs O, (∀ k, O0 k → O k) ∧ S xs ∧ J O xs W') ∨ (∃ pre O, (∀ k, O0 k → O k) ∧ Sp pre ∧ Jx O pre W'))
def postW {α : Type} (K : Nat → Prop) (I : List α → World → Prop) (Ix : Code → List α → World → Prop) (xs : List α) (W : World) : Exit → Act → World → Prop
  | .normal, _, W' => Keeps K W W' ∧ I xs W'
  | .ret, _, W' => Keeps K W W' ∧ Ix .ret xs W'
  | .exit id, _, W' => Keeps K W W' ∧ Ix (.exit id) xs W'
  | .goto t, _, W' => Keeps K W W' ∧ Ix (.goto t) xs W'
  | .panic _, _, _ => False
  | .outgrown, _, _ => False
def Book (w : World) (k : Nat) : Prop := k = w.heap.size ∨ k = w.heap.size + 1
theorem wpIn_rangeFunc_W {α : Type} {g : Operand} {ps : Array Tmp} {assign body : Code} {Q : Exit → Act → World → Prop} {a : Act} {w : World}
    {gf : Nat} {lb : Array Value} (hg : a.eval g = .func (.func gf) #[] lb) (eg : ∀ args w, (callFunc gf args).run P w = .ok (.enter gf args) w)
    {encs : α → Array Value} {G : Nat → List α → α → (Nat → Prop) → World → Prop} {S Sp : List α → Prop} {R O0 : Nat → Prop} {w0 : World} (hseq : SeqW P gf lb encs G S Sp R O0 w0)
    (hG : ∀ n pre x O W W', G n pre x O W → W.heap.size ≤ W'.heap.size → (∀ k, n ≤ k ∨ O k ∨ R k → W'.heap[k]? = W.heap[k]?) → G n pre x O W')
    (hk0 : Keeps (fun k => R k ∨ O0 k) w0 w) (hw0 : w0.heap.size ≤ w.heap.size) (hlt : ∀ k, R k ∨ O0 k → k < w0.heap.size) (hps : ∀ x, (encs x).size = ps.size)
    (I : (Nat → Prop) → List α → World → Prop) (Ix : Code → (Nat → Prop) → List α → World → Prop) (hI : Stable I) (hIx : ∀ c, Stable (Ix c)) (h0 : I O0 [] w) (a₁ : α → Act)
    (hassign : ∀ (l : Nat) (x : α) (W : World) (K : Act → World → Prop), K (a₁ x) W →
      assign.wpIn (Fence.wide.inRound l) 1 P (Exit.then K (fun _ _ _ => False)) { tmps := (ps.zip (encs x)).foldl (fun t (p, v) => t.setIfInBounds p v) a.tmps, defers := [] } W)
    (hbody : ∀ (l : Nat) (O : Nat → Prop) (pre : List α) (x : α) (W0 W : World), w.heap.size + 2 ≤ W0.heap.size → (∀ k, O0 k → O k) → (∀ k, O k ∨ Book w k → k < W0.heap.size) → (∀ k, Book w k → ¬ O k) → I (fun k => O k ∨ Book w k) pre W0 → Turns (fun k => O k ∨ Book w k) W0 W → G W0.heap.size pre x O W →
      body.wpIn (Fence.wide.inRound l) 1 P (postW (fun k => R k ∨ O k ∨ Book w k) (I (fun k => O k ∨ Book w k)) (fun c => Ix c (fun k => O k ∨ Book w k)) (pre ++ [x]) W) (a₁ x) W)
    (hdone : ∀ (O : Nat → Prop) (xs : List α) (W : World), (∀ k, O0 k → O k) → S xs → I (fun k => O k ∨ Book w k) xs W → W.heap[w.heap.size]? = some (.deferred (some [])) → Q .normal { a with defers := { target := .collected w.heap.size, args := #[] } :: a.defers } W)
    (hstop : ∀ (O : Nat → Prop) (c : Code) (pre : List α) (W : World), (∀ k, O0 k → O k) → Sp pre → Ix c (fun k => O k ∨ Book w k) pre W → W.heap[w.heap.size]? = some (.deferred (some [])) → c.wpIn Fence.wide 3 P Q { a with defers := { target := .collected w.heap.size, args := #[] } :: a.defers } W) :
    (Code.rangeFunc g ps assign body).wpIn Fence.wide 3 P Q a w := by
  refine wpIn_rangeFunc ?_
  intro fn hfn
  obtain ⟨rec, hrec⟩ : ∃ rec : LoopState → Option Code → Loop, rec = fun st pe => { state := st, pending := pe, fn, tmps := a.tmps, params := ps, assign, body, defers := w.heap.size } := ⟨_, rfl⟩
  obtain ⟨W1, hW1⟩ : ∃ W1, (w.alloc (.deferred (some []))).alloc (.loop (rec .ready none)) = W1 := ⟨_, rfl⟩
  have hL1 : W1.heap[w.heap.size + 1]? = some (.loop (rec .ready none)) := by
    rw [← hW1]; have := World.alloc_heap_new (w.alloc (.deferred (some []))) (.loop (rec .ready none)); rwa [World.size_alloc] at this
  have hK1 : W1.heap[w.heap.size]? = some (.deferred (some [])) := by
    rw [← hW1]; exact (Below.heap_alloc _ _ _ (by simp)).trans (World.alloc_heap_new w _)
  have hb1 : Below w.heap.size w W1 := by
    rw [← hW1]; exact ((Below.refl _ w).alloc (Nat.le_refl _) _).alloc (by simp) _
  have hs1 : W1.heap.size = w.heap.size + 2 := by rw [← hW1]; simp
  have hnb : ∀ k, Book w k → ¬ (R k ∨ O0 k) := fun k hk e => by have := hlt k e; rcases hk with rfl | rfl <;> omega
  have hI1 : I (fun k => O0 k ∨ Book w k) [] W1 := hI _ _ _ _ _ h0 (Turns.of_below hb1) (fun k hk => hk.elim .inl (fun h => .inr (by rcases h with rfl | rfl <;> omega)))
  refine ⟨w.heap.size + 1, [{ target := .collected w.heap.size, args := #[] }], W1, { target := .fn (.func gf) lb, args := #[.func (.yield (w.heap.size + 1)) #[] #[]] }, W1, gf,
    #[.func (.yield (w.heap.size + 1)) #[] #[]] ++ lb, W1, ?_, ?_, fun _ _ => trivial, ?_, fun _ => by decide, ?_⟩
  · rw [← hW1, hrec]; exact run_enterLoop_outer _ _ _ _ _
  · simp only [resolve, hg]
    simp [go_sem]
  · simp [invoke, go_sem, eg]
  · have stab : ∀ (o : Obj) (I' : (Nat → Prop) → List α → World → Prop), Stable I' → Stable (fun O pre W => (∀ k, Book w k → ¬ O k) ∧ I' (fun k => O k ∨ Book w k) pre W ∧ W.heap[w.heap.size + 1]? = some o ∧ W.heap[w.heap.size]? = some (.deferred (some []))) := by
      intro o I' hI' O O' s A B hs ht hg'
      obtain ⟨hn, hi, hl, hk⟩ := hs
      have hl' := (Array.getElem?_eq_some_iff.1 hl).1
      have hk' := (Array.getElem?_eq_some_iff.1 hk).1
      have hbl : ∀ k, Book w k → k < A.heap.size := fun k hk => by rcases hk with rfl | rfl <;> assumption
      refine ⟨fun k hb ho => ?_, hI' _ _ _ _ _ hi (ht.mono (fun i h => .inl h)) (fun k hk => hk.elim (fun h => (hg' k h).elim (fun h => .inl (.inl h)) .inr) (fun h => .inl (.inr h))), (ht.block _ hl' (hn _ (.inr rfl))).trans hl, (ht.block _ hk' (hn _ (.inl rfl))).trans hk⟩
      rcases hg' k ho with h | h
      · exact hn k hb h
      · have := hbl k hb; omega
    refine (hseq (w.heap.size + 1)
      (fun O pre W => (∀ k, Book w k → ¬ O k) ∧ I (fun k => O k ∨ Book w k) pre W ∧ W.heap[w.heap.size + 1]? = some (.loop (rec .ready none)) ∧ W.heap[w.heap.size]? = some (.deferred (some [])))
      (fun O pre W => ∃ c, (∀ k, Book w k → ¬ O k) ∧ Ix c (fun k => O k ∨ Book w k) pre W ∧ W.heap[w.heap.size + 1]? = some (.loop (rec .done (some c))) ∧ W.heap[w.heap.size]? = some (.deferred (some [])))
      W1 (hk0.trans (Keeps.of_new hb1)) (stab _ _ hI)
      (fun O O' s A B hs ht hg' => by obtain ⟨c, hs⟩ := hs; exact ⟨c, stab _ _ (hIx c) O O' s A B hs ht hg'⟩)
      ?_ ⟨fun k hk e => hnb k hk (.inr e), hI1, hL1, hK1⟩).mono ?_
    ·
      rintro O pre x W0 W hOO hOb hsz0 ⟨hn, hi0, hl0, hk0⟩ ht hGx
      have hlt0 : w.heap.size + 1 < W0.heap.size := (Array.getElem?_eq_some_iff.1 hl0).1
      have hl := (ht.block _ hlt0 (hn _ (.inr rfl))).trans hl0
      have hk := (ht.block _ (by omega) (hn _ (.inl rfl))).trans hk0
      have hlt' : w.heap.size + 1 < W.heap.size := (Array.getElem?_eq_some_iff.1 hl).1
      have hy := run_yield (P := P) (args := encs x) hl (by rw [hrec]; exact hps x)
      rw [hrec] at hy
      refine ⟨fn, _, assign, body, hy, roundIn_of_wpIn hfn (hassign _ x W _ ?_)⟩
      clear hy
      refine ⟨_, run_beginRound hl (by rw [hrec]), ?_⟩
      have hlR : ¬ (R (w.heap.size + 1) ∨ O (w.heap.size + 1)) := fun e => e.elim (fun h => hnb _ (.inr rfl) (.inl h)) (fun h => hn _ (.inr rfl) h)
      have hl2 : (W.putObj (w.heap.size + 1) (.loop { rec .ready none with state := .busy })).heap[w.heap.size + 1]? = some (.loop { rec .ready none with state := .busy }) := World.putObj_heap_same hlt'
      have hk2 : (W.putObj (w.heap.size + 1) (.loop { rec .ready none with state := .busy })).heap[w.heap.size]? = some (.deferred (some [])) := (World.putObj_heap_other (by omega)).trans hk
      have hsz : (W.putObj (w.heap.size + 1) (.loop { rec .ready none with state := .busy })).heap.size = W.heap.size := by simp [World.putObj]
      have hw2 : Keeps (fun k => R k ∨ O k) W (W.putObj (w.heap.size + 1) (.loop { rec .ready none with state := .busy })) := Keeps.putObj _ _ _ hlR
      have ht2 : Turns (fun k => O k ∨ Book w k) W0 (W.putObj (w.heap.size + 1) (.loop { rec .ready none with state := .busy })) := (ht.mono (fun i h => .inl h)).trans' (Turns.putObj _ _ _ (.inr (.inr rfl)))
      have hG2 : G W0.heap.size pre x O (W.putObj (w.heap.size + 1) (.loop { rec .ready none with state := .busy })) := hG _ _ _ _ _ _ hGx (by omega) (fun k hk => World.putObj_heap_other (fun e => by
        subst e
        rcases hk with h | h | h
        · omega
        · exact hlR (.inr h)
        · exact hlR (.inl h)))
      refine wpIn_mono (hbody _ O pre x W0 _ (by omega) hOO (fun k hk => hk.elim (hOb k) (fun h => by rcases h with rfl | rfl <;> omega)) hn hi0 ht2 hG2) ?_
      have fin : ∀ (jump : Option Code) (W3 : World), Keeps (fun k => R k ∨ O k ∨ Book w k) (W.putObj (w.heap.size + 1) (.loop { rec .ready none with state := .busy })) W3 →
          (Instr.endRound (w.heap.size + 1) jump).run P W3 = .ok (.bool jump.isNone) (W3.putObj (w.heap.size + 1) (.loop (rec (if jump.isNone then .ready else .done) jump))) ∧
          (W3.putObj (w.heap.size + 1) (.loop (rec (if jump.isNone then .ready else .done) jump))).heap[w.heap.size + 1]? = some (.loop (rec (if jump.isNone then .ready else .done) jump)) ∧
          (W3.putObj (w.heap.size + 1) (.loop (rec (if jump.isNone then .ready else .done) jump))).heap[w.heap.size]? = some (.deferred (some [])) ∧
          Keeps (fun k => R k ∨ O k) W (W3.putObj (w.heap.size + 1) (.loop (rec (if jump.isNone then .ready else .done) jump))) := fun jump W3 hk3 => by
        have hl3 := (hk3.same _ (.inr (.inr (.inr rfl))) (by omega)).trans hl2
        have := run_endRound (P := P) jump hl3
        rw [hrec] at this ⊢
        exact ⟨this, World.putObj_heap_same (Array.getElem?_eq_some_iff.1 hl3).1, (World.putObj_heap_other (by omega)).trans ((hk3.same _ (.inr (.inr (.inl rfl))) (by omega)).trans hk2), (hw2.trans (hk3.mono (fun i h => h.elim .inl (fun h => .inr (.inl h))))).trans (Keeps.putObj _ _ _ hlR)⟩
      rintro e a3 W3 hp
      cases e with
      | normal =>
        obtain ⟨hk3, hi3⟩ := hp
        obtain ⟨hr, hl4, hk4, hkk⟩ := fin none W3 hk3
        exact ⟨_, _, hr, .inl ⟨rfl, ⟨hn, hI _ _ _ _ _ hi3 (Turns.putObj _ _ _ (.inr (.inr rfl))) (fun k hk => .inl hk), hl4, hk4⟩, hkk⟩⟩
      | ret =>
        obtain ⟨hk3, hi3⟩ := hp
        obtain ⟨hr, hl4, hk4, hkk⟩ := fin (some .ret) W3 hk3
        exact ⟨_, _, hr, .inr ⟨rfl, ⟨.ret, hn, (hIx _) _ _ _ _ _ hi3 (Turns.putObj _ _ _ (.inr (.inr rfl))) (fun k hk => .inl hk), hl4, hk4⟩, hkk⟩⟩
      | exit id =>
        obtain ⟨hk3, hi3⟩ := hp
        obtain ⟨hr, hl4, hk4, hkk⟩ := fin (some (.exit id)) W3 hk3
        exact ⟨_, _, hr, .inr ⟨rfl, ⟨.exit id, hn, (hIx _) _ _ _ _ _ hi3 (Turns.putObj _ _ _ (.inr (.inr rfl))) (fun k hk => .inl hk), hl4, hk4⟩, hkk⟩⟩
      | goto t =>
        obtain ⟨hk3, hi3⟩ := hp
        obtain ⟨hr, hl4, hk4, hkk⟩ := fin (some (.goto t)) W3 hk3
        exact ⟨_, _, hr, .inr ⟨rfl, ⟨.goto t, hn, (hIx _) _ _ _ _ _ hi3 (Turns.putObj _ _ _ (.inr (.inr rfl))) (fun k hk => .inl hk), hl4, hk4⟩, hkk⟩⟩
      | panic ch => exact hp.elim
      | outgrown => exact hp.elim
    ·
      rintro e W2 ⟨⟨v, rfl⟩, (⟨xs, O, hOO, hS, hn, hi, hl, hk⟩ | ⟨pre, O, hOO, hSp, c, hn, hi, hl, hk⟩)⟩
      · exact ⟨none, _, by have := run_endLoop (P := P) hl (by rw [hrec]; simp); rw [hrec] at this; exact this, hdone O xs _ hOO hS (hI _ _ _ _ _ hi (Turns.putObj _ _ _ (.inr (.inr rfl))) (fun k hk => .inl hk)) ((World.putObj_heap_other (by omega)).trans hk)⟩
      · exact ⟨some c, _, by have := run_endLoop (P := P) hl (by rw [hrec]; simp); rw [hrec] at this; exact this, hstop O c pre _ hOO hSp (hIx c _ _ _ _ _ hi (Turns.putObj _ _ _ (.inr (.inr rfl))) (fun k hk => .inl hk)) ((World.putObj_heap_other (by omega)).trans hk)⟩
theorem leaves_collected {fn : Func} {tmps : Array Value} {R : Ending → World → Prop} {O : Nat → Prop} (n : Nat) : ∀ (Ds : List Nat) (W : World), (∀ D ∈ Ds, O D ∧ W.heap[D]? = some (.deferred (some []))) → Ds.Nodup →
    (∀ W', Turns O W W' → ∃ v, (results fn tmps).run P W' = .ok v W' ∧ R (.returned v) W') → LeavesInM Fence.wide n P fn tmps R (Ds.map fun D => { target := .collected D, args := #[] }) .returning W := by
  intro Ds
  induction Ds with
  | nil => intro W _ _ h; exact h W (Turns.refl _ _)
  | cons D Ds ih =>
    intro W hD hn h
    obtain ⟨hO, hd⟩ := hD D List.mem_cons_self
    refine ⟨by simp, .inl ⟨D, _, rfl, run_takeDeferred hd, ih _ (fun E hE => ?_) (List.nodup_cons.1 hn).2 (fun W' ht => h W' ((Turns.putObj W D _ hO).trans' ht))⟩⟩
    obtain ⟨hE1, hE2⟩ := hD E (List.mem_cons_of_mem _ hE)
    exact ⟨hE1, (World.putObj_heap_other (fun e => (List.nodup_cons.1 hn).1 (by subst e; exact hE))).trans hE2⟩
theorem wp_calm {c : Code} {K : Act → World → Prop} {Q : Exit → Act → World → Prop} {a : Act} {w : World} (h : c.wp P (Exit.then K (fun _ _ _ => False)) a w) : c.wp P (Exit.then K Q) a w := wp_mono h (fun e a w q => by cases e <;> first | exact q | exact q.elim)
theorem step_append_grows {W : World} {ops : Array Oper} {o : Oper} {a : Act} {Q : Exit → Act → World → Prop} {K : Act → World → Prop} (hw : Region.wanted o (yielded ops a.tmps) = true) (s x : Operand) (t e : TypeId) (z : Value) (size bytes : Nat)
    (ho : o.op = .call { callee := .builtin .append, args := #[s, x], argTypes := #[t, t] })
    (ht : P.underlying t = some (.slice e)) (hinfo : (P.info? e).map (fun i => (i.zero, i.size, i.bytes)) = some (some z, size, bytes)) (hz : z.cells.size = size) (hs0 : 0 < size)
    (ao : Option Addr) (n : Nat) (olds ys : List Value) (hs : a.eval s = .slice ao n n) (hnone : ao = none → n = 0) (hlo : olds.length = n * size) (holds : ∀ b, ao = some b → ∀ j u, olds[j]? = some u → W.cell? (b.add j) = some u)
    (g : Addr) (hx : a.eval x = .slice (some g) 1 1) (hys : ys.length = size) (hnews : ∀ j u, ys[j]? = some u → W.cell? (g.add j) = some u) (h1 : ∀ u ∈ ys, u.oneCell' = true) (hl : (n + 1) * bytes ≤ 140737488355328) (hn : n + 1 ≤ maxLen)
    (h : ∀ v1 w1, w1.ownsRow W.heap.size e size v1 (n + 1) (olds ++ ys) → Below W.heap.size W w1 → K (a.put o.dst v1) w1) :
    if Region.wanted o (yielded ops a.tmps) = true then Oper.wp P o a W K Q else K (a.put o.dst undef) W := by
  obtain ⟨i0, hi, hzz⟩ := Option.map_eq_some_iff.1 hinfo
  simp only [Prod.mk.injEq] at hzz
  obtain ⟨hz0, hz1, hz2⟩ := hzz
  rw [if_pos hw]
  have key : ∃ v' w', (Builtin.append_ #[t, t] o.type #[.slice ao n n, .slice (some g) 1 1]).run P W = .ok v' w' ∧ w'.ownsRow W.heap.size e size v' (n + 1) (olds ++ ys) ∧ W.grownBy w' none := by
    cases ao with
    | some b => exact run_append_arg_grows (P := P) W t o.type e i0 z size bytes ht hi hz0 hz1 hz2 hz hs0 b n n olds hlo (holds b rfl) g 1 1 ys (by rw [hys]; simp) hnews (by omega) hn hl
    | none =>
      obtain rfl := hnone rfl
      obtain rfl : olds = [] := List.eq_nil_of_length_eq_zero (by simpa using hlo)
      obtain ⟨v', w', hrun, r1, r2, _⟩ := run_append_own (P := P) W W.heap.size t o.type e i0 z size bytes ht hi hz0 hz1 hz2 hz hs0 (.slice none 0 0) 0 [] (World.ownsRow_nil W _ e size) g 1 1 ys (by rw [hys]; simp) hnews h1 hn hl (Nat.le_refl _)
      exact ⟨v', w', hrun, r1, r2⟩
  obtain ⟨v', w', hrun, r1, r2⟩ := key
  unfold Oper.wp execOp
  simp only [ho, resolve, invoke, builtin, Sem.run_bind, Sem.run_pure, Result.andThen_ok, List.map_toArray, List.map_cons, List.map_nil, hs, hx, hrun]
  exact h v' w' r1 ((Below.refl _ W).grown r2 (Nat.le_refl _) (fun k e => by cases e))
end
end Go.Proofs.YtjeepapdaciieaaGreat.X
namespace Go.Proofs.YtjeepapdaciieaaGreat.X
open Go.RowKit Go.Proofs.YtjeepapdaciieaaGreatW.PrintWords Go.Proofs.YtjeepapdaciieaaGreatW.PrintLast Go.Proofs.YtjeepapdaciieaaGreatW.PrintMore
section
section
variable {P : Program} {ops : Array Oper} {Q : Exit → Act → World → Prop} {S : World → Prop} {ds : List Nat} {l n : Nat}
theorem rowsIn_round {row : String} {args : Array Value} {w : World} {R : Value → World → Prop} (h : Rows P row args w R) (l n : Nat) : RowsIn (Fence.wide.inRound l) n P row args w R := by
  intro c cs _
  obtain ⟨v, w', r, s⟩ := h c cs
  exact ⟨v, w', r, by rw [fenced_inRound]; exact stepsIn_wide.2 s⟩
theorem oper_round {o : Oper} {a : Act} {w : World} {K : Act → World → Prop} (hnd : ∀ c, o.op ≠ .defer c) (h : o.wp P a w K Q) : o.wpIn (Fence.wide.inRound l) n P a w K Q := by
  unfold Oper.wp at h
  unfold Oper.wpIn
  refine ⟨fun _ _ => trivial, ?_⟩
  rw [Oper.semAt_plain _ _ _ hnd]
  generalize (execOp a.eval o).run P w = r at h ⊢
  cases r with
  | ok x w' =>
    cases x <;> simp only [Oper.upon, Oper.uponIn] at h ⊢ <;> first
      | exact h
      | exact ⟨fun hd => by simp [Fence.wide] at hd, CallsIn.inRound l (callsIn_wide.2 h)⟩
      | exact ⟨fun hd => by simp [Fence.wide] at hd, rowsIn_round h l _⟩
  | halt x w' => cases x <;> simp only [Oper.upon, Oper.uponIn] at h ⊢ <;> exact h
theorem wpOp_round (hq : ¬ LetsOut Q) (hnd : ∀ (i : Nat) o, ops[i]? = some o → ∀ c, o.op ≠ .defer c) {i : Nat} {a : Act} {w : World} {K K' : Act → World → Prop} (hK : ∀ a w, K a w → K' a w) (h : wpOp P ops Q i K a w) : wpOpIn (Fence.wide.inRound l) n P ops Q i K' a w := by
  unfold wpOp at h
  unfold wpOpIn
  cases ho : ops[i]? with
  | none => rw [ho] at h; exact hK _ _ h
  | some o =>
    rw [ho] at h
    dsimp only at h ⊢
    by_cases hw : Region.wanted o (yielded ops a.tmps) = true
    · rw [if_pos hw] at h ⊢
      rcases h with h | h
      · exact oper_round (hnd i o ho) (Oper.wp_mono hK h)
      · exact absurd h.2 hq
    · rw [if_neg hw] at h ⊢
      exact ⟨fun _ _ => trivial, hK _ _ h⟩
theorem wpAny_round (hq : ¬ LetsOut Q) (hnd : ∀ (i : Nat) o, ops[i]? = some o → ∀ c, o.op ≠ .defer c) {md : Region.Mode} : ∀ (fuel : Nat) (listed : Array Bool) (a : Act) (w : World), wpAny P md ops Q fuel listed a w → wpAnyIn (Fence.wide.inRound l) n P md ops Q fuel listed a w
  | 0, _, _, _, h => h
  | fuel + 1, _, _, _, h => ⟨h.1, fun i hi => wpOp_round hq hnd (fun a' w' h' => wpAny_round hq hnd fuel _ a' w' h') (h.2 i hi)⟩
def noDefer (ops : Array Oper) : Bool := ops.all fun o => match o.op with | .defer _ => false | _ => true
theorem noDefer_spec (h : noDefer ops = true) : ∀ (i : Nat) o, ops[i]? = some o → ∀ c, o.op ≠ .defer c := by
  intro i o ho c e
  have h1 := Array.all_eq_true.1 h i (Array.getElem?_eq_some_iff.1 ho).1
  have h2 := (Array.getElem?_eq_some_iff.1 ho).2
  rw [h2] at h1
  simp [e] at h1
theorem startR_ {id n m : Nat} {a : Act} {w : World} (l : Array Bool) (hm : P.follows .mixedOrders = true) (hn : ops.size = n) (hl : Array.replicate n false = l) (hnd : noDefer ops = true) (hS : S w.drew) {r : Nat} (hq : ¬ LetsOut Q)
    (h : S w.drew → wpAnyLast P .any ops Q S ds n l a w.drew) : (Code.region id ops true).wpIn (Fence.wide.inRound r) m P Q a w := by
  subst hn
  subst hl
  exact wpIn_region_any hm (wpAny_round hq (noDefer_spec hnd) _ _ _ _ (wpAny_of_last _ _ _ _ (h hS)))
end
theorem step_append_at {P : Program} {W : World} {ops : Array Oper} {o : Oper} {a : Act} {Q : Exit → Act → World → Prop} {K : Act → World → Prop} (base : Nat) (hw : Region.wanted o (yielded ops a.tmps) = true) (s x : Operand) (t e : TypeId) (z : Value) (size bytes : Nat)
    (ho : o.op = .call { callee := .builtin .append, args := #[s, x], argTypes := #[t, t] })
    (ht : P.underlying t = some (.slice e)) (hinfo : (P.info? e).map (fun i => (i.zero, i.size, i.bytes)) = some (some z, size, bytes)) (hz : z.cells.size = size) (hs0 : 0 < size)
    (v : Value) (n : Nat) (xs : List Value) (hs : a.eval s = v) (hown : W.ownsRow base e size v n xs)
    (g : Nat) (cs : List Value) (hx : a.eval x = .slice (some ⟨g, 0, none⟩) 1 1) (hcs : cs.length = size) (hg : W.heap[g]? = some (.cells cs.toArray e (0, 0))) (h1 : ∀ u ∈ cs, u.oneCell' = true) (hl : (n + 1) * bytes ≤ 140737488355328) (hn : n + 1 ≤ maxLen) (hbase : base ≤ W.heap.size)
    (h : ∀ v1 w1, w1.ownsRow base e size v1 (n + 1) (xs ++ cs) → W.grownBy w1 v.ownBlock → (v1.ownBlock = v.ownBlock ∨ v1.ownBlock = some W.heap.size) → K (a.put o.dst v1) w1) :
    if Region.wanted o (yielded ops a.tmps) = true then Oper.wp P o a W K Q else K (a.put o.dst undef) W := by
  obtain ⟨i0, hi, hzz⟩ := Option.map_eq_some_iff.1 hinfo
  simp only [Prod.mk.injEq] at hzz
  obtain ⟨hz0, hz1, hz2⟩ := hzz
  rw [if_pos hw]
  have hnews : ∀ j u, cs[j]? = some u → W.cell? ((⟨g, 0, none⟩ : Addr).add j) = some u := by
    intro j u hu
    rw [add_plain]
    simp [World.cell?, hg, hu]
  obtain ⟨v', w', hrun, r1, r2, _, r4⟩ := run_append_own_at (P := P) W base t o.type e i0 z size bytes ht hi hz0 hz1 hz2 hz hs0 v n xs hown ⟨g, 0, none⟩ 1 1 cs (by rw [hcs]; simp) hnews h1 hn hl hbase
  unfold Oper.wp execOp
  simp only [ho, resolve, invoke, builtin, Sem.run_bind, Sem.run_pure, Result.andThen_ok, List.map_toArray, List.map_cons, List.map_nil, hs, hx, hrun]
  exact h v' w' r1 r2 r4
structure Two (W w : World) (a b : Option Nat) : Prop where
  os : w.os = W.os
  tape : w.tape = W.tape
  output : w.output = W.output
  size : W.heap.size ≤ w.heap.size
  block : ∀ i, i < W.heap.size → some i ≠ a → some i ≠ b → w.heap[i]? = W.heap[i]?
theorem Two.refl (W : World) (a b : Option Nat) : Two W W a b := ⟨rfl, rfl, rfl, Nat.le_refl _, fun _ _ _ _ => rfl⟩
theorem Two.alloc {W w : World} {a b : Option Nat} (h : Two W w a b) (o : Obj) : Two W (w.alloc o) a b := ⟨h.os, h.tape, h.output, Nat.le_trans h.size (by simp), fun i hi h1 h2 => (Below.heap_alloc _ _ _ (Nat.lt_of_lt_of_le hi h.size)).trans (h.block i hi h1 h2)⟩
theorem Two.grown {W w w1 : World} {a b row : Option Nat} (h : Two W w a b) (hg : w.grownBy w1 row) (hr : row = a ∨ row = b) : Two W w1 a b :=
  ⟨hg.os.trans h.os, hg.tape.trans h.tape, hg.output.trans h.output, Nat.le_trans h.size hg.size, fun i hi h1 h2 => (hg.block i (Nat.lt_of_lt_of_le hi h.size) (by rcases hr with rfl | rfl <;> assumption)).trans (h.block i hi h1 h2)⟩
def Stage (W w : World) (base : Nat) (t : TypeId) (sz : Nat) (v : Value) (n : Nat) (xs cs : List Value) : Nat → Nat → Value → Prop
  | 0, _, _ => w.ownsRow base t sz v n xs
  | 1, g, _ => w.ownsRow base t sz v n xs ∧ W.heap.size ≤ g ∧ w.heap[g]? = some (.cells cs.toArray t (0, 0))
  | _, _, v' => w.ownsRow base t sz v' (n + 1) (xs ++ cs) ∧ (v'.ownBlock = v.ownBlock ∨ ∃ b, v'.ownBlock = some b ∧ W.heap.size ≤ b)
theorem Stage.grown {W w w1 : World} {base : Nat} {t t' : TypeId} {sz n : Nat} {v : Value} {xs cs : List Value} {st g : Nat} {v' : Value} {row : Option Nat} (h : Stage W w base t sz v n xs cs st g v') (hg : w.grownBy w1 row) (hr : ∀ k, row = some k → ∃ c, w.heap[k]? = some (.cells c t' (0, 0))) (ht : t ≠ t') : Stage W w1 base t sz v n xs cs st g v' := by
  have own : ∀ {u : Value} {m : Nat} {ys : List Value}, w.ownsRow base t sz u m ys → w1.ownsRow base t sz u m ys := by
    intro u m ys hu
    refine own_other hu hg ?_
    cases hb : u.ownBlock with
    | none => exact .inl rfl
    | some k =>
      refine .inr (fun e => ?_)
      obtain ⟨c, hc⟩ := own_typed hu k hb
      obtain ⟨c', hc'⟩ := hr k e.symm
      rw [hc] at hc'
      injection hc' with hc'
      injection hc' with _ h2
      exact ht h2
  match st, h with
  | 0, h => exact own h
  | 1, h =>
    refine ⟨own h.1, h.2.1, (hg.block g (Array.getElem?_eq_some_iff.1 h.2.2).1 (fun e => ?_)).trans h.2.2⟩
    obtain ⟨c', hc'⟩ := hr g e.symm
    rw [h.2.2] at hc'
    injection hc' with hc'
    injection hc' with _ h2
    exact ht h2
  | (k + 2), h => exact ⟨own h.1, h.2⟩
theorem Stage.alloc {W w : World} {base : Nat} {t : TypeId} {sz n : Nat} {v : Value} {xs cs : List Value} {st g : Nat} {v' : Value} (h : Stage W w base t sz v n xs cs st g v') (o : Obj) : Stage W (w.alloc o) base t sz v n xs cs st g v' := by
  match st, h with
  | 0, h => exact World.ownsRow.alloc h o
  | 1, h => exact ⟨h.1.alloc o, h.2.1, (Below.heap_alloc _ _ _ (Array.getElem?_eq_some_iff.1 h.2.2).1).trans h.2.2⟩
  | (k + 2), h => exact ⟨h.1.alloc o, h.2⟩
theorem Stage.built {W w : World} {base : Nat} {t : TypeId} {sz n : Nat} {v : Value} {xs cs : List Value} {g : Nat} {v' v'' : Value} (h : Stage W w base t sz v n xs cs 0 g v') (hW : W.heap.size ≤ w.heap.size) : Stage W (w.alloc (.cells cs.toArray t)) base t sz v n xs cs 1 w.heap.size v'' := ⟨World.ownsRow.alloc h _, hW, World.alloc_heap_new w _⟩
theorem Stage.appended {W w w1 : World} {base : Nat} {t : TypeId} {sz n : Nat} {v v1 : Value} {xs cs : List Value} {g : Nat} (hW : W.heap.size ≤ w.heap.size) (hown : w1.ownsRow base t sz v1 (n + 1) (xs ++ cs)) (hat : v1.ownBlock = v.ownBlock ∨ v1.ownBlock = some w.heap.size) : Stage W w1 base t sz v n xs cs 2 g v1 :=
  ⟨hown, hat.imp id (fun h => ⟨_, h, hW⟩)⟩
theorem step_append_stage {P : Program} {W w : World} {ops : Array Oper} {o : Oper} {a : Act} {Q : Exit → Act → World → Prop} {K : Act → World → Prop} (base : Nat) (hw : Region.wanted o (yielded ops a.tmps) = true) (s x : Operand) (t e : TypeId) (z : Value) (size bytes : Nat)
    (ho : o.op = .call { callee := .builtin .append, args := #[s, x], argTypes := #[t, t] })
    (ht : P.underlying t = some (.slice e)) (hinfo : (P.info? e).map (fun i => (i.zero, i.size, i.bytes)) = some (some z, size, bytes)) (hz : z.cells.size = size) (hs0 : 0 < size)
    (v : Value) (n : Nat) (xs cs : List Value) (g : Nat) (v' : Value) (h : Stage W w base e size v n xs cs 1 g v') (hs : a.eval s = v) (hx : a.eval x = .slice (some ⟨g, 0, none⟩) 1 1) (hcs : cs.length = size) (h1 : ∀ u ∈ cs, u.oneCell' = true) (hl : (n + 1) * bytes ≤ 140737488355328) (hn : n + 1 ≤ maxLen) (hbase : base ≤ W.heap.size) (hW : W.heap.size ≤ w.heap.size)
    (hk : ∀ v1 w1, Stage W w1 base e size v n xs cs 2 0 v1 → w.grownBy w1 v.ownBlock → (∀ k, v.ownBlock = some k → ∃ c, w.heap[k]? = some (.cells c e (0, 0))) → K (a.put o.dst v1) w1) :
    if Region.wanted o (yielded ops a.tmps) = true then Oper.wp P o a w K Q else K (a.put o.dst undef) w :=
  step_append_at base hw s x t e z size bytes ho ht hinfo hz hs0 v n xs hs h.1 g cs hx hcs h.2.2 h1 hl hn (Nat.le_trans hbase hW) (fun v1 w1 ho hg hat => hk v1 w1 (Stage.appended hW ho hat) hg (fun k hk => own_typed h.1 k hk))
theorem cells_set {w : World} {g : Nat} {cs : Array Value} {t : TypeId} (h : w.heap[g]? = some (.cells cs t (0, 0))) (i : Nat) (v : Value) : (w.setCell ⟨g, i, none⟩ v).heap[g]? = some (.cells (cs.setIfInBounds i v) t (0, 0)) := by
  rw [setCell_eq_setRow w g i cs t (0, 0) v h]
  exact setRow_heap w g cs _ t (0, 0) h
theorem cells_at {w : World} {g : Nat} {cs : Array Value} {t : TypeId} {i : Nat} {v : Value} (h : w.heap[g]? = some (.cells cs t (0, 0))) (hv : cs[i]? = some v) : w.cell? ⟨g, i, none⟩ = some v := by simp [World.cell?, h, hv]
theorem cells_frozen {w : World} {g : Nat} {cs : Array Value} {t : TypeId} (h : w.heap[g]? = some (.cells cs t (0, 0))) (i : Nat) : w.frozen? ⟨g, i, none⟩ = false := by simp [World.frozen?, h]
theorem blk_lt' {w : World} {g : Nat} {o : Obj} (h : w.heap[g]? = some o) : g < w.heap.size := (Array.getElem?_eq_some_iff.1 h).1
theorem blk_below' {w w1 : World} {g : Nat} {o : Obj} (h : w.heap[g]? = some o) (hb : Below w.heap.size w w1) : w1.heap[g]? = some o := (hb.block g (blk_lt' h)).trans h
theorem blk_alloc' {w : World} {g : Nat} {o : Obj} (h : w.heap[g]? = some o) (o' : Obj) : (w.alloc o').heap[g]? = some o := (Below.heap_alloc _ _ _ (blk_lt' h)).trans h
theorem blk_far {w : World} {g : Nat} {o : Obj} (h : w.heap[g]? = some o) {a : Addr} (hne : g ≠ a.block) (v : Value) : (w.setCell a v).heap[g]? = some o := (Below.heap_setCell _ _ _ _ hne).trans h
theorem grownBy_setCell (w : World) (a : Addr) (v : Value) : w.grownBy (w.setCell a v) (some a.block) := ⟨rfl, rfl, rfl, by simp [World.setCell], fun i _ hi => Below.heap_setCell w a v i (fun e => hi (by rw [e]))⟩
theorem grownBy_of_below {w w1 : World} (h : Below w.heap.size w w1) (row : Option Nat) : w.grownBy w1 row := ⟨h.os, h.tape, h.output, h.size, fun i hi _ => h.block i hi⟩
theorem grownBy_trans {a b c : World} {row : Option Nat} (h : a.grownBy b row) (k : b.grownBy c row) : a.grownBy c row := ⟨k.os.trans h.os, k.tape.trans h.tape, k.output.trans h.output, Nat.le_trans h.size k.size, fun i hi hn => (k.block i (Nat.lt_of_lt_of_le hi h.size) hn).trans (h.block i hi hn)⟩
end
section
def Num (W : World) (v : Value) (l : List Int) : Prop := ∃ A c, v = .slice A l.length c ∧ l.length ≤ c ∧ Kd.C (Kd.int .u64) W A l.length l
theorem Num.mk {w : World} {A : Option Addr} {c : Nat} {l : List Int} (h : Kd.C (Kd.int .u64) w A l.length l) (hc : l.length ≤ c) : Num w (.slice A l.length c) l := ⟨A, c, rfl, hc, h⟩
abbrev Since (w W : World) : Prop := Below w.heap.size w W
theorem Since.refl (w : World) : Since w w := Below.refl _ _
theorem Since.trans {a b c : World} (h : Since a b) (k : Since b c) : Since a c := Below.trans h (k.mono h.size)
theorem Since.drew {a b : World} (h : Since a b) : Since a b.drew := Below.drew h
theorem Since.alloc {a b : World} (h : Since a b) (o : Obj) : Since a (b.alloc o) := below_alloc h o
theorem Num.since {w W : World} {v : Value} {l : List Int} (h : Num w v l) (k : Since w W) : Num W v l := by
  obtain ⟨A, c, h1, h2, h3⟩ := h
  exact ⟨A, c, h1, h2, Kd.C_below h3 k⟩
def Box (W : World) (b : Nat) (cs : Array Value) (t : TypeId) : Prop := W.heap[b]? = some (.cells cs t (0, 0))
theorem Box.since {w W : World} {b : Nat} {cs : Array Value} {t : TypeId} (h : Box w b cs t) (k : Since w W) : Box W b cs t := blk_below' h k
theorem Box.cell {w : World} {b : Nat} {cs : Array Value} {t : TypeId} (h : Box w b cs t) {i : Nat} {v : Value} (hv : cs[i]? = some v) : w.cell? ⟨b, i, none⟩ = some v := cells_at h hv
theorem Box.new (w : World) (cs : Array Value) (t : TypeId) : Box (w.alloc (.cells cs t)) w.heap.size cs t := heap_alloc_new w _
def New {α : Type} (d : Kd α) (e n : Nat) (W : World) (v : Value) (xs : List α) : Prop := ∃ p : Nat → Prop, Kd.V d e W n p v xs ∧ ∀ i, p i → n ≤ i ∧ i < W.heap.size ∧ ∃ q, q ∈ e :: d.E ∧ ∃ cells, W.heap[i]? = some (.cells cells q (0, 0))
section
variable {α : Type} {d : Kd α} {e n m : Nat} {w W : World} {v : Value} {xs : List α} {ok : Nat → Prop}
theorem New.of_R (h : Kd.R d e W m ok v xs) (hm : n ≤ m) : New d e n W v xs := ⟨_, Kd.R_V (Kd.R_bound h), fun _ hk => ⟨Nat.le_trans hm hk.2.1, hk.2.2.1, hk.2.2.2⟩⟩
theorem New.since (h : New d e n w v xs) (k : Since w W) : New d e n W v xs := by
  obtain ⟨p, hv, hp⟩ := h
  exact ⟨p, Kd.V_below hv k, fun i hi => ⟨(hp i hi).1, Nat.lt_of_lt_of_le (hp i hi).2.1 k.size, by obtain ⟨q, hq, cells, hc⟩ := (hp i hi).2.2; exact ⟨q, hq, cells, (k.block i (hp i hi).2.1).trans hc⟩⟩⟩
theorem New.set {b i : Nat} {cs : Array Value} {t : TypeId} (h : New d e n w v xs) (hb : Box w b cs t) (ht : t ∉ e :: d.E) (u : Value) : New d e n (w.setCell ⟨b, i, none⟩ u) v xs := by
  obtain ⟨p, hv, hp⟩ := h
  have hne : ∀ k, p k → k ≠ b := fun k hk ek => by
    subst ek
    obtain ⟨_, _, q, hq, cells, hc⟩ := hp k hk
    unfold Box at hb
    rw [hc] at hb
    injection hb with hb
    injection hb with h1 h2 h3
    exact ht (h2 ▸ hq)
  exact ⟨p, Kd.V_far hv (p := ⟨b, i, none⟩) hne u, fun k hk => ⟨(hp k hk).1, by simpa [World.setCell] using (hp k hk).2.1, by obtain ⟨q, hq, cells, hc⟩ := (hp k hk).2.2; exact ⟨q, hq, cells, (Below.heap_setCell w ⟨b, i, none⟩ u k (hne k hk)).trans hc⟩⟩⟩
theorem New.V (h : New d e n w v xs) : Kd.V d e w n (fun k => n ≤ k) v xs := by
  obtain ⟨p, hv, hp⟩ := h
  exact Kd.V_mono hv fun k hk => (hp k hk).1
end
theorem New.slice {α : Type} {d : Kd α} {e n : Nat} {w : World} {v : Value} {xs : List α} (h : New d e n w v xs) : ∃ A c, v = .slice A xs.length c := by
  obtain ⟨p, hv, _⟩ := h
  exact Kd.V_slice hv
abbrev NewN (n : Nat) (W : World) (v : Value) (l : List Int) : Prop := New (Kd.int .u64) 112 n W v l
theorem NewN.num {n : Nat} {W : World} {v : Value} {l : List Int} (h : NewN n W v l) : Num W v l := by
  obtain ⟨A, c, h1, h2, h3⟩ := h.V
  exact ⟨A, c, h1, h2, Kd.F_now h3⟩
theorem Box.set {w : World} {b : Nat} {cs : Array Value} {t : TypeId} (h : Box w b cs t) (i : Nat) (u : Value) : Box (w.setCell ⟨b, i, none⟩ u) b (cs.setIfInBounds i u) t := cells_set h i u
theorem Box.far {w : World} {b c i : Nat} {cs : Array Value} {t : TypeId} (h : Box w b cs t) (hne : b ≠ c) (u : Value) : Box (w.setCell ⟨c, i, none⟩ u) b cs t := blk_far (a := ⟨c, i, none⟩) h hne u
theorem Box.lt {w : World} {b : Nat} {cs : Array Value} {t : TypeId} (h : Box w b cs t) : b < w.heap.size := blk_lt' h
theorem Box.frozen {w : World} {b : Nat} {cs : Array Value} {t : TypeId} (h : Box w b cs t) (i : Nat) : w.frozen? ⟨b, i, none⟩ = false := cells_frozen h i
theorem Box.c2 {w : World} {b : Nat} {x y : Value} {t : TypeId} (h : Box w b #[x, y] t) : w.cell? ⟨b, 0, none⟩ = some x ∧ w.cell? ⟨b, 1, none⟩ = some y := ⟨h.cell rfl, h.cell rfl⟩
theorem Box.c3 {w : World} {b : Nat} {x y z : Value} {t : TypeId} (h : Box w b #[x, y, z] t) : w.cell? ⟨b, 0, none⟩ = some x ∧ w.cell? ⟨b, 1, none⟩ = some y ∧ w.cell? ⟨b, 2, none⟩ = some z := ⟨h.cell rfl, h.cell rfl, h.cell rfl⟩
end
section
namespace Reg
inductive Sp
  | is (v : Value)
  | num (l : List Int)
  | of (p : Value → World → Prop) (h : ∀ v W W', p v W → Since W W' → p v W')
def Sp.ok : Sp → Value → World → Prop
  | .is v, x, _ => x = v
  | .num l, x, W => Num W x l
  | .of p _, x, W => p x W
theorem Sp.since {s : Sp} {v : Value} {W W' : World} (h : s.ok v W) (k : Since W W') : s.ok v W' := by
  cases s with
  | is u => exact h
  | num l => exact Num.since h k
  | of p hp => exact hp v W W' h k
structure Row where
  d : Nat
  u : List Nat
  s : Sp
section
variable {P : Program} {ops : Array Oper} {Q : Exit → Act → World → Prop}
def Gives (P : Program) (o : Oper) (ev : Operand → Value) (w : World) (s : Sp) : Prop :=
  (∃ v w', (execOp ev o).run P w = .ok (.value v) w' ∧ Since w w' ∧ s.ok v w') ∨
  (∃ f args, (execOp ev o).run P w = .ok (.enter f args) w ∧ Calls P f args w fun e w' => ∃ v, e = .returned v ∧ Since w w' ∧ s.ok v w')
theorem Gives.call {o : Oper} {ev : Operand → Value} {w : World} {s : Sp} {f : FuncId} {fn : Func} {os_ : Array Operand} {ts : Array TypeId} (hop : o.op = .call { callee := .value (.func f), args := os_, argTypes := ts }) (hf : P.funcs[f]? = some fn) (args : Array Value) (hargs : os_.map ev = args)
    (h : Calls P f args w fun e w' => ∃ v, e = .returned v ∧ Since w w' ∧ s.ok v w') (hfv : ev (.func f) = .func (.func f) #[] #[] := by rfl) (hname : (fn.name == "runtime.NumGoroutine") = false := by kernel_rfl) (hb : fn.body.isSome = true := by rfl) : Gives P o ev w s := by
  refine .inr ⟨f, args, ?_, h⟩
  have he := enters_ hf hname hb args w
  unfold execOp
  simp [hop, resolve, Deferred.ofValue, invoke, hfv, hargs, he]
theorem Gives.callv {o : Oper} {ev : Operand → Value} {w : World} {s : Sp} {x : Operand} {f : FuncId} {fn : Func} {os_ : Array Operand} {ts : Array TypeId} (hop : o.op = .call { callee := .value x, args := os_, argTypes := ts }) (hx : ev x = .func (.func f) #[] #[]) (hf : P.funcs[f]? = some fn) (args : Array Value) (hargs : os_.map ev = args)
    (h : Calls P f args w fun e w' => ∃ v, e = .returned v ∧ Since w w' ∧ s.ok v w') (hname : (fn.name == "runtime.NumGoroutine") = false := by kernel_rfl) (hb : fn.body.isSome = true := by rfl) : Gives P o ev w s := by
  refine .inr ⟨f, args, ?_, h⟩
  have he := enters_ hf hname hb args w
  unfold execOp
  simp [hop, resolve, Deferred.ofValue, invoke, hx, hargs, he]
def Uses (rows : List Row) (a : Act) (w : World) : List Nat → Prop
  | [] => True
  | j :: r => (match rows[j]? with | some x => x.s.ok (a.eval (.tmp x.d)) w | none => True) ∧ Uses rows a w r
def Keeps (rows : List Row) (a0 a : Act) : Prop := ∀ t, rows.all (fun r => r.d != t) = true → a.eval (.tmp t) = a0.eval (.tmp t)
def Steps (P : Program) (all : List Row) (a0 : Act) (w0 : World) : List Oper → List Row → Prop
  | o :: os, r :: rs => (∀ a w, Since w0 w → Keeps all a0 a → Uses all a w r.u → Gives P o a.eval w r.s) ∧ Steps P all a0 w0 os rs
  | _, _ => True
def Done (w : World) (K : Array Value → Prop) : List Row → Array Value → Prop
  | [], T => K T
  | x :: r, T => match x.s with
    | .is v => Done w K r (T.setIfInBounds x.d v)
    | .num l => ∀ v, Num w v l → Done w K r (T.setIfInBounds x.d v)
    | .of p _ => ∀ v, p v w → Done w K r (T.setIfInBounds x.d v)
def Tail (P : Program) (Q : Exit → Act → World → Prop) : List Oper → Act → World → Prop
  | [], a, w => Q .normal a w
  | o :: r, a, w => Oper.wp P o a w (fun a' w' => Tail P Q r a' w') Q
def needs (o : Oper) : List Nat := needsOf .any o
def good (ops : List Oper) (rows : List Row) (size : Nat) : Bool :=
  decide (rows.length ≤ ops.length) && (ops.zipIdx.all fun x => (needs x.1).all (fun j => decide (j < x.2)) && x.1.guard.isNone) &&
  ((ops.zip rows).all fun x => x.2.u.all (fun j => (needs x.1).contains j) && (x.1.dst == some x.2.d) && decide (x.2.d < size)) &&
  ((List.range ops.length).all fun k => decide (k < rows.length) || (List.range k).all fun j => (ops.zipIdx.any fun x => decide (j < x.2) && decide (x.2 ≤ k) && (needs x.1).contains j)) &&
  decide ((rows.map (·.d)).Nodup)
theorem ok_of {s : Sp} {v : Value} {w : World} {K : Array Value → Prop} {d : Nat} {u : List Nat} {r : List Row} {T : Array Value} (h : Done w K (⟨d, u, s⟩ :: r) T) (hv : s.ok v w) : Done w K r (T.setIfInBounds d v) := by
  cases s with
  | is x =>
    have e : v = x := hv
    subst e
    exact h
  | num l => exact h v hv
  | of p hp => exact h v hv
theorem done_all {w : World} {K : Array Value → Prop} : ∀ {rows : List Row} {T T' : Array Value}, Done w K rows T → T'.size = T.size → (rows.map (·.d)).Nodup → (∀ r ∈ rows, r.d < T.size) → (∀ r ∈ rows, r.s.ok (T'.getD r.d undef) w) →
    (∀ t, t < T.size → rows.all (fun r => r.d != t) = true → T'.getD t undef = T.getD t undef) → K T'
  | [], T, T', h, hs, _, _, _, hk => by
    have : T' = T := by
      apply Array.ext hs
      intro i h1 h2
      have := hk i h2 rfl
      simpa [Array.getD_eq_getD_getElem?, h1, h2] using this
    subst this
    exact h
  | ⟨d, u, s⟩ :: r, T, T', h, hs, hn, hlt, hok, hk => by
    have hd := hlt _ List.mem_cons_self
    simp only at hd
    rw [List.map_cons, List.nodup_cons] at hn
    have h1 := ok_of h (hok _ List.mem_cons_self)
    refine done_all h1 (by simpa using hs) hn.2 (fun x hx => by simpa using hlt x (List.mem_cons_of_mem _ hx)) (fun x hx => hok x (List.mem_cons_of_mem _ hx)) (fun t ht hall => ?_)
    rw [Array.size_setIfInBounds] at ht
    by_cases e : d = t
    · subst e
      simp [Array.getD_eq_getD_getElem?, hd]
    · have : T'.getD t undef = T.getD t undef := hk t ht (by rw [List.all_cons, hall, Bool.and_true]; simpa using e)
      rw [this]
      simp only [Array.getD_eq_getD_getElem?]
      rw [Array.getElem?_setIfInBounds_ne e]
theorem len_off {p : Nat → Bool} {i : Nat} : ∀ {l : List Nat}, l.Nodup → i ∈ l → p i = true → (l.filter p).length = (l.filter fun j => p j && !(j == i)).length + 1
  | j :: l, hn, hi, hp => by
    obtain ⟨h1, h2⟩ := List.nodup_cons.1 hn
    by_cases e : j = i
    · subst e
      have h3 : (l.filter fun k => p k && !(k == j)) = l.filter p := List.filter_congr fun k hk => by
        have : k ≠ j := fun e => h1 (e ▸ hk)
        simp [this]
      rw [List.filter_cons_of_pos hp, List.filter_cons_of_neg (by simp), h3, List.length_cons]
    · have h4 := len_off (p := p) h2 ((List.mem_cons.1 hi).resolve_left (fun h => e h.symm)) hp
      by_cases hj : p j = true
      · rw [List.filter_cons_of_pos hj, List.filter_cons_of_pos (by simp [hj, e]), List.length_cons, List.length_cons, h4]
      · rw [List.filter_cons_of_neg hj, List.filter_cons_of_neg (by simp [hj]), h4]
def left (n : Nat) (l : Array Bool) : Nat := ((List.range n).filter fun j => !l.getD j false).length
theorem left_set {n i : Nat} {l : Array Bool} (hl : l.size = n) (hi : i < n) (hu : l.getD i false = false) : left n l = left n (l.setIfInBounds i true) + 1 := by
  unfold left
  rw [len_off List.nodup_range (List.mem_range.2 hi) (by simp [hu])]
  congr 2
  apply List.filter_congr
  intro j hj
  by_cases e : i = j
  · subst e
    simp [Array.getD_eq_getD_getElem?, hl, hi]
  · rw [getD_set_ne false e]
    have : (j == i) = false := by simpa using fun h => e h.symm
    simp [this]
structure Inv (ops : Array Oper) (rows : List Row) (a0 : Act) (w0 : World) (l : Array Bool) (a : Act) (w : World) : Prop where
  size : l.size = ops.size
  since : Since w0 w
  defers : a.defers = a0.defers
  tsize : a.tmps.size = a0.tmps.size
  closed : ∀ (i : Nat) (o : Oper), ops[i]? = some o → l.getD i false = true → ∀ j ∈ needs o, l.getD j false = true
  behind : ∀ i, rows.length ≤ i → l.getD i false = false
  told : ∀ (i : Nat) (r : Row), rows[i]? = some r → l.getD i false = true → r.s.ok (a.tmps.getD r.d undef) w
  rest : ∀ t, (∀ (i : Nat) (r : Row), rows[i]? = some r → l.getD i false = true → r.d ≠ t) → a.tmps.getD t undef = a0.tmps.getD t undef
structure Good (ops : Array Oper) (rows : List Row) (size : Nat) : Prop where
  len : rows.length ≤ ops.size
  back : ∀ (i : Nat) (o : Oper), ops[i]? = some o → (∀ j ∈ needs o, j < i) ∧ o.guard = none
  slot : ∀ (i : Nat) (o : Oper) (r : Row), ops[i]? = some o → rows[i]? = some r → (∀ j ∈ r.u, j ∈ needs o) ∧ o.dst = some r.d ∧ r.d < size
  cover : ∀ k, rows.length ≤ k → k < ops.size → ∀ j, j < k → ∃ (i : Nat) (o : Oper), ops[i]? = some o ∧ j < i ∧ i ≤ k ∧ j ∈ needs o
  nodup : (rows.map (·.d)).Nodup
theorem good_of {rows : List Row} {size : Nat} (h : good ops.toList rows size = true) : Good ops rows size := by
  unfold good at h
  simp only [Bool.and_eq_true, decide_eq_true_eq, List.all_eq_true, List.any_eq_true, Bool.or_eq_true, beq_iff_eq] at h
  obtain ⟨⟨⟨⟨h1, h2⟩, h3⟩, h4⟩, h5⟩ := h
  have hz : ∀ (i : Nat) (o : Oper), ops[i]? = some o → (o, i) ∈ ops.toList.zipIdx := fun i o ho => by
    rw [List.mem_zipIdx_iff_getElem?]
    simpa using ho
  refine ⟨by simpa using h1, fun i o ho => ?_, fun i o r ho hr => ?_, fun k hk hn j hj => ?_, h5⟩
  · have := h2 _ (hz i o ho)
    exact ⟨this.1, by simpa using this.2⟩
  · have hm : (o, r) ∈ ops.toList.zip rows := by
      rw [List.mem_iff_getElem?]
      refine ⟨i, ?_⟩
      rw [List.getElem?_zip_eq_some]
      exact ⟨by simpa using ho, hr⟩
    have := h3 _ hm
    exact ⟨fun j hj => by simpa using this.1.1 j hj, this.1.2, this.2⟩
  · have h6 := (h4 k (List.mem_range.2 (by simpa using hn))).resolve_left (by omega) j (List.mem_range.2 hj)
    obtain ⟨⟨o, i⟩, hx, h7⟩ := h6
    have := List.mem_zipIdx_iff_getElem?.1 hx
    exact ⟨i, o, by simpa using this, h7.1.1, h7.1.2, by simpa using h7.2⟩
theorem ready_iff {l : Array Bool} (hs : l.size = ops.size) {i : Nat} : i ∈ Region.ready .any ops l ↔ l.getD i false = false ∧ ∃ o, ops[i]? = some o ∧ ∀ j ∈ needs o, l.getD j false = true := by
  rw [mem_ready]
  constructor
  · rintro ⟨h1, o, ho, h2⟩
    have hi := (Array.getElem?_eq_some_iff.1 ho).1
    refine ⟨by simpa [Array.getD_eq_getD_getElem?, hs, hi] using h1, o, ho, fun j hj => ?_⟩
    unfold needs needsOf at hj
    obtain ⟨e, he, rfl⟩ := List.mem_map.1 hj
    have h3 := List.mem_filter.1 he
    exact h2 e (by simpa using h3.1) h3.2
  · rintro ⟨h1, o, ho, h2⟩
    have hi := (Array.getElem?_eq_some_iff.1 ho).1
    refine ⟨by simpa [Array.getD_eq_getD_getElem?, hs, hi] using h1, o, ho, fun e he hb => h2 _ ?_⟩
    unfold needs needsOf
    exact List.mem_map.2 ⟨e, List.mem_filter.2 ⟨by simpa using he, hb⟩, rfl⟩
theorem covered {rows : List Row} {size : Nat} (g : Good ops rows size) {l : Array Bool} (hc : ∀ (i : Nat) (o : Oper), ops[i]? = some o → l.getD i false = true → ∀ j ∈ needs o, l.getD j false = true)
    {k : Nat} {ok : Oper} (hk : rows.length ≤ k) (ho : ops[k]? = some ok) (hr : ∀ j ∈ needs ok, l.getD j false = true) : ∀ (d j : Nat), j + d = k → 0 < d → l.getD j false = true := by
  have hkn := (Array.getElem?_eq_some_iff.1 ho).1
  intro d
  induction d using Nat.strongRecOn with
  | ind d ih =>
    intro j hj hd
    obtain ⟨i, o, hio, h1, h2, h3⟩ := g.cover k hk hkn j (by omega)
    by_cases e : i = k
    · subst e
      have : o = ok := Option.some.inj (hio.symm.trans ho)
      exact hr j (this ▸ h3)
    · exact hc i o hio (ih (k - i) (by omega) i (by omega) (by omega)) j h3
theorem wpOp_of {i : Nat} {o : Oper} {a : Act} {w : World} {K : Act → World → Prop} (ho : ops[i]? = some o) (hg : o.guard = none) (h : Oper.wp P o a w K Q) : wpOp P ops Q i K a w := by
  unfold wpOp
  rw [ho]
  have : Region.wanted o (yielded ops a.tmps) = true := by unfold Region.wanted; rw [hg]
  simp only [this, if_true]
  exact .inl h
theorem tail_ends {rows : List Row} {size : Nat} (g : Good ops rows size) : ∀ (d k : Nat) (l : Array Bool) (a : Act) (w : World), k + d = ops.size → rows.length ≤ k → l.size = ops.size → (∀ j, j < ops.size → l.getD j false = decide (j < k)) → Tail P Q (ops.toList.drop k) a w → wpAny P .any ops Q d l a w
  | 0, k, l, a, w, hd, hk, hs, hl, h => by
    have hr : Region.ready .any ops l = [] := by
      rw [List.eq_nil_iff_forall_not_mem]
      intro i hi
      obtain ⟨h1, o, ho, _⟩ := (ready_iff hs).1 hi
      have hin := (Array.getElem?_eq_some_iff.1 ho).1
      rw [hl i hin, decide_eq_false_iff_not] at h1
      omega
    rw [List.drop_of_length_le (by simp; omega)] at h
    exact ⟨hr, h⟩
  | d + 1, k, l, a, w, hd, hk, hs, hl, h => by
    have hkn : k < ops.size := by omega
    have hok : ops[k]? = some ops[k] := Array.getElem?_eq_getElem hkn
    have hkl : k < ops.toList.length := by simpa using hkn
    rw [List.drop_eq_getElem_cons hkl] at h
    have hkr : k ∈ Region.ready .any ops l := (ready_iff hs).2 ⟨by rw [hl k hkn]; simp, _, hok, fun j hj => by
      have := (g.back k _ hok).1 j hj
      rw [hl j (by omega)]
      simpa using this⟩
    refine ⟨fun h0 => (by rw [h0] at hkr; cases hkr), fun i hi => ?_⟩
    obtain ⟨h1, o, ho, h2⟩ := (ready_iff hs).1 hi
    have hin := (Array.getElem?_eq_some_iff.1 ho).1
    rw [hl i hin, decide_eq_false_iff_not] at h1
    have hik : i = k := by
      by_cases e : i = k
      · exact e
      · have := covered g (l := l) (fun i' o' ho' hl' j hj => by
          have h3 := (Array.getElem?_eq_some_iff.1 ho').1
          have h4 := (g.back i' o' ho').1 j hj
          rw [hl i' h3, decide_eq_true_eq] at hl'
          rw [hl j (by omega), decide_eq_true_eq]
          omega) (by omega) ho h2 (i - k) k (by omega) (by omega)
        rw [hl k hkn, decide_eq_true_eq] at this
        omega
    subst hik
    have hoo : o = ops[i] := Option.some.inj (ho.symm.trans hok)
    subst hoo
    refine wpOp_of ho (g.back i _ ho).2 (Oper.wp_mono (fun a' w' h' => ?_) h)
    refine tail_ends g d (i + 1) _ a' w' (by omega) (by omega) (by simpa using hs) (fun j hj => ?_) h'
    by_cases e : i = j
    · subst e
      simp [Array.getD_eq_getD_getElem?, hs, hj]
    · rw [getD_set_ne false e, hl j hj]
      by_cases h5 : j < i
      · rw [decide_eq_true h5, decide_eq_true (by omega)]
      · rw [decide_eq_false h5, decide_eq_false (by omega)]
theorem steps_at {all : List Row} {a0 : Act} {w0 : World} : ∀ {os : List Oper} {rs : List Row} {i : Nat} {o : Oper} {r : Row}, Steps P all a0 w0 os rs → os[i]? = some o → rs[i]? = some r → ∀ a w, Since w0 w → Keeps all a0 a → Uses all a w r.u → Gives P o a.eval w r.s
  | [], _, _, _, _, _, ho, _ => by simp at ho
  | _ :: _, [], _, _, _, _, _, hr => by simp at hr
  | o' :: os, r' :: rs, 0, o, r, h, ho, hr => by
    simp only [List.getElem?_cons_zero, Option.some.injEq] at ho hr
    subst ho hr
    exact h.1
  | o' :: os, r' :: rs, i + 1, o, r, h, ho, hr => steps_at h.2 (by simpa using ho) (by simpa using hr)
theorem uses_of {rows : List Row} {a : Act} {w : World} : ∀ {u : List Nat}, (∀ j ∈ u, ∀ r, rows[j]? = some r → r.s.ok (a.tmps.getD r.d undef) w) → Uses rows a w u
  | [], _ => trivial
  | j :: u, h => by
    refine ⟨?_, uses_of fun k hk => h k (List.mem_cons_of_mem _ hk)⟩
    cases hr : rows[j]? with
    | none => trivial
    | some r => exact h j List.mem_cons_self r hr
theorem main {rows : List Row} {a0 : Act} {w0 : World} (g : Good ops rows a0.tmps.size) (hs : Steps P rows a0 w0 ops.toList rows)
    (hd : ∀ w, Since w0 w → Done w (fun T => Tail P Q (ops.toList.drop rows.length) { a0 with tmps := T } w) rows a0.tmps) :
    ∀ (fuel : Nat) (l : Array Bool) (a : Act) (w : World), Inv ops rows a0 w0 l a w → left ops.size l = fuel → wpAny P .any ops Q fuel l a w := by
  intro fuel
  induction fuel with
  | zero =>
    intro l a w I hf
    have hall : ∀ j, j < ops.size → l.getD j false = true := fun j hj => by
      have h1 := List.filter_eq_nil_iff.1 (List.length_eq_zero_iff.1 hf) j (List.mem_range.2 hj)
      simpa using h1
    have hm : rows.length = ops.size := by
      have := g.len
      by_cases e : rows.length = ops.size
      · exact e
      · have h2 := I.behind rows.length (Nat.le_refl _)
        rw [hall _ (by omega)] at h2
        cases h2
    have hK := done_all (hd w I.since) I.tsize g.nodup (fun r hr => by
        obtain ⟨i, hi⟩ := List.mem_iff_getElem?.1 hr
        have hi2 := (List.getElem?_eq_some_iff.1 hi).1
        exact (g.slot i ops[i] r (Array.getElem?_eq_getElem (by omega)) hi).2.2) (fun r hr => by
        obtain ⟨i, hi⟩ := List.mem_iff_getElem?.1 hr
        have hi2 := (List.getElem?_eq_some_iff.1 hi).1
        exact I.told i r hi (hall i (by omega))) (fun t _ ht => I.rest t fun i r hr _ => by
        have := List.all_eq_true.1 ht r (List.mem_of_getElem? hr)
        simpa using this)
    have ha : ({ a0 with tmps := a.tmps } : Act) = a := by rw [← I.defers]
    rw [ha] at hK
    exact tail_ends g 0 rows.length l a w (by omega) (Nat.le_refl _) I.size (fun j hj => by rw [hall j hj]; symm; simpa [hm] using hj) hK
  | succ fuel ih =>
    intro l a w I hf
    by_cases hall : ∀ j, j < rows.length → l.getD j false = true
    · have hK := done_all (hd w I.since) I.tsize g.nodup (fun r hr => by
          obtain ⟨i, hi⟩ := List.mem_iff_getElem?.1 hr
          have hi2 := (List.getElem?_eq_some_iff.1 hi).1
          have := g.len
          exact (g.slot i ops[i] r (Array.getElem?_eq_getElem (by omega)) hi).2.2) (fun r hr => by
          obtain ⟨i, hi⟩ := List.mem_iff_getElem?.1 hr
          have hi2 := (List.getElem?_eq_some_iff.1 hi).1
          exact I.told i r hi (hall i (by omega))) (fun t _ ht => I.rest t fun i r hr _ => by
          have := List.all_eq_true.1 ht r (List.mem_of_getElem? hr)
          simpa using this)
      have ha : ({ a0 with tmps := a.tmps } : Act) = a := by rw [← I.defers]
      rw [ha] at hK
      have hll : ∀ j, j < ops.size → l.getD j false = decide (j < rows.length) := fun j hj => by
        by_cases e : j < rows.length
        · rw [hall j e, decide_eq_true e]
        · rw [I.behind j (by omega), decide_eq_false e]
      have hcount : rows.length + (fuel + 1) = ops.size := by
        rw [← hf]
        unfold left
        have h1 : ((List.range ops.size).filter fun j => !l.getD j false) = (List.range ops.size).filter fun j => decide (rows.length ≤ j) := List.filter_congr fun j hj => by
          rw [hll j (List.mem_range.1 hj)]
          by_cases e : j < rows.length
          · rw [decide_eq_true e, decide_eq_false (by omega)]; rfl
          · rw [decide_eq_false e, decide_eq_true (by omega)]; rfl
        have h2 : ∀ (m n : Nat), m ≤ n → ((List.range n).filter fun j => decide (m ≤ j)).length = n - m := by
          intro m n
          induction n with
          | zero => intro h; simp
          | succ n ihn =>
            intro h
            rw [List.range_succ, List.filter_append, List.length_append]
            by_cases e : m ≤ n
            · rw [ihn e, List.filter_cons_of_pos (by simpa using e)]
              simp
              omega
            · have : ((List.range n).filter fun j => decide (m ≤ j)) = [] := List.filter_eq_nil_iff.2 fun j hj => by
                have := List.mem_range.1 hj
                simp
                omega
              rw [this, List.filter_cons_of_neg (by simpa using e)]
              simp
              omega
        rw [h1, h2 _ _ g.len]
        have := g.len
        omega
      exact tail_ends g (fuel + 1) rows.length l a w hcount (Nat.le_refl _) I.size hll hK
    ·
      have hex : ∃ k, k < rows.length ∧ l.getD k false = false ∧ ∀ j, j < k → l.getD j false = true := by
        have : ∀ n, n ≤ rows.length → (∀ j, j < n → l.getD j false = true) ∨ ∃ k, k < n ∧ l.getD k false = false ∧ ∀ j, j < k → l.getD j false = true := by
          intro n
          induction n with
          | zero => intro _; exact .inl fun j hj => by omega
          | succ n ihn =>
            intro hn
            rcases ihn (by omega) with h1 | ⟨k, h1, h2, h3⟩
            · by_cases e : l.getD n false = true
              · exact .inl fun j hj => by
                  by_cases ej : j = n
                  · exact ej ▸ e
                  · exact h1 j (by omega)
              · exact .inr ⟨n, by omega, by simpa using e, h1⟩
            · exact .inr ⟨k, by omega, h2, h3⟩
        rcases this rows.length (Nat.le_refl _) with h1 | h1
        · exact absurd h1 hall
        · exact h1
      obtain ⟨k, hk1, hk2, hk3⟩ := hex
      have hlen := g.len
      have hkr : k ∈ Region.ready .any ops l := (ready_iff I.size).2 ⟨hk2, ops[k], Array.getElem?_eq_getElem (by omega), fun j hj => hk3 j ((g.back k _ (Array.getElem?_eq_getElem (by omega))).1 j hj)⟩
      refine ⟨fun h0 => (by rw [h0] at hkr; cases hkr), fun i hi => ?_⟩
      obtain ⟨h1, o, ho, h2⟩ := (ready_iff I.size).1 hi
      have hin := (Array.getElem?_eq_some_iff.1 ho).1
      have him : i < rows.length := by
        by_cases e : i < rows.length
        · exact e
        · have := covered g I.closed (by omega) ho h2 (i - k) k (by omega) (by omega)
          rw [hk2] at this
          cases this
      obtain ⟨r, hr⟩ : ∃ r, rows[i]? = some r := ⟨rows[i], List.getElem?_eq_getElem him⟩
      obtain ⟨s1, s2, s3⟩ := g.slot i o r ho hr
      have hkeep : Keeps rows a0 a := fun t ht => I.rest t fun i' r' hr' _ => by
        have := List.all_eq_true.1 ht r' (List.mem_of_getElem? hr')
        simpa using this
      have hgv := steps_at hs (by simpa using ho) hr a w I.since hkeep (uses_of fun j hj r' hr' => I.told j r' hr' (h2 j (s1 j hj)))
      have next : ∀ v w', Since w w' → r.s.ok v w' → wpAny P .any ops Q fuel (l.setIfInBounds i true) (a.put o.dst v) w' := by
        intro v w' hw hv
        rw [s2]
        have hget : ∀ t, (a.put (some r.d) v).tmps.getD t undef = if r.d = t then v else a.tmps.getD t undef := fun t => by
          unfold Act.put
          simp only [Array.getD_eq_getD_getElem?]
          by_cases e : r.d = t
          · subst e
            rw [if_pos rfl, Array.getElem?_setIfInBounds_self_of_lt (by rw [I.tsize]; exact s3)]
            rfl
          · rw [if_neg e, Array.getElem?_setIfInBounds_ne e]
        have hd_ne : ∀ i' r', rows[i']? = some r' → i' ≠ i → r'.d ≠ r.d := fun i' r' hr' hne e => by
          have hn := g.nodup
          have e1 : (rows.map (·.d))[i']? = some r.d := by rw [List.getElem?_map, hr', Option.map_some, e]
          have e2 : (rows.map (·.d))[i]? = some r.d := by rw [List.getElem?_map, hr, Option.map_some]
          obtain ⟨q1, q2⟩ := List.getElem?_eq_some_iff.1 e1
          obtain ⟨q3, q4⟩ := List.getElem?_eq_some_iff.1 e2
          exact hne ((List.getElem_inj hn).1 (q2.trans q4.symm))
        refine ih _ _ _ ⟨by simpa using I.size, I.since.trans hw, I.defers, by simpa [Act.put] using I.tsize, fun i' o' ho' hl' j hj => ?_, fun i' hi' => ?_, fun i' r' hr' hl' => ?_, fun t ht => ?_⟩ ?_
        · by_cases e : i = i'
          · subst e
            have : o' = o := Option.some.inj (ho'.symm.trans ho)
            exact getD_set_true (h2 j (this ▸ hj))
          · rw [getD_set_ne false e] at hl'
            exact getD_set_true (I.closed i' o' ho' hl' j hj)
        · rw [getD_set_ne false (by omega)]
          exact I.behind i' hi'
        · rw [hget]
          by_cases e : i = i'
          · subst e
            have : r' = r := Option.some.inj (hr'.symm.trans hr)
            subst this
            rw [if_pos rfl]
            exact hv
          · rw [getD_set_ne false e] at hl'
            rw [if_neg (fun e' => hd_ne i' r' hr' (fun h => e h.symm) e'.symm)]
            exact Sp.since (I.told i' r' hr' hl') hw
        · rw [hget]
          have hrt : r.d ≠ t := ht i r hr (by simp [Array.getD_eq_getD_getElem?, I.size, hin])
          rw [if_neg hrt]
          exact I.rest t fun i' r' hr' hl' => ht i' r' hr' (getD_set_true hl')
        · have := left_set I.size hin h1
          omega
      refine wpOp_of ho (g.back i o ho).2 ?_
      unfold Oper.wp
      rcases hgv with ⟨v, w', hrun, hw, hv⟩ | ⟨f, args, hrun, hcall⟩
      · rw [hrun, Oper.upon_value]
        exact next v w' hw hv
      · rw [hrun, Oper.upon_enter]
        refine hcall.mono fun e w' hh => ?_
        obtain ⟨v, rfl, hw, hv⟩ := hh
        exact next v w' hw hv
theorem rep (n i : Nat) : (Array.replicate n false).getD i false = false := by rw [Array.getD_eq_getD_getElem?, Array.getElem?_replicate]; split <;> rfl
theorem region {id : Nat} {rows : List Row} {a0 : Act} {w0 : World} (hm : P.follows .mixedOrders = true) (g : good ops.toList rows a0.tmps.size = true) (hs : Steps P rows a0 w0 ops.toList rows)
    (hd : ∀ w, Since w0 w → Done w (fun T => Tail P Q (ops.toList.drop rows.length) { a0 with tmps := T } w) rows a0.tmps) : (Code.region id ops true).wp P Q a0 w0 := by
  refine wp_region_any hm (main (good_of g) hs hd _ _ _ _ ⟨by simp, (Since.refl w0).drew, rfl, rfl, fun i o _ hl => ?_, fun i _ => ?_, fun i r _ hl => ?_, fun _ _ => rfl⟩ ?_)
  · rw [rep] at hl; cases hl
  · exact rep _ _
  · rw [rep] at hl; cases hl
  · unfold left
    rw [List.filter_eq_self.2, List.length_range]
    intro j _
    rw [rep]
    rfl
end
end Reg
abbrev Reg.Sp.new (n : Nat) (l : List Int) : Reg.Sp := .of (fun v W => NewN n W v l) (fun _ _ _ h k => h.since k)
theorem Reg.Gives.copy {P : Program} {o : Oper} {ev : Operand → Value} {w : World} {s : Reg.Sp} {v : Value} (h : (execOp ev o).run P w = .ok (.value v) w) (hs : s.ok v w) : Reg.Gives P o ev w s := .inl ⟨v, w, h, Since.refl _, hs⟩
abbrev Reg.Sp.newI (n : Nat) (b : Bool) (l : List Int) : Reg.Sp := .of (fun v W => ∃ x, v = .agg #[.bool b, x] ∧ NewN n W x l) (fun _ _ _ h k => by obtain ⟨x, e, h⟩ := h; exact ⟨x, e, h.since k⟩)
abbrev Reg.Sp.box (n : Nat) (cs : Array Value) (t : TypeId) : Reg.Sp := .of (fun v W => ∃ b, v = .pointer (some ⟨b, 0, none⟩) ∧ n ≤ b ∧ Box W b cs t) (fun _ _ _ h k => by obtain ⟨x, e, hn, h⟩ := h; exact ⟨x, e, hn, h.since k⟩)
end
end Go.Proofs.YtjeepapdaciieaaGreat.X
namespace Go.Proofs.YtjeepapdaciieaaGreat.X
open Go.RowKit Go.Proofs.YtjeepapdaciieaaGreatW.PrintWords Go.Proofs.YtjeepapdaciieaaGreatW.PrintLast Go.Proofs.YtjeepapdaciieaaGreatW.PrintMore
attribute [local go_sem] max2_int min2_int max_two min_two max_three min_three max_four min_four
set_option linter.unusedVariables false
set_option linter.unusedSimpArgs false
def stop_refuses.any (k : Nat) (kk : Int) : List (List Int) → Option Bool
  | [] => some false
  | x :: r => (stop_fine.f k kk x).bind fun b => if b = true then stop_refuses.any k kk r else some true
def stop_refuses.f (k : Nat) (a0 : Int) (l1 : List (List Int)) : Option Int := if a0 < 1 then some 3 else if 65536 < a0 then some 3 else (stop_refuses.any k a0 l1).bind fun b => if b = true then some 2 else some 0
theorem stop_refuses.fn (k : Nat) (kk : Int) (b : Nat) (A1 : Option Addr) (c1 : Nat) (l1 : List Int) (r : Bool) (w : World) (hb : w.cell? ⟨b, 0, none⟩ = some (.int .i64 kk)) (hr1 : Kd.C (Kd.int .i64) w A1 l1.length l1) (hc1 : l1.length ≤ c1) (h : stop_fine.f k kk l1 = some r) :
    Calls Tryz.prog 220 #[.slice A1 l1.length c1, .pointer (some ⟨b, 0, none⟩)] w fun e w' => e = .returned (.bool (!r)) ∧ Drawn0 w w' := by
  have HC := Aside0.mk (stop_fine.calls k kk A1 c1 l1 r w hr1 hc1 h)
  clear hr1 hc1 h
  go_enter Tryz.func220, Tryz.ntmps220
  go_wp2_with fail
  refine HC.out.mono ?_
  rintro e w1 ⟨rfl, hd⟩
  have HD := Aside0.mk hd
  clear hd
  go_wp2
  go_ret
  exact ⟨by cases r <;> rfl, HD.out⟩
theorem stop_refuses.drawn_cell {w w1 : World} (h : Drawn0 w w1) (a : Addr) : w1.cell? a = w.cell? a := by obtain ⟨n, rfl⟩ := h.out; rfl
theorem stop_refuses.drawn_C {α : Type} {d : Kd α} {w w1 : World} {A : Option Addr} {n : Nat} {xs : List α} (h : Drawn0 w w1) (hc : d.C w A n xs) : d.C w1 A n xs := Kd.C_below hc h.below
theorem stop_refuses.drawn_trans {w w1 w2 : World} (h : Drawn0 w w1) (k : Drawn0 w1 w2) : Drawn0 w w2 := by obtain ⟨n, rfl⟩ := k.out; exact h.step n
set_option maxRecDepth 100000 in
set_option maxHeartbeats 4000000 in
theorem stop_refuses.index (k : Nat) (kk : Int) (b : Nat) (A : Option Addr) (c : Nat) (sets : List (List Int)) (r : Bool) (w : World) (hc : Kd.C (Kd.slice 3 (Kd.int .i64)) w A sets.length sets) (hb : w.cell? ⟨b, 0, none⟩ = some (.int .i64 kk)) (h : stop_refuses.any k kk sets = some r) :
    Calls Tryz.prog 258 #[.slice A sets.length c, .func (.func 220) #[] #[.pointer (some ⟨b, 0, none⟩)]] w fun e w' => (∃ i : Int, e = .returned (.int .i64 i) ∧ decide (0 ≤ i) = r) ∧ Drawn0 w w' := by
  have hm : sets.length ≤ 9223372036854775807 := hc.2.1
  have HC := Aside0.mk hc
  have HB := Aside0.mk hb
  have H := Aside0.mk h
  clear hc hb h
  go_enter Tryz.func258, Tryz.ntmps258
  go_wp2
  go_loopw [8] (fun v8 wr => ∃ j : Nat, j ≤ sets.length ∧ v8 = .int .i64 (j : Int) ∧ Aside0 (stop_refuses.any k kk (sets.drop j) = some r) ∧ Aside0 (Drawn0 w wr)) (fun v8 _ => sets.length - (intOf v8).toNat)
  case atStart => exact ⟨0, Nat.zero_le _, rfl, H, ⟨Drawn0.refl _⟩⟩
  case round =>
    obtain ⟨j, hj, rfl, HJ, HD⟩ := hrel
    by_cases hlt : j < sets.length
    · obtain ⟨ad, A1, c1, e1, hx, hl1, hC1⟩ := at_L1 (stop_refuses.drawn_C HD.out HC.out) (j : Int) (by omega) (by omega)
      subst e1
      rw [Int.toNat_natCast] at hx
      obtain ⟨x, hxx⟩ : ∃ x, rd_L1 sets (j : Int) = x := ⟨_, rfl⟩
      have hget : sets[j] = x := by rw [← hxx]; simp [rd_L1, hlt]
      rw [hxx] at hx hl1 hC1
      have h1 := HJ.out
      rw [List.drop_eq_getElem_cons hlt, stop_refuses.any, hget] at h1
      obtain ⟨f, hf, h2⟩ := Option.bind_eq_some_iff.1 h1
      have HF := Aside0.mk (stop_refuses.fn k kk b A1 c1 x f wr ((stop_refuses.drawn_cell HD.out _).trans HB.out) hC1 hl1 hf)
      have H2 := Aside0.mk h2
      clear h1 h2 hf hC1 hl1 hget hxx
      go_wp2_with fail
      refine HF.out.mono ?_
      rintro e w1 ⟨rfl, hd1⟩
      have HD1 := Aside0.mk (stop_refuses.drawn_trans HD.out hd1)
      clear hd1
      cases f with
      | true =>
        have h3 := H2.out
        rw [if_pos rfl] at h3
        have H3 := Aside0.mk h3
        clear h3
        go_wp2
        go_roundw
        case rel => exact ⟨j + 1, hlt, by go_num, H3, HD1⟩
        case measure => simp [intOf]; omega
      | false =>
        have h3 := H2.out
        rw [if_neg (by decide)] at h3
        obtain rfl := Option.some.inj h3
        clear h3
        go_wp2
        go_ret
        exact ⟨⟨_, rfl, by simp⟩, HD1.out⟩
    · obtain rfl : j = sets.length := by omega
      have h1 := HJ.out
      rw [List.drop_length, stop_refuses.any] at h1
      obtain rfl := Option.some.inj h1
      clear h1
      go_wp2
      go_ret
      exact ⟨⟨_, rfl, by decide⟩, HD.out⟩
set_option maxRecDepth 100000 in
set_option maxHeartbeats 4000000 in
theorem stop_refuses.contains (k : Nat) (kk : Int) (b : Nat) (A : Option Addr) (c : Nat) (sets : List (List Int)) (r : Bool) (w : World) (hc : Kd.C (Kd.slice 3 (Kd.int .i64)) w A sets.length sets) (hb : w.cell? ⟨b, 0, none⟩ = some (.int .i64 kk)) (h : stop_refuses.any k kk sets = some r) :
    Calls Tryz.prog 219 #[.slice A sets.length c, .func (.func 220) #[] #[.pointer (some ⟨b, 0, none⟩)]] w fun e w' => e = .returned (.bool r) ∧ Drawn0 w w' := by
  have HI := Aside0.mk (stop_refuses.index k kk b A c sets r w hc hb h)
  clear hc hb h
  go_enter Tryz.func219, Tryz.ntmps219
  go_wp2_with fail
  refine HI.out.mono ?_
  rintro e w1 ⟨⟨i, rfl, hi⟩, hd⟩
  have HD := Aside0.mk hd
  clear hd
  go_wp2
  go_ret
  exact ⟨by rw [← hi]; simp [GE.ge], HD.out⟩
set_option maxRecDepth 100000 in
set_option maxHeartbeats 4000000 in
theorem stop_refuses.calls (k : Nat) (a0 : Int) (A1 : Option Addr) (c1 : Nat) (l1 : List (List Int)) (r : Int) (w : World) (hr1 : Kd.C (Kd.slice 3 (Kd.int .i64)) w A1 l1.length l1) (hc1 : l1.length ≤ c1) (h : stop_refuses.f k a0 l1 = some r) :
    Calls Tryz.prog 166 #[.int .i64 a0, .slice A1 l1.length c1] w fun e w' => e = .returned (.int .i64 r) ∧ Below w.heap.size w w' := by
  have HR1 := Aside0.mk hr1
  have H := Aside0.mk h
  clear hr1 hc1 h
  by_cases h0 : a0 < 1
  · have h1 := H.out
    rw [stop_refuses.f, if_pos h0] at h1
    obtain rfl := Option.some.inj h1
    clear h1 H
    go_enter Tryz.func166, Tryz.ntmps166
    go_wp2
    go_ret
    exact ⟨rfl, below_alloc (Below.refl _ _) _⟩
  · by_cases h65 : 65536 < a0
    · have h1 := H.out
      rw [stop_refuses.f, if_neg h0, if_pos h65] at h1
      obtain rfl := Option.some.inj h1
      clear h1 H
      go_enter Tryz.func166, Tryz.ntmps166
      go_wp2
      go_ret
      exact ⟨rfl, below_alloc (Below.refl _ _) _⟩
    · have h1 := H.out
      rw [stop_refuses.f, if_neg h0, if_neg h65] at h1
      obtain ⟨b, hb, h2⟩ := Option.bind_eq_some_iff.1 h1
      have HI := Aside0.mk (fun W hc hq => stop_refuses.contains k a0 w.heap.size A1 c1 l1 b W hc hq hb)
      have H2 := Aside0.mk h2
      clear h1 h2 hb H
      go_enter Tryz.func166, Tryz.ntmps166
      go_wp2_with fail
      refine (HI.out _ (Kd.C_alloc HR1.out _) (q_new rfl rfl)).mono ?_
      rintro e w1 ⟨rfl, hd⟩
      have HD := Aside0.mk (below_step (below_alloc (Below.refl _ _) _) hd.below)
      clear hd HI
      cases b with
      | true =>
        have h3 := H2.out
        rw [if_pos rfl] at h3
        obtain rfl := Option.some.inj h3
        clear h3 H2
        go_wp2
        go_ret
        exact ⟨rfl, HD.out⟩
      | false =>
        have h3 := H2.out
        rw [if_neg (by decide)] at h3
        obtain rfl := Option.some.inj h3
        clear h3 H2
        go_wp2
        go_ret
        exact ⟨rfl, HD.out⟩
end Go.Proofs.YtjeepapdaciieaaGreat.X
namespace Go.Proofs.YtjeepapdaciieaaGreat.X
open Go.RowKit Go.Proofs.YtjeepapdaciieaaGreatW.PrintWords
section
def Ends {α : Type} (g : Nat → Option α) (v : α) : Prop := ∃ n, ∀ k, n ≤ k → g k = some v
section
variable {α β : Type}
theorem Ends.now (v : α) : Ends (fun _ => some v) v := ⟨0, fun _ _ => rfl⟩
theorem Ends.step {g' : Nat → Option β} {g : Nat → Option α} {a : β} {v : α} (h : Ends g' a) (hs : ∀ k, g' k = some a → g (k + 1) = some v) : Ends g v := by
  obtain ⟨n, hn⟩ := h
  refine ⟨n + 1, fun k hk => ?_⟩
  obtain ⟨k, rfl⟩ : ∃ j, k = j + 1 := ⟨k - 1, by omega⟩
  exact hs k (hn k (by omega))
theorem Ends.same {g' : Nat → Option β} {g : Nat → Option α} {a : β} {v : α} (h : Ends g' a) (hs : ∀ k, g' k = some a → g k = some v) : Ends g v := by
  obtain ⟨n, hn⟩ := h
  exact ⟨n, fun k hk => hs k (hn k hk)⟩
theorem Ends.get {g : Nat → Option α} {v : α} (h : Ends g v) : ∃ k, g k = some v := by
  obtain ⟨n, hn⟩ := h
  exact ⟨n, hn n (Nat.le_refl _)⟩
end
theorem wrap_small {x : Int} (h0 : -9223372036854775808 ≤ x) (h1 : x < 9223372036854775808) : wrap64 x = x := by unfold wrap64; omega
end
end Go.Proofs.YtjeepapdaciieaaGreat.X
