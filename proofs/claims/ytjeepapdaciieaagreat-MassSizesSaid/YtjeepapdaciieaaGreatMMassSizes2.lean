/- Part 2 of the proof of MassSizes: what the program's functions compute, function by function. -/
import Derived.Shelf.Abstract
import Derived.Shelf.RegionOpen
import Derived.OwnWalkIn
import Derived.TacticsInMore
import Derived.LoopNIn
import Derived.LoopIn
import Derived.Laws.MakeOwn
import Derived.WalkMore
import Derived.WalkSpells
import Derived.RangeFuncNested
import Derived.RangeFuncBound
import Derived.RangeFuncLeaves
import Derived.Deep.RegionLaw
import Derived.Deep.RegionHeldLaw
import Derived.Maps.OwnIn
import Derived.Laws.CopyOwn
import Derived.Shelf.Strconv.Itoa0
import Derived.Shelf.Bits.Mul64
import Derived.Ground.SlgmProg
import Derived.Shelf.SortM.Plain
import Derived.Shelf.SortM.SortNone
import Derived.Test.YtjeepapdaciieaaGreatProg
import Derived.Test.YtjeepapdaciieaaGreatMMassSizes0
import Derived.Test.YtjeepapdaciieaaGreatMMassSizes1
namespace Go.Proofs.YtjeepapdaciieaaGreat.X
open Go.RowKit Go.Proofs.YtjeepapdaciieaaGreatW.PrintWords Go.Proofs.YtjeepapdaciieaaGreatW.PrintLast Go.Proofs.YtjeepapdaciieaaGreatW.PrintMore
attribute [local go_sem] max2_int min2_int max_two min_two max_three min_three max_four min_four
set_option linter.unusedVariables false
set_option linter.unusedSimpArgs false
section
open Go.Shelf
attribute [local go_sem] Oper.semAt_some
namespace Tup
def inc (m : Int) : List Int → Option (List Int)
  | [] => none
  | d :: r => match inc m r with
    | some r' => some (d :: r')
    | none => if d + 1 < m then some ((d + 1) :: List.replicate r.length 0) else none
def rank (m : Nat) : List Int → Nat
  | [] => 0
  | d :: r => (m - 1 - d.toNat) * m ^ r.length + rank m r
def ok (m : Nat) (l : List Int) : Prop := ∀ x ∈ l, 0 ≤ x ∧ x < m
theorem rank_zeros (m : Nat) (hm : 1 ≤ m) : ∀ n, rank m (List.replicate n 0) = m ^ n - 1 := by
  intro n
  induction n with
  | zero => rfl
  | succ n ih =>
    rw [List.replicate_succ, rank, ih, List.length_replicate, Nat.pow_succ]
    have : 1 ≤ m ^ n := Nat.one_le_pow _ _ hm
    have h2 : (m - 1) * m ^ n = m ^ n * m - m ^ n := by rw [Nat.sub_mul, Nat.one_mul, Nat.mul_comm]
    have h3 : m ^ n ≤ m ^ n * m := Nat.le_mul_of_pos_right _ hm
    simp only [Int.toNat_zero, Nat.sub_zero]
    omega
theorem inc_len (m : Int) : ∀ l l', inc m l = some l' → l'.length = l.length := by
  intro l
  induction l with
  | nil => intro l' h; cases h
  | cons d r ih =>
    intro l' h
    rw [inc] at h
    split at h
    · rename_i r' hr
      cases h
      simp [ih _ hr]
    · split at h
      · cases h; simp
      · cases h
theorem inc_none (m : Nat) (hm : 1 ≤ m) : ∀ l, ok m l → inc m l = none → rank m l = 0 := by
  intro l
  induction l with
  | nil => intro _ _; rfl
  | cons d r ih =>
    intro ho h
    have hd := ho d List.mem_cons_self
    have hr' : ok m r := fun x hx => ho x (List.mem_cons_of_mem _ hx)
    rw [inc] at h
    split at h
    · cases h
    · rename_i hn
      split at h
      · cases h
      · rename_i hlt
        rw [rank, ih hr' hn, show m - 1 - d.toNat = 0 by omega, Nat.zero_mul]
theorem inc_ok (m : Nat) (hm : 1 ≤ m) : ∀ l l', ok m l → inc m l = some l' → ok m l' ∧ rank m l = rank m l' + 1 := by
  intro l
  induction l with
  | nil => intro l' _ h; cases h
  | cons d r ih =>
    intro l' ho h
    have hd := ho d List.mem_cons_self
    have hr' : ok m r := fun x hx => ho x (List.mem_cons_of_mem _ hx)
    rw [inc] at h
    split at h
    · rename_i r' hr
      cases h
      obtain ⟨h1, h2⟩ := ih _ hr' hr
      refine ⟨fun x hx => ?_, ?_⟩
      · rcases List.mem_cons.1 hx with rfl | hx
        · exact hd
        · exact h1 x hx
      · rw [rank, rank, inc_len _ _ _ hr]; omega
    · rename_i hn
      split at h
      · rename_i hlt
        cases h
        refine ⟨fun x hx => ?_, ?_⟩
        · rcases List.mem_cons.1 hx with rfl | hx
          · omega
          · rw [List.mem_replicate] at hx; omega
        · have h0 : rank m (List.replicate r.length 0) = m ^ r.length - 1 := rank_zeros m hm _
          have h1 : 1 ≤ m ^ r.length := Nat.one_le_pow _ _ hm
          rw [rank, rank, inc_none m hm r hr' hn, h0, List.length_replicate, show m - 1 - d.toNat = (m - 1 - (d + 1).toNat) + 1 by omega, Nat.add_mul, Nat.one_mul]
          omega
      · cases h
def run (m : Int) : Nat → List Int → List (List Int)
  | 0, l => [l]
  | n + 1, l => l :: (match inc m l with | some l' => run m n l' | none => [])
def all (m : Nat) (n : Nat) : List (List Int) := run m (m ^ n - 1) (List.replicate n 0)
theorem inc_at (m : Int) : ∀ (i : Nat) (l : List Int) (hi : i < l.length), inc m (l.drop (i + 1)) = none → l[i] + 1 < m → inc m l = some (l.take i ++ (l[i] + 1) :: List.replicate (l.length - (i + 1)) 0)
  | 0, [], hi, _, _ => absurd hi (by simp)
  | 0, d :: r, _, h, hm => by
    rw [inc]
    rw [List.drop_succ_cons, List.drop_zero] at h
    rw [h]
    simp at hm ⊢
    exact hm
  | i + 1, [], hi, _, _ => absurd hi (by simp)
  | i + 1, d :: r, hi, h, hm => by
    rw [List.drop_succ_cons] at h
    have hi' : i < r.length := by simpa using hi
    have := inc_at m i r hi' h (by simpa using hm)
    rw [inc, this]
    simp
theorem inc_step (m : Int) (i : Nat) (l : List Int) (hi : i < l.length) (h : inc m (l.drop (i + 1)) = none) (hm : ¬ l[i] + 1 < m) : inc m (l.drop i) = none := by
  rw [List.drop_eq_getElem_cons hi, inc, h]
  simp [hm]
theorem run_step (m : Nat) (hm : 1 ≤ m) {l l' : List Int} (ho : ok m l) (h : inc m l = some l') : run m (rank m l) l = l :: run m (rank m l') l' := by
  rw [(inc_ok m hm l l' ho h).2, run, h]
theorem run_end (m : Nat) (hm : 1 ≤ m) {l : List Int} (ho : ok m l) (h : inc m l = none) : run m (rank m l) l = [l] := by
  rw [inc_none m hm l ho h, run]
theorem ok_zeros (m n : Nat) (hm : 1 ≤ m) : ok m (List.replicate n 0) := fun x hx => by rw [List.mem_replicate] at hx; omega
theorem run_zeros (m n : Nat) (hm : 1 ≤ m) : run m (rank m (List.replicate n 0)) (List.replicate n 0) = all m n := by rw [rank_zeros m hm, all]
theorem set_at {l : List Int} {i n : Nat} (hi : i < l.length) (hn : l.length = n) (v : Int) : (l.take (i + 1) ++ List.replicate (n - (i + 1)) 0).set i v = l.take i ++ v :: List.replicate (n - (i + 1)) 0 := by
  rw [List.take_succ_eq_append_getElem hi, List.append_assoc, List.singleton_append, List.set_append_right _ _ (by simp; omega)]
  simp [Nat.min_eq_left (Nat.le_of_lt hi)]
theorem set_at2 {l : List Int} {i n : Nat} (hi : i < l.length) (hn : l.length = n) (v : Int) : (l.take i ++ v :: List.replicate (n - (i + 1)) 0).set i 0 = l.take i ++ List.replicate (n - i) 0 := by
  rw [List.set_append_right _ _ (by simp; omega)]
  simp only [List.length_take, Nat.min_eq_left (Nat.le_of_lt hi), Nat.sub_self, List.set_cons_zero]
  rw [show n - i = n - (i + 1) + 1 by omega, List.replicate_succ]
end Tup
theorem mass_tuples.make (m n : Int) (w : World) : Calls Tryz.prog 134 #[.int .i64 m, .int .i64 n] w fun e w' => e = .returned (.func (.func 191) #[] #[.pointer (some ⟨w.heap.size + 1, 0, none⟩), .pointer (some ⟨w.heap.size, 0, none⟩)]) ∧ w' = (w.alloc (.cells #[.int .i64 m] 3)).alloc (.cells #[.int .i64 n] 3) := by
  go_enter Tryz.func134, Tryz.ntmps134
  go_wp2
  go_ret
  exact ⟨rfl, rfl⟩
abbrev mass_tuples.enc (x : List Int × Value) : Array Value := #[x.2]
def mass_tuples.G (m n : Nat) (_n : Nat) (pre : List (List Int × Value)) (x : List Int × Value) (O : Nat → Prop) (W : World) : Prop := (pre.map (·.1) ++ [x.1] <+: Tup.all m n) ∧ x.1.length = n ∧ (∀ y ∈ x.1, 0 ≤ y ∧ y < m) ∧ ∃ g, x.2 = .slice (some ⟨g, 0, none⟩) n n ∧ O g ∧ RowAt W g .i64 3 x.1
theorem mass_tuples.G_local {R : Nat → Prop} (m n0 : Nat) : ∀ n pre x O W W', mass_tuples.G m n0 n pre x O W → W.heap.size ≤ W'.heap.size → (∀ k, n ≤ k ∨ O k ∨ R k → W'.heap[k]? = W.heap[k]?) → mass_tuples.G m n0 n pre x O W' := by
  rintro n pre x O W W' ⟨h0, h4, h5, g, h1, h2, h3⟩ _ hk
  exact ⟨h0, h4, h5, g, h1, h2, (hk g (.inr (.inl h2))).trans h3⟩
def mass_tuples.rk (m : Nat) : Option Obj → Nat
  | some (.cells cs _ _) => Tup.rank m (cs.toList.map intOf)
  | _ => 0
theorem mass_tuples.rk_at {m : Nat} {w : World} {g : Nat} {l : List Int} (h : RowAt w g .i64 3 l) : mass_tuples.rk m w.heap[g]? = Tup.rank m l := by
  unfold RowAt at h
  rw [h, mass_tuples.rk]
  congr 1
  simp [nums, intOf, Function.comp_def]
structure mass_tuples.Mid (b : Nat) (W : World) (m n : Nat) (J : (Nat → Prop) → List (List Int × Value) → World → Prop) (O : Nat → Prop) (l : List Int) (cur : List Int) (pre : List (List Int × Value)) (W2 : World) : Prop where
  hJ : J O pre W2
  ok : Tup.ok m l
  len : l.length = n
  bm : W2.heap[b]? = some (.cells #[.int .i64 m] 3 (0, 0))
  bn : W2.heap[b + 1]? = some (.cells #[.int .i64 n] 3 (0, 0))
  row : RowAt W2 W.heap.size .i64 3 cur
theorem mass_tuples.either2 {e : Ending} {A B C : Prop} (h : (e = .returned (.bool true) ∧ A ∧ C) ∨ (e = .returned (.bool false) ∧ B ∧ C)) : ∃ b, e = .returned (.bool b) ∧ Aside0 ((b = true → A) ∧ (b = false → B)) ∧ C := by
  rcases h with ⟨rfl, h⟩ | ⟨rfl, h⟩
  · exact ⟨true, rfl, ⟨fun _ => h.1, fun h => (by cases h)⟩, h.2⟩
  · exact ⟨false, rfl, ⟨fun h => (by cases h), fun _ => h.1⟩, h.2⟩
theorem mass_tuples.box {W : World} {b : Nat} {v : Value} {t : TypeId} (h : W.heap[b]? = some (.cells #[v] t (0, 0))) : W.cell? ⟨b, 0, none⟩ = some v := by simp [World.cell?, h]
theorem mass_tuples.Mid.keeps {b : Nat} {W : World} {m n : Nat} {J : (Nat → Prop) → List (List Int × Value) → World → Prop} {O : Nat → Prop} {l cur : List Int} {pre pre' : List (List Int × Value)} {W2 W3 : World} (h : mass_tuples.Mid b W m n J O l cur pre W2)
    (hk : Keeps O W2 W3) (hO0 : ∀ i, b ≤ i ∧ i < b + 2 → O i) (hOg : O W.heap.size) (hJ : J O pre' W3) : mass_tuples.Mid b W m n J O l cur pre' W3 :=
  ⟨hJ, h.ok, h.len, (hk.same _ (hO0 _ ⟨by omega, by omega⟩) (Array.getElem?_eq_some_iff.1 h.bm).1).trans h.bm, (hk.same _ (hO0 _ ⟨by omega, by omega⟩) (Array.getElem?_eq_some_iff.1 h.bn).1).trans h.bn, (hk.same _ hOg h.row.lt).trans h.row⟩
theorem mass_tuples.Mid.set {b : Nat} {W : World} {m n : Nat} {J : (Nat → Prop) → List (List Int × Value) → World → Prop} {O : Nat → Prop} {l cur : List Int} {pre : List (List Int × Value)} {W2 : World} (h : mass_tuples.Mid b W m n J O l cur pre W2)
    (hJ : Stable J) (hOg : O W.heap.size) (hb : b + 2 ≤ W.heap.size) (i : Nat) (v : Int) {cur' : List Int} (hc : cur.set i v = cur') : mass_tuples.Mid b W m n J O l cur' pre (W2.setCell ⟨W.heap.size, i, none⟩ (.int .i64 v)) :=
  ⟨hJ _ _ _ _ _ h.hJ (Turns.setCell W2 ⟨W.heap.size, i, none⟩ _ hOg) (fun k hk => .inl hk), h.ok, h.len, (Below.heap_setCell _ _ _ _ (by show b ≠ W.heap.size; omega)).trans h.bm, (Below.heap_setCell _ _ _ _ (by show b + 1 ≠ W.heap.size; omega)).trans h.bn, hc ▸ h.row.set i v⟩
theorem mass_tuples.next (m n : Nat) (hm : 1 ≤ m) {l0 : List Int} {pre : List (List Int × Value)} (ho : Tup.ok m l0) (h1 : pre.map (·.1) ++ Tup.run m (Tup.rank m l0) l0 = Tup.all m n) : pre.map (·.1) ++ [l0] <+: Tup.all m n := by
  cases hi : Tup.inc m l0 with
  | none =>
    rw [Tup.run_end m hm ho hi] at h1
    exact ⟨[], by simpa using h1⟩
  | some l1 =>
    rw [Tup.run_step m hm ho hi] at h1
    exact ⟨Tup.run m (Tup.rank m l1) l1, by simpa using h1⟩
set_option maxRecDepth 100000 in
set_option maxHeartbeats 8000000 in
theorem mass_tuples.seq (m n b : Nat) (hm : 1 ≤ m) (hm2 : m ≤ 1099511627776) (hn : n ≤ 1099511627776) (w : World) (hbm : w.heap[b]? = some (.cells #[.int .i64 m] 3 (0, 0))) (hbn : w.heap[b + 1]? = some (.cells #[.int .i64 n] 3 (0, 0))) :
    SeqW Tryz.prog 191 #[.pointer (some ⟨b + 1, 0, none⟩), .pointer (some ⟨b, 0, none⟩)] mass_tuples.enc (mass_tuples.G m n) (fun xs => xs.map (·.1) = Tup.all m n) (fun xs => xs.map (·.1) <+: Tup.all m n) (fun _ => False) (fun i => b ≤ i ∧ i < b + 2) w := by
  intro l J Jx W hW hJ hJx hY h0
  have hlt : b + 2 ≤ w.heap.size := (Array.getElem?_eq_some_iff.1 hbn).1
  have hBm := (hW.same _ (.inr ⟨by omega, by omega⟩) (by omega)).trans hbm
  have hBn := (hW.same _ (.inr ⟨by omega, by omega⟩) (by omega)).trans hbn
  have hltW : b + 2 ≤ W.heap.size := Nat.le_trans hlt hW.size
  obtain ⟨i0, hi, hz⟩ := Option.map_eq_some_iff.1 info3
  simp only [Prod.mk.injEq] at hz
  obtain ⟨hz0, hz1, hz2⟩ := hz
  have hmade : madeCells (Value.int .i64 0).cells n = (nums .i64 (List.replicate n 0)).toArray := by
    apply Array.ext
    · simp [madeCells, nums]
    · intro i h1 h2
      simp [madeCells, nums, Value.cells, Nat.mod_one]
  have hmk : ∀ W, (Instr.makeSlice 22 (.int .i64 (n : Int)) (.int .i64 (n : Int))).run Tryz.prog W = .ok (.slice (some ⟨W.heap.size, 0, none⟩) n n) (W.alloc (.cells (nums .i64 (List.replicate n 0)).toArray 3)) := by
    intro W
    have h := run_make W 22 3 i0 (.int .i64 0) Tryz.underlying22 hi hz0 .i64 .i64 (n : Int) (n : Int) (by omega) (Int.le_refl _) (by rw [hz2]; omega) (by omega)
    rw [h, hz1, Int.toNat_natCast, Nat.mul_one, hmade]
  obtain ⟨O, hO⟩ : ∃ O : Nat → Prop, O = (fun i => (b ≤ i ∧ i < b + 2) ∨ i = W.heap.size) := ⟨_, rfl⟩
  have hO0 : ∀ i, b ≤ i ∧ i < b + 2 → O i := fun i h => by rw [hO]; exact .inl h
  have hOg : O W.heap.size := by rw [hO]; exact .inr rfl
  have hOb : ∀ i, O i → i < W.heap.size + 1 := fun i h => by rw [hO] at h; rcases h with h | h <;> omega
  have hOn : ∀ i, O i → (b ≤ i ∧ i < b + 2) ∨ W.heap.size ≤ i := fun i h => by rw [hO] at h; rcases h with h | h; exact .inl h; exact .inr (by omega)
  have hM0 : mass_tuples.Mid b W m n J O (List.replicate n 0) (List.replicate n 0) [] (W.alloc (.cells (nums .i64 (List.replicate n 0)).toArray 3)) :=
    ⟨hJ _ _ _ _ _ h0 (Turns.of_below (below_alloc (Below.refl _ _) _)) hOn, Tup.ok_zeros m n hm, by simp, (Below.heap_alloc _ _ _ (by omega)).trans hBm, (Below.heap_alloc _ _ _ (by omega)).trans hBn, heap_alloc_new _ _⟩
  have HY := Aside0.mk hY
  have HJ := Aside0.mk hJ
  have HJx := Aside0.mk hJx
  have HM0 := Aside0.mk hM0
  have HO := Aside0.mk (And.intro hO0 (And.intro hOg hOb))
  have hbn' := mass_tuples.box hBn
  clear hW hY hJ hJx h0 hM0 hO hO0 hOg hOb hOn hmade hi hz0 hz1 hz2 hbm hbn hBm hBn
  refine callsIn_of_wp Tryz.func191 rfl trivial ?_ rfl
  simp only [Tryz.ntmps191, List.size_toArray, List.length_cons, List.length_nil, Nat.reduceAdd, Nat.reduceSub, Array.replicate_succ, Array.replicate_zero, List.push_toArray, List.append_toArray, List.nil_append, List.cons_append]
  gi_wp2
  refine wpIn_wide.2 (wp_scope_straight ((wpIn_wide (n := 2)).1 ?_))
  gi_wp2
  refine wpIn_label ?_
  gi_wp2
  gi_loopw [] (fun wr => ∃ (l0 : List Int) (pre : List (List Int × Value)), Aside0 (mass_tuples.Mid b W m n J O l0 l0 pre wr) ∧ Aside0 (pre.map (·.1) ++ Tup.run m (Tup.rank m l0) l0 = Tup.all m n)) (fun wr => mass_tuples.rk m wr.heap[W.heap.size]?)
  case atStart => exact ⟨_, _, HM0, ⟨by rw [Tup.run_zeros m n hm]; rfl⟩⟩
  case round =>
    obtain ⟨l0, pre, HM, HP⟩ := hrel
    have hyy := HY.out O pre (l0, .slice (some ⟨W.heap.size, 0, none⟩) n n) wr wr HO.out.1 (fun k hk => by have := HO.out.2.2 k hk; have := HM.out.row.lt; omega) (by have := HM.out.row.lt; omega) HM.out.hJ (Turns.refl _ _) ⟨mass_tuples.next m n hm HM.out.ok HP.out, HM.out.len, HM.out.ok, W.heap.size, rfl, HO.out.2.1, HM.out.row⟩
    obtain ⟨fn, tmps, assign, body, hy, hR⟩ := hyy
    dsimp only [mass_tuples.enc] at hy
    have HR := Aside0.mk hR
    clear hR
    gi_wp2_with ((with_reducible refine HR.out.mono ?_); rintro e W3 hx3; obtain ⟨bb, rfl, HX3, hk3⟩ := mass_tuples.either2 hx3; have hbn3 := mass_tuples.box ((hk3.same _ (.inr (HO.out.1 (b + 1) ⟨by omega, by omega⟩)) (Array.getElem?_eq_some_iff.1 HM.out.bn).1).trans HM.out.bn); have HK3 := Aside0.mk hk3; clear hk3 hx3)
    · obtain rfl : bb = true := ‹bb = true›
      have hJ3 := HX3.out.1 rfl
      have HM3 := Aside0.mk (HM.out.keeps (HK3.out.mono (fun i h => .inr h)) HO.out.1 HO.out.2.1 hJ3)
      have HRK : Aside0 (mass_tuples.rk m wr.heap[W.heap.size]? = Tup.rank m l0) := ⟨mass_tuples.rk_at HM.out.row⟩
      clear hJ3 hbn3 hy HR HX3
      gi_loopw [5] (fun i wq => ∃ j : Nat, j ≤ n ∧ i = .int .i64 ((j : Int) - 1) ∧ Aside0 (mass_tuples.Mid b W m n J O l0 (l0.take j ++ List.replicate (n - j) 0) (pre ++ [(l0, .slice (some ⟨W.heap.size, 0, none⟩) n n)]) wq) ∧ Aside0 (Tup.inc m (l0.drop j) = none)) (fun i _ => (intOf i + 1).toNat)
      case atStart => exact ⟨n, Nat.le_refl _, rfl, ⟨by rw [Nat.sub_self, List.replicate_zero, List.append_nil, List.take_of_length_le (by rw [HM.out.len]; exact Nat.le_refl _)]; exact HM3.out⟩, ⟨by rw [List.drop_of_length_le (by rw [HM.out.len]; exact Nat.le_refl _)]; rfl⟩⟩
      case round =>
        obtain ⟨j, hj, rfl, HQ, HI⟩ := hrel
        cases j with
        | zero =>
          have hneg : decide (0 ≤ ((0 : Nat) : Int) - 1) = false := by decide
          gi_wp2
          refine bodyPost_ret (results_none rfl _ _ _) rfl ?_
          refine ⟨⟨_, rfl⟩, .inl ⟨_, O, HO.out.1, ?_, HQ.out.hJ⟩⟩
          have h1 := HP.out
          rw [Tup.run_end m hm HM.out.ok (by simpa using HI.out)] at h1
          simpa using h1
        | succ i =>
          have hi : ((i + 1 : Nat) : Int) - 1 = (i : Int) := by omega
          rw [hi]
          have hge : decide (0 ≤ (i : Int)) = true := by simp
          have hl0 : i < l0.length := by rw [HM.out.len]; omega
          have hcur : (l0.take (i + 1) ++ List.replicate (n - (i + 1)) 0).length = n := by have := HM.out.len; simp; omega
          have hat : (l0.take (i + 1) ++ List.replicate (n - (i + 1)) 0)[i]'(by omega) = l0[i] := by rw [List.getElem_append_left (by simp; omega)]; simp
          have hd := HM.out.ok l0[i] (List.getElem_mem hl0)
          have hc0 := HQ.out.row.cell i (by omega)
          rw [hat] at hc0
          have hf0 := HQ.out.row.frozen i
          have HQ1 := Aside0.mk (HQ.out.set HJ.out HO.out.2.1 hltW i (l0[i] + 1) (Tup.set_at hl0 HM.out.len _))
          obtain ⟨d, hdd⟩ : ∃ d, l0[i] = d := ⟨_, rfl⟩
          rw [hdd] at hd hc0 HQ1
          have HDD := Aside0.mk hdd
          have hc1 : (wr.setCell ⟨W.heap.size, i, none⟩ (.int .i64 (d + 1))).cell? ⟨W.heap.size, i, none⟩ = some (.int .i64 (d + 1)) := q_set hc0
          have hm1 := mass_tuples.box HQ1.out.bm
          have hf1 := HQ1.out.row.frozen i
          have hin : i < n := by omega
          clear hdd hcur hat hi
          by_cases hdm : d + 1 < (m : Int)
          · have hinc := Tup.inc_at m i l0 hl0 HI.out (by rw [HDD.out]; exact hdm)
            rw [HDD.out, HM.out.len] at hinc
            obtain ⟨hok, hrk⟩ := Tup.inc_ok m hm _ _ HM.out.ok hinc
            have HINC := Aside0.mk (And.intro hinc (And.intro hok hrk))
            clear hinc hok hrk
            gi_wp2
            gi_region_with_o fail
            all_goals
              gi_wp2
              refine ⟨⟨_, _, _, _, _, _, _, _, _, _, _, _, _, _, _, _, _, _, _, _, _, _, _, _, _, ⟨_, _, ⟨⟨HJ.out _ _ _ _ _ HQ1.out.hJ (Turns.of_below (Below.refl _ _).drew) (fun k hk => .inl hk), HINC.out.2.1, by rw [Tup.inc_len _ _ _ HINC.out.1]; exact HM.out.len, HQ1.out.bm, HQ1.out.bn, HQ1.out.row⟩⟩, ⟨?_⟩⟩, rfl⟩, ?_⟩
              · have h1 := HP.out
                rw [Tup.run_step m hm HM.out.ok HINC.out.1] at h1
                simpa using h1
              · rw [HRK.out, HINC.out.2.2]
                have := mass_tuples.rk_at (m := m) HQ1.out.row
                show mass_tuples.rk m (wr.setCell ⟨W.heap.size, i, none⟩ (.int .i64 (d + 1))).heap[W.heap.size]? < _
                rw [this]
                omega
          · have hdb : decide (d + 1 < (m : Int)) = false := by simp; omega
            have HST := Aside0.mk (Tup.inc_step m i l0 hl0 HI.out (by rw [HDD.out]; exact hdm))
            have HQ2 := Aside0.mk (HQ1.out.set HJ.out HO.out.2.1 hltW i 0 (Tup.set_at2 hl0 HM.out.len _))
            gi_wp2
            gi_region_with_o fail
            all_goals
              gi_wp2
              refine ⟨?_, by simp [intOf]⟩
              exact ⟨i, by omega, rfl, ⟨⟨HJ.out _ _ _ _ _ HQ2.out.hJ (Turns.of_below (Below.refl _ _).drew) (fun k hk => .inl hk), HM.out.ok, HM.out.len, HQ2.out.bm, HQ2.out.bn, HQ2.out.row⟩⟩, HST⟩
    · have hJ3 := HX3.out.2 ‹bb = false›
      rw [Exit.noGoto_normal]
      go_end0
      refine ⟨⟨_, rfl⟩, .inr ⟨_, O, HO.out.1, ?_, hJ3⟩⟩
      have h1 := HP.out
      cases hi : Tup.inc m l0 with
      | none =>
        rw [Tup.run_end m hm HM.out.ok hi] at h1
        exact ⟨[], by simpa using h1⟩
      | some l1 =>
        rw [Tup.run_step m hm HM.out.ok hi] at h1
        exact ⟨Tup.run m (Tup.rank m l1) l1, by simpa using h1⟩
end
def slices_CloneNat.f (l0 : List Int) : Option (List Int) := if l0.length < 17592186044416 then some l0 else none
set_option maxHeartbeats 1000000 in
theorem slices_CloneNat.calls (A0 : Option Addr) (c0 : Nat) (l0 : List Int) (r : List Int) (w : World) (hr0 : Kd.C (Kd.int .u64) w A0 l0.length l0) (hc0 : l0.length ≤ c0) (h : slices_CloneNat.f l0 = some r) :
    Calls Tryz.prog 197 #[.slice A0 l0.length c0] w fun e w' => ∃ v0_ : Value, e = .returned (v0_) ∧ Kd.R (Kd.int .u64) 112 w' w.heap.size (fun _ => True) v0_ r ∧ Below w.heap.size w w' := by
  unfold slices_CloneNat.f at h
  by_cases c2 : l0.length < 17592186044416
  · rw [if_pos c2] at h
    obtain rfl := Option.some.inj h
    have q22 : ∀ (w : World) (a : Option Addr) (n c n' c' : Nat), (binOp .eql 40 (.slice a n c) (.slice none n' c')).run Tryz.prog w = .ok (.bool a.isNone) w := fun w a n c n' c' => Lib.run_eql_slice_nil w _ _ a n c n' c' Tryz.underlying40
    cases A0 with
    | none =>
      have e0 : l0 = [] := by
        rcases Nat.eq_zero_or_pos l0.length with h0 | h0
        · exact List.eq_nil_of_length_eq_zero h0
        · obtain ⟨ad, e, _⟩ := hr0.2.2 h0
          cases e
      subst e0
      go_enter Tryz.func197, Tryz.ntmps197
      go_wp2
      go_ret
      exact ⟨_, rfl, Kd.R_nil _ _ _ _ _, Below.refl _ _⟩
    | some a0 =>
      have HR0 := Aside0.mk hr0
      have HC0 := Aside0.mk hc0
      have LM := Aside0.mk c2
      clear hr0 hc0 c2 h
      have HB := Aside0.mk (Below.refl w.heap.size w)
      go_enter Tryz.func197, Tryz.ntmps197
      go_wp2_with (first | ((with_reducible refine gate_dst (N := 5) rfl ?_); refine Kd.R_lit (Kd.int .u64) _ 112 ?hg (N := 5) ?hd (xs := ([] : List Int)) (inner := []) (ok := fun _ => True) (okp := fun _ => True) ?hr ?hp (fun _ hk => hk) trivial (Below.refl _ _) (Nat.le_refl _) (by simp) ?_; (case hd => rfl); (case hg => rfl); (case hr => first | (go_simp; done) | (go_simp; rfl)); (case hp => exact (Reps.none _ _)); intro v312 w3 ho4 hb hg_ hnew_; clear hg_ hnew_; have n0_ := Aside0.mk (Kd.R_lower ho4 (below_size HB.out)); have n1_ := Aside0.mk (below_step HB.out hb); clear HB; have HO313 := n0_; have HB := n1_; clear n0_ n1_; clear hb ho4) | ((with_reducible refine gate_builtin (b := .append) (xs := #[.tmp 5, .tmp 6]) rfl ?_); at_builtin; refine Kd.R_append_rows (Kd.int .u64) (w0 := w) w.heap.size rfl (.tmp 5) (.tmp 6) 40 112 (.int .u64 0) 8 rfl Tryz.underlying40 info112 rfl (by decide) (by omega) v312 [] l0 _ _ _ (fun _ => True) (fun _ => False) rfl rfl ?aO ?aR (fun _ _ h => h) (fun _ h => h.elim) ?aF ?aB ?aS ?aL ?_; (case aR => exact (Kd.C_below HR0.out HB.out)); (case aB => exact HB.out); (case aF => exact (fun _ _ => trivial)); (case aO => exact HO313.out); (case aS => exact (below_size HB.out)); (case aL => have := LM.out; simp; omega); intro v315 w5 ho hb hg hat; have n0_ := Aside0.mk (hb); have n1_ := Aside0.mk (ho); clear HB; clear HO313; have HB := n0_; have HO316 := n1_; clear n0_ n1_; clear ho hb hg hat))
      go_ret
      exact ⟨_, rfl, by simpa using HO316.out, HB.out⟩
  · rw [if_neg c2] at h
    cases h
def limbs_Trim.f (k : Nat) (l0 : List Int) : Option (List Int) := (limbs_trimmed.f k l0).bind fun t122 => ((slices_CloneNat.f t122).bind fun t125 => (some t125))
set_option maxHeartbeats 8000000 in
set_option maxRecDepth 100000 in
theorem limbs_Trim.calls (k : Nat) (A0 : Option Addr) (c0 : Nat) (l0 : List Int) (r : List Int) (w : World) (hr0 : Kd.C (Kd.int .u64) w A0 l0.length l0) (hc0 : l0.length ≤ c0) (h : limbs_Trim.f k l0 = some r) :
    Calls Tryz.prog 138 #[.slice A0 l0.length c0] w fun e w' => ∃ v0_ : Value, e = .returned (v0_) ∧ Kd.R (Kd.int .u64) 112 w' w.heap.size (fun _ => True) v0_ r ∧ Below w.heap.size w w' := by
  have HR0 := Aside0.mk hr0
  have HC0 := Aside0.mk hc0
  clear hr0 hc0
  have HB := Aside0.mk (Below.refl w.heap.size w)
  have H : ((limbs_trimmed.f k l0).bind fun t122 => ((slices_CloneNat.f t122).bind fun t125 => (some t125))) = some r := h
  clear h
  replace H := Option.bind_eq_some_iff.mp H
  obtain ⟨t122, A20, H⟩ := H
  replace H : ((slices_CloneNat.f t122).bind fun t125 => (some t125)) = some r := H
  have A2 := Aside0.mk A20
  clear A20
  replace H := Option.bind_eq_some_iff.mp H
  obtain ⟨t125, A30, H⟩ := H
  replace H : (some t125) = some r := H
  have A3 := Aside0.mk A30
  clear A30
  obtain rfl := Option.some.inj H
  go_enter Tryz.func138, Tryz.ntmps138
  go_wp2_with (first | ((with_reducible refine gate_callee (f := 193) rfl ?_); refine goesL_ (some 4) rfl rfl Tryz.func193 (by kernel_rfl) rfl #[.slice A0 l0.length c0] rfl (by (try simp only [List.map_toArray, List.map_cons, List.map_nil]); first | done | rfl | (simp only [List.length_drop, List.length_take]; rfl)) ?_; (with_reducible refine (limbs_trimmed.calls k (fun k_ => k_ < w.heap.size) _ _ l0 t122 _ ?side1 A2.out).mono ?_); (case side1 => exact Kd.V_mk HC0.out (Kd.F_below (Kd.C_F (Kd.heap_int .u64) HR0.out) (by repeat (first | (with_reducible first | exact HB.out | apply below_alloc | apply pw_below_drewN | apply below_drew1) | exact HB.out)))); rintro e w4 ⟨v123, rfl, ho0, hb⟩; refine ⟨_, rfl, ?_⟩; have n0_ := Aside0.mk (Kd.V_lower (Kd.V_mono (ok' := fun k_ => True) ho0 (fun k_ hk_ => trivial)) (below_size (by repeat (first | (with_reducible first | exact HB.out | apply below_alloc | apply pw_below_drewN | apply below_drew1) | exact HB.out)))); have n1_ := Aside0.mk (below_step (by repeat (first | (with_reducible first | exact HB.out | apply below_alloc | apply pw_below_drewN | apply below_drew1) | exact HB.out)) hb); clear HB; have HO124 := n0_; have HB := n1_; clear n0_ n1_; (try clear hb); (try clear hb2); (try clear hk); (try clear hi); (try clear ho0); obtain ⟨Ao5, co5, eo5⟩ := Kd.V_slice HO124.out; subst eo5) | ((with_reducible refine gate_callee (f := 197) rfl ?_); refine goesL_ (some 5) rfl rfl Tryz.func197 (by kernel_rfl) rfl #[.slice Ao5 t122.length co5] rfl (by (try simp only [List.map_toArray, List.map_cons, List.map_nil]); first | done | rfl | (simp only [List.length_drop, List.length_take]; rfl)) ?_; (with_reducible refine (slices_CloneNat.calls _ _ t122 t125 _ ?side1 ?side2 A3.out).mono ?_); (case side1 => repeat (first | exact (Kd.V_reads' HO124.out).2.2 | (with_reducible refine Kd.C_alloc ?_ _) | (with_reducible refine Kd.C_drewN ?_ _) | (with_reducible refine Kd.C_drew ?_))); (case side2 => exact (Kd.V_reads' HO124.out).2.1); rintro e w6 ⟨v126, rfl, ho0, hb⟩; refine ⟨_, rfl, ?_⟩; have n0_ := Aside0.mk (Kd.V_elder' (by (with_reducible repeat (first | apply Kd.V_alloc | apply Kd.V_drewN | apply Kd.V_drew)); exact HO124.out) (Kd.R_base ho0) hb); have n1_ := Aside0.mk (Kd.R_lower ho0 (below_size (by repeat (first | (with_reducible first | exact HB.out | apply below_alloc | apply pw_below_drewN | apply below_drew1) | exact HB.out)))); have n2_ := Aside0.mk (below_step (by repeat (first | (with_reducible first | exact HB.out | apply below_alloc | apply pw_below_drewN | apply below_drew1) | exact HB.out)) hb); clear HO124; clear HB; have HO124 := n0_; have HO127 := n1_; have HB := n2_; clear n0_ n1_ n2_; (try clear hb); (try clear hb2); (try clear hk); (try clear hi); (try clear ho0)))
  go_ret
  exact ⟨_, by first | rfl | (simp [errW_none, errW_some] <;> rfl) | (simp [*, errW_none, errW_some] <;> rfl), by (with_reducible repeat (first | apply Kd.R_alloc | apply Kd.R_drewN | apply Kd.R_drew)); exact HO127.out, by repeat (first | (with_reducible first | exact HB.out | apply below_alloc | apply pw_below_drewN | apply below_drew1) | exact HB.out)⟩
section
open Go.Shelf
attribute [local go_sem] Oper.semAt_some
def limbs_Cmp.dg (l : List Int) (i : Nat) : Int := l.getD i 0
def limbs_Cmp.pairs (l0 l1 : List Int) : Nat → List (Int × Int)
  | 0 => []
  | m + 1 => (limbs_Cmp.dg l0 m, limbs_Cmp.dg l1 m) :: limbs_Cmp.pairs l0 l1 m
def limbs_Cmp.first : List (Int × Int) → Int
  | [] => 0
  | (x, y) :: r => if x < y then -1 else if y < x then 1 else limbs_Cmp.first r
def limbs_Cmp.f (l0 l1 : List Int) : Option Int := some (limbs_Cmp.first (limbs_Cmp.pairs l0 l1 (max l0.length l1.length)))
theorem limbs_Cmp.digit (A0 : Option Addr) (c0 : Nat) (l0 : List Int) (i : Nat) (w : World) (hr0 : Kd.C (Kd.int .u64) w A0 l0.length l0) (hm : l0.length ≤ 9223372036854775807) :
    Calls Tryz.prog 271 #[.slice A0 l0.length c0, .int .i64 (i : Int)] w fun e w' => e = .returned (.int .u64 (limbs_Cmp.dg l0 i)) ∧ w = w' := by
  by_cases h : i < l0.length
  · obtain ⟨ad, e1, hx⟩ := Kd.at_int hr0 (i : Int) (by omega) (by omega)
    subst e1
    have hx' : w.cell? (ad.add i) = some (.int .u64 (limbs_Cmp.dg l0 i)) := by simpa [rd, limbs_Cmp.dg] using hx
    clear hx
    go_enter Tryz.func271, Tryz.ntmps271
    go_wp2
    go_ret
    exact ⟨rfl, rfl⟩
  · have hd : limbs_Cmp.dg l0 i = 0 := by simp [limbs_Cmp.dg, List.getD_eq_getElem?_getD, List.getElem?_eq_none (by omega : l0.length ≤ i)]
    rw [hd]
    have h' : l0.length ≤ i := by omega
    clear h hd
    go_enter Tryz.func271, Tryz.ntmps271
    go_wp2
    go_ret
    exact ⟨rfl, rfl⟩
theorem limbs_Cmp.down (A0 : Option Addr) (n0 c0 : Nat) (A1 : Option Addr) (n1 c1 : Nat) (w : World) :
    Calls Tryz.prog 237 #[.slice A0 n0 c0, .slice A1 n1 c1] w fun e w' => e = .returned (.func (.func 270) #[] #[.pointer (some ⟨w.heap.size, 0, none⟩), .pointer (some ⟨w.heap.size + 1, 0, none⟩)]) ∧ w' = (w.alloc (.cells #[.slice A0 n0 c0] 40)).alloc (.cells #[.slice A1 n1 c1] 40) := by
  go_enter Tryz.func237, Tryz.ntmps237
  go_wp2
  go_ret
  exact ⟨rfl, rfl⟩
theorem limbs_Cmp.either {e : Ending} {A B : Prop} (h : (e = .returned (.bool true) ∧ A) ∨ (e = .returned (.bool false) ∧ B)) : ∃ b, e = .returned (.bool b) ∧ Aside0 ((b = true ∧ A) ∨ (b = false ∧ B)) := by
  rcases h with ⟨rfl, h⟩ | ⟨rfl, h⟩
  · exact ⟨true, rfl, ⟨.inl ⟨rfl, h⟩⟩⟩
  · exact ⟨false, rfl, ⟨.inr ⟨rfl, h⟩⟩⟩
abbrev limbs_Cmp.encs (p : Int × Int) : Array Value := #[.int .u64 p.1, .int .u64 p.2]
set_option maxRecDepth 100000 in
set_option maxHeartbeats 4000000 in
theorem limbs_Cmp.down1 (l B0 B1 n₀ : Nat) (hb0 : B0 < n₀) (hb1 : B1 < n₀) (A0 : Option Addr) (c0 : Nat) (l0 : List Int) (A1 : Option Addr) (c1 : Nat) (l1 : List Int) (J Jx : List (Int × Int) → World → Prop)
    (W : World) (hJ : AbidesFrom W.heap.size J)
    (hY : ∀ pre x W, J pre W → pre.length < max l0.length l1.length → YieldAt Fence.wide 1 Tryz.prog l (limbs_Cmp.encs x) W fun e W' =>
      (e = .returned (.bool true) ∧ J (pre ++ [x]) W' ∧ Below n₀ W W') ∨ (e = .returned (.bool false) ∧ Jx (pre ++ [x]) W'))
    (hn : n₀ ≤ W.heap.size) (hB0 : W.cell? ⟨B0, 0, none⟩ = some (.slice A0 l0.length c0)) (hB1 : W.cell? ⟨B1, 0, none⟩ = some (.slice A1 l1.length c1))
    (w0 : World) (hr0 : Kd.C (Kd.int .u64) w0 A0 l0.length l0) (hr1 : Kd.C (Kd.int .u64) w0 A1 l1.length l1) (hw0 : w0.heap.size ≤ n₀) (hbw : Below w0.heap.size w0 W)
    (h0 : J [] W) :
    CallsIn Fence.wide 2 Tryz.prog 270 #[.func (.yield l) #[] #[], .pointer (some ⟨B0, 0, none⟩), .pointer (some ⟨B1, 0, none⟩)] W fun e W' => (∃ v, e = .returned v) ∧
      ((∃ ys, ys = limbs_Cmp.pairs l0 l1 (max l0.length l1.length) ∧ J ys W') ∨ (∃ pre, (pre <+: limbs_Cmp.pairs l0 l1 (max l0.length l1.length)) ∧ Jx pre W')) := by
  have hm0 : l0.length ≤ 9223372036854775807 := hr0.2.1
  have hm1 : l1.length ≤ 9223372036854775807 := hr1.2.1
  obtain ⟨m, hmm⟩ : ∃ m, max l0.length l1.length = m := ⟨_, rfl⟩
  have hmx : (if l0.length < l1.length then (l1.length : Int) else (l0.length : Int)) = (m : Int) := by rw [← hmm]; split <;> omega
  refine callsIn_of_wp Tryz.func270 rfl trivial ?_ rfl
  simp only [Tryz.ntmps270, List.size_toArray, List.length_cons, List.length_nil, Nat.reduceAdd, Nat.reduceSub, Array.replicate_succ, Array.replicate_zero, List.push_toArray, List.append_toArray, List.nil_append, List.cons_append]
  have HR0 := Aside0.mk hr0
  have HR1 := Aside0.mk hr1
  have HBW := Aside0.mk hbw
  have HM := Aside0.mk hmm
  gi_wp2
  clear hr0 hr1 hbw hmm hmx
  gi_loopw [4] (fun i wr => ∃ (j : Nat) (pre : List (Int × Int)), j ≤ m ∧ i = .int .i64 ((j : Int) - 1) ∧ pre ++ limbs_Cmp.pairs l0 l1 j = limbs_Cmp.pairs l0 l1 m ∧ pre.length + j = m ∧ J pre wr ∧ Below n₀ W wr ∧ W.heap.size ≤ wr.heap.size) (fun i _ => (intOf i + 1).toNat)
  case atStart => exact ⟨m, [], Nat.le_refl _, rfl, rfl, by simp, h0, Below.refl _ _, Nat.le_refl _⟩
  case round =>
    obtain ⟨j, pre, hj, rfl, hpre, hlen, hJs, hnx, hsz⟩ := hrel
    have hB0' := (hnx.cell (p := ⟨B0, 0, none⟩) hb0).trans hB0
    have hB1' := (hnx.cell (p := ⟨B1, 0, none⟩) hb1).trans hB1
    cases j with
    | zero =>
      have hneg : decide (0 ≤ ((0 : Nat) : Int) - 1) = false := by decide
      have HP := Aside0.mk hpre
      clear hpre hlen
      gi_wp2
      go_end0
      exact ⟨⟨_, rfl⟩, .inl ⟨_, by rw [HM.out, ← HP.out]; simp [limbs_Cmp.pairs], hJs⟩⟩
    | succ i =>
      have hi : ((i + 1 : Nat) : Int) - 1 = (i : Int) := by omega
      rw [hi]
      have hge : decide (0 ≤ (i : Int)) = true := by simp
      have hJd : J pre wr.drew := hJ pre wr wr.drew none hJs ⟨rfl, rfl, rfl, Nat.le_refl _, fun _ _ _ => rfl⟩ (fun r e => by cases e)
      obtain ⟨fn, tmps, assign, body, hy, hR⟩ := hY pre (limbs_Cmp.dg l0 i, limbs_Cmp.dg l1 i) wr.drew hJd (by rw [HM.out]; omega)
      dsimp only [limbs_Cmp.encs] at hy
      have hd0 := limbs_Cmp.digit A0 c0 l0 i wr.drew (Kd.C_below HR0.out (((HBW.out).trans (hnx.mono hw0)).drew)) hm0
      have hd1 := limbs_Cmp.digit A1 c1 l1 i wr.drew (Kd.C_below HR1.out (((HBW.out).trans (hnx.mono hw0)).drew)) hm1
      have HD0 := Aside0.mk hd0
      have HD1 := Aside0.mk hd1
      have HP := Aside0.mk hpre
      have HL := Aside0.mk hlen
      have hib : (i : Int) ≤ 9223372036854775806 := by have := HM.out; omega
      clear hpre hlen hd0 hd1
      gi_wp2
      gi_region_with_o (first | (refine ⟨trivial, ?_⟩; gi_at_call 271; (with_reducible refine (callsIn_wide.2 (HD0.out)).mono ?_); rintro e w' ⟨rfl, rfl⟩) | (refine ⟨trivial, ?_⟩; gi_at_call 271; (with_reducible refine (callsIn_wide.2 (HD1.out)).mono ?_); rintro e w' ⟨rfl, rfl⟩) | ((with_reducible refine hR.mono ?_); rintro e W3 hx3; obtain ⟨b, rfl, HX3⟩ := limbs_Cmp.either hx3))
      all_goals
        rcases HX3.out with ⟨rfl, hJ3, hk3⟩ | ⟨rfl, hJx3⟩
        · gi_wp2
          go_roundw
          case rel => exact ⟨i, _, by omega, rfl, by rw [← HP.out]; simp [limbs_Cmp.pairs], by have := HL.out; simp; omega, hJ3, hnx.trans ((Below.refl _ _).drew.trans hk3), by have := hk3.size; simp at this; omega⟩
          case measure => simp [intOf]
        · gi_wp2
          refine bodyPost_ret (results_none rfl _ _ _) rfl ?_
          exact ⟨⟨_, rfl⟩, .inr ⟨_, by rw [HM.out, ← HP.out]; exact ⟨limbs_Cmp.pairs l0 l1 i, by simp [limbs_Cmp.pairs]⟩, hJx3⟩⟩
theorem limbs_Cmp.stops (B0 B1 : Nat) (A0 : Option Addr) (c0 : Nat) (l0 : List Int) (A1 : Option Addr) (c1 : Nat) (l1 : List Int) (w0 w : World)
    (hb0 : B0 < w.heap.size) (hb1 : B1 < w.heap.size) (hB0 : w.cell? ⟨B0, 0, none⟩ = some (.slice A0 l0.length c0)) (hB1 : w.cell? ⟨B1, 0, none⟩ = some (.slice A1 l1.length c1))
    (hr0 : Kd.C (Kd.int .u64) w0 A0 l0.length l0) (hr1 : Kd.C (Kd.int .u64) w0 A1 l1.length l1) (hbw : Below w0.heap.size w0 w) :
    SeqStopsK Fence.wide 2 Tryz.prog 270 #[.pointer (some ⟨B0, 0, none⟩), .pointer (some ⟨B1, 0, none⟩)] limbs_Cmp.encs (Below w.heap.size) (fun ys => ys = limbs_Cmp.pairs l0 l1 (max l0.length l1.length)) (fun pre => pre <+: limbs_Cmp.pairs l0 l1 (max l0.length l1.length)) (max l0.length l1.length) w := by
  intro l J Jx W hW hJ _ hY h0
  exact limbs_Cmp.down1 l B0 B1 w.heap.size hb0 hb1 A0 c0 l0 A1 c1 l1 J Jx W hJ hY hW.size ((hW.cell (p := ⟨B0, 0, none⟩) hb0).trans hB0) ((hW.cell (p := ⟨B1, 0, none⟩) hb1).trans hB1) w0 hr0 hr1 hbw.size (hbw.trans (hW.mono hbw.size)) h0
def limbs_Cmp.alike (pre : List (Int × Int)) : Prop := ∀ rest, limbs_Cmp.first (pre ++ rest) = limbs_Cmp.first rest
theorem limbs_Cmp.alike_snoc {pre : List (Int × Int)} (h : limbs_Cmp.alike pre) {x : Int × Int} (h1 : x.2 ≤ x.1) (h2 : x.1 ≤ x.2) : limbs_Cmp.alike (pre ++ [x]) := by
  intro rest
  rw [List.append_assoc, h, List.singleton_append]
  obtain ⟨a, b⟩ := x
  dsimp only at h1 h2
  rw [limbs_Cmp.first, if_neg (by omega), if_neg (by omega)]
set_option maxRecDepth 100000 in
set_option maxHeartbeats 4000000 in
theorem limbs_Cmp.calls (A0 : Option Addr) (c0 : Nat) (l0 : List Int) (A1 : Option Addr) (c1 : Nat) (l1 : List Int) (r : Int) (w : World) (hr0 : Kd.C (Kd.int .u64) w A0 l0.length l0) (hc0 : l0.length ≤ c0) (hr1 : Kd.C (Kd.int .u64) w A1 l1.length l1) (hc1 : l1.length ≤ c1) (h : limbs_Cmp.f l0 l1 = some r) :
    Calls Tryz.prog 198 #[.slice A0 l0.length c0, .slice A1 l1.length c1] w fun e w' => e = .returned (.int .i64 r) ∧ Below w.heap.size w w' := by
  obtain rfl := Option.some.inj h
  clear h
  obtain ⟨ps, hps⟩ : ∃ ps, limbs_Cmp.pairs l0 l1 (max l0.length l1.length) = ps := ⟨_, rfl⟩
  rw [hps]
  have HPS := Aside0.mk hps
  have HR0 := Aside0.mk hr0
  have HR1 := Aside0.mk hr1
  clear hps hr0 hr1 hc0 hc1
  refine (callsIn_wide (n := 3)).1 ?_
  refine callsIn_of_wp_marks Tryz.func198 rfl trivial ?_ rfl
  simp only [Tryz.ntmps198, List.size_toArray, List.length_cons, List.length_nil, Nat.reduceAdd, Nat.reduceSub, Array.replicate_succ, Array.replicate_zero, List.push_toArray, List.append_toArray, List.nil_append, List.cons_append]
  gi_wp2_with (refine ⟨trivial, ?_⟩; gi_at_call 237; (with_reducible refine (callsIn_wide.2 (limbs_Cmp.down _ _ _ _ _ _ _)).mono ?_); rintro e w' ⟨rfl, rfl⟩)
  have hs : ∀ (W0 : World), W0 = ((w.alloc (.cells #[.int .i64 0] 3)).alloc (.cells #[.slice A0 l0.length c0] 40)).alloc (.cells #[.slice A1 l1.length c1] 40) → SeqStopsK Fence.wide 2 Tryz.prog 270 #[.pointer (some ⟨w.heap.size + 1, 0, none⟩), .pointer (some ⟨w.heap.size + 1 + 1, 0, none⟩)] limbs_Cmp.encs (Below W0.heap.size) (fun ys => ys = ps) (fun pre => pre <+: ps) (max l0.length l1.length) W0 := by
    intro W0 hW0
    rw [← HPS.out]
    refine limbs_Cmp.stops _ _ A0 c0 l0 A1 c1 l1 w W0 (by rw [hW0]; simp) (by rw [hW0]; simp) (by rw [hW0]; exact q_old _ (q_new (by simp) rfl)) (by rw [hW0]; exact q_new (by simp) rfl) HR0.out HR1.out (by rw [hW0]; exact below_alloc (below_alloc (below_alloc (Below.refl _ _) _) _) _)
  have hcell : (((w.alloc (.cells #[.int .i64 0] 3)).alloc (.cells #[.slice A0 l0.length c0] 40)).alloc (.cells #[.slice A1 l1.length c1] 40)).cell? ⟨w.heap.size, 0, none⟩ = some (.int .i64 0) := q_old _ (q_old _ (q_new rfl rfl))
  have hfz : (((w.alloc (.cells #[.int .i64 0] 3)).alloc (.cells #[.slice A0 l0.length c0] 40)).alloc (.cells #[.slice A1 l1.length c1] 40)).frozen? ⟨w.heap.size, 0, none⟩ = false := q_fold _ (by simp; omega) (q_fold _ (by simp) (q_fnew rfl))
  have hbl : Below w.heap.size w (((w.alloc (.cells #[.int .i64 0] 3)).alloc (.cells #[.slice A0 l0.length c0] 40)).alloc (.cells #[.slice A1 l1.length c1] 40)) := below_alloc (below_alloc (below_alloc (Below.refl _ _) _) _) _
  have hsz : (((w.alloc (.cells #[.int .i64 0] 3)).alloc (.cells #[.slice A0 l0.length c0] 40)).alloc (.cells #[.slice A1 l1.length c1] 40)).heap.size = w.heap.size + 3 := by simp
  generalize ((w.alloc (.cells #[.int .i64 0] 3)).alloc (.cells #[.slice A0 l0.length c0] 40)).alloc (.cells #[.slice A1 l1.length c1] 40) = W0 at *
  have hq := hs W0 rfl
  clear hs
  have HQ := Aside0.mk hq
  clear hq
  refine wpIn_rangeFunc_ownF rfl (by decide) (gf := 270) (lb := #[.pointer (some ⟨w.heap.size + 1, 0, none⟩), .pointer (some ⟨w.heap.size + 1 + 1, 0, none⟩)]) rfl trivial (enters_of Tryz.func270 (by kernel_rfl) rfl) HQ.out belowK_t (belowK_b (Nat.le_refl _)) (Below.refl _ _) (fun _ => rfl)
    (fun pre W => Aside0 (limbs_Cmp.alike pre) ∧ (W.cell? ⟨w.heap.size, 0, none⟩ = some (.int .i64 0) ∧ W.frozen? ⟨w.heap.size, 0, none⟩ = false) ∧ Below w.heap.size w W)
    (fun c pre W => c = .ret ∧ (∃ v, Aside0 (∀ rest, limbs_Cmp.first (pre ++ rest) = v) ∧ W.cell? ⟨w.heap.size, 0, none⟩ = some (.int .i64 v)) ∧ Below w.heap.size w W)
    (fun s A B row hs hg hr => ⟨hs.1, ⟨cell_kept hs.2.1.1 hg (fun r e => (hr r e).2), (frozen_kept hs.2.1.1 hg (fun r e => (hr r e).2)).trans hs.2.1.2⟩, hs.2.2.grown hg hs.2.2.size (fun k e => by have := (hr k e).1; omega)⟩)
    (fun c s A B row hs hg hr => by obtain ⟨hc, ⟨v, hv, hcell⟩, hb⟩ := hs; exact ⟨hc, ⟨v, hv, cell_kept hcell hg (fun r e => (hr r e).2)⟩, hb.grown hg hb.size (fun k e => by have := (hr k e).1; omega)⟩)
    ⟨⟨fun _ => rfl⟩, ⟨hcell, hfz⟩, hbl⟩
    (fun x => { tmps := #[.slice A0 l0.length c0, .slice A1 l1.length c1, undef, undef, .pointer (some ⟨w.heap.size, 0, none⟩), .int .u64 x.1, .int .u64 x.2, .slice A0 l0.length c0, .slice A1 l1.length c1, .func (.func 270) #[] #[.pointer (some ⟨w.heap.size + 1, 0, none⟩), .pointer (some ⟨w.heap.size + 1 + 1, 0, none⟩)], .int .u64 x.1, .int .u64 x.2, undef, undef, undef, undef, undef, undef, undef, undef], defers := [] }) ?assign ?body ?done ?stop
  case assign =>
    intro l x W K hK
    gi_wp2
    exact hK
  case body =>
    rintro l pre x W ⟨hal, ⟨hc, hf⟩, hb⟩ _
    gi_wp2
    · refine ⟨KeepsOthers.setCell _ _ _, rfl, ⟨-1, ⟨fun rest => ?_⟩, World.cell?_setCell_same' _ _ _ (by rw [hc]; rfl)⟩, hb.setCell (p := ⟨w.heap.size, 0, none⟩) (Nat.le_refl _) _⟩
      rw [List.append_assoc, hal.out, List.singleton_append, limbs_Cmp.first]
      exact if_pos (by assumption)
    · refine ⟨KeepsOthers.setCell _ _ _, rfl, ⟨1, ⟨fun rest => ?_⟩, World.cell?_setCell_same' _ _ _ (by rw [hc]; rfl)⟩, hb.setCell (p := ⟨w.heap.size, 0, none⟩) (Nat.le_refl _) _⟩
      rw [List.append_assoc, hal.out, List.singleton_append, limbs_Cmp.first, if_neg (by omega)]
      exact if_pos (by assumption)
    · exact ⟨KeepsOthers.refl _, Below.refl _ _, ⟨limbs_Cmp.alike_snoc hal.out (by assumption) (by assumption)⟩, ⟨hc, hf⟩, hb⟩
  case done =>
    rintro D xs W hD rfl ⟨hal, ⟨hc, hf⟩, hb⟩ hK
    have h0 : limbs_Cmp.first xs = 0 := by
      have := hal.out []
      simpa [limbs_Cmp.first] using this
    have H0 := Aside0.mk h0
    clear h0
    gi_wp2
    have hK' := (KeepsOthers.setCell W ⟨w.heap.size, 0, none⟩ (.int .i64 0)).same D _ hK rfl
    refine ⟨by simp, .inl ⟨_, _, rfl, run_takeDeferred hK', ?_⟩⟩
    have hc5 := cell_kept (World.cell?_setCell_same' W ⟨w.heap.size, 0, none⟩ (.int .i64 0) (by rw [hc]; rfl)) (grownBy_putObj' _ D (.deferred none)) (fun r e => by cases e; exact ⟨_, hK', rfl⟩)
    refine ⟨.int .i64 0, ?_, by rw [H0.out], (hb.setCell (p := ⟨w.heap.size, 0, none⟩) (Nat.le_refl _) _).trans (belowK_b (w := w) (Nat.le_refl _) _ D _ _ (by omega) hK' rfl rfl)⟩
    simp [results, Tryz.f198, go_sem, hc5]
  case stop =>
    rintro D c pre W hD hpre ⟨rfl, ⟨v, hv, hc⟩, hb⟩ hK
    obtain ⟨rest, rfl⟩ := hpre
    have hv' : limbs_Cmp.first (pre ++ rest) = v := hv.out rest
    have HV := Aside0.mk hv'
    clear hv' hv HQ HPS
    gi_wp2
    refine ⟨by simp, .inl ⟨_, _, rfl, run_takeDeferred hK, ?_⟩⟩
    have hc5 := cell_kept hc (grownBy_putObj' _ D (.deferred none)) (fun r e => by cases e; exact ⟨_, hK, rfl⟩)
    refine ⟨.int .i64 v, ?_, by rw [HV.out], hb.trans (belowK_b (w := w) (Nat.le_refl _) _ D _ _ (by omega) hK rfl rfl)⟩
    simp [results, Tryz.f198, go_sem, hc5]
end
def limbs_Of.f (k : Nat) (a0 : Int) : Option (List Int) := (limbs_Trim.f k (([a0] : List Int))).bind fun t136 => (some t136)
set_option maxHeartbeats 8000000 in
set_option maxRecDepth 100000 in
theorem limbs_Of.calls (k : Nat) (a0 : Int) (r : List Int) (w : World) (h : limbs_Of.f k a0 = some r) :
    Calls Tryz.prog 89 #[.int .u64 a0] w fun e w' => ∃ v0_ : Value, e = .returned (v0_) ∧ Kd.R (Kd.int .u64) 112 w' w.heap.size (fun _ => True) v0_ r ∧ Below w.heap.size w w' := by
  have HB := Aside0.mk (Below.refl w.heap.size w)
  have H : ((limbs_Trim.f k (([a0] : List Int))).bind fun t136 => (some t136)) = some r := h
  clear h
  obtain ⟨y133, hy133⟩ : ∃ y_ : List Int, y_ = (([a0] : List Int)) := ⟨_, rfl⟩
  replace H : ((limbs_Trim.f k y133).bind fun t136 => (some t136)) = some r := by first | (rw [hy133]; with_reducible exact H) | (have H2_ := (Option.bind_some _ _).symm.trans H; rw [hy133]; with_reducible exact H2_) | (have H2_ := (Option.bind_some _ _).symm.trans H; with_reducible exact H2_) | with_reducible exact H | (rw [hy133]; exact H) | exact H
  have Ny133 := Aside0.mk hy133
  clear hy133
  replace H := Option.bind_eq_some_iff.mp H
  obtain ⟨t136, A20, H⟩ := H
  replace H : (some t136) = some r := H
  have A2 := Aside0.mk A20
  clear A20
  obtain rfl := Option.some.inj H
  go_enter Tryz.func89, Tryz.ntmps89
  go_wp2_with (first | ((with_reducible refine gate_dst (N := 4) rfl ?_); refine Kd.R_lit (Kd.int .u64) _ 112 ?hg (N := 4) ?hd (xs := ([a0] : List Int)) (inner := [.int .u64 a0]) (ok := fun _ => True) (okp := fun _ => True) ?hr ?hp (fun _ hk => hk) trivial (Below.refl _ _) (Nat.le_refl _) (by simp) ?_; (case hd => rfl); (case hg => rfl); (case hr => first | (go_simp; done) | (go_simp; rfl)); (case hp => exact (Reps.one (show Kd.M (Kd.int .u64) _ _ _ a0 [.int .u64 a0] from rfl) (Reps.none _ _))); intro v134 w3 ho4 hb hg_ hnew_; clear hg_ hnew_; (first | rw [← Ny133.out] at ho4 | (simp only [Int.reduceToNat] at ho4; rw [← Ny133.out] at ho4)); have n0_ := Aside0.mk (Kd.R_lower ho4 (below_size (by repeat (first | (with_reducible first | exact HB.out | apply below_alloc | apply pw_below_drewN | apply below_drew1) | exact HB.out)))); have n1_ := Aside0.mk (below_step (by repeat (first | (with_reducible first | exact HB.out | apply below_alloc | apply pw_below_drewN | apply below_drew1) | exact HB.out)) hb); clear HB; have HO135 := n0_; have HB := n1_; clear n0_ n1_; clear hb ho4; obtain ⟨Ao5, co5, eo5⟩ := Kd.R_slice HO135.out; subst eo5) | ((with_reducible refine gate_callee (f := 138) rfl ?_); refine goesL_ (some 5) rfl rfl Tryz.func138 (by kernel_rfl) rfl #[.slice Ao5 y133.length co5] rfl (by (try simp only [List.map_toArray, List.map_cons, List.map_nil]); first | done | rfl | (simp only [List.length_drop, List.length_take]; rfl)) ?_; (with_reducible refine (limbs_Trim.calls k _ _ y133 t136 _ ?side1 ?side2 A2.out).mono ?_); (case side1 => repeat (first | exact (Kd.R_reads' HO135.out).2.2 | (with_reducible refine Kd.C_alloc ?_ _) | (with_reducible refine Kd.C_drewN ?_ _) | (with_reducible refine Kd.C_drew ?_))); (case side2 => exact (Kd.R_reads' HO135.out).2.1); rintro e w6 ⟨v137, rfl, ho0, hb⟩; refine ⟨_, rfl, ?_⟩; have n0_ := Aside0.mk (Kd.R_elder' (by (with_reducible repeat (first | apply Kd.R_alloc | apply Kd.R_drewN | apply Kd.R_drew)); exact HO135.out) (Kd.R_base ho0) hb); have n1_ := Aside0.mk (Kd.R_lower (Kd.R_new' ho0 (Kd.R_lt (by (with_reducible repeat (first | apply Kd.R_alloc | apply Kd.R_drewN | apply Kd.R_drew)); exact HO135.out))) (below_size (by repeat (first | (with_reducible first | exact HB.out | apply below_alloc | apply pw_below_drewN | apply below_drew1) | exact HB.out)))); have n2_ := Aside0.mk (below_step (by repeat (first | (with_reducible first | exact HB.out | apply below_alloc | apply pw_below_drewN | apply below_drew1) | exact HB.out)) hb); clear HO135; clear HB; have HO135 := n0_; have HO138 := n1_; have HB := n2_; clear n0_ n1_ n2_; (try clear hb); (try clear hb2); (try clear hk); (try clear hi); (try clear ho0)))
  go_ret
  exact ⟨_, by first | rfl | (simp [errW_none, errW_some] <;> rfl) | (simp [*, errW_none, errW_some] <;> rfl), by (with_reducible repeat (first | apply Kd.R_alloc | apply Kd.R_drewN | apply Kd.R_drew)); exact Kd.R_mono HO138.out (fun _ hk => trivial), by repeat (first | (with_reducible first | exact HB.out | apply below_alloc | apply pw_below_drewN | apply below_drew1) | exact HB.out)⟩
def signed_Make.f (k : Nat) (a0 : Bool) (l1 : List Int) : Option (Bool × List Int) := (limbs_Trim.f k l1).bind fun t129 => (if a0 = true then (some (decide (0 < t129.length), t129)) else (some (false, t129)))
set_option maxHeartbeats 8000000 in
set_option maxRecDepth 100000 in
theorem signed_Make.calls (k : Nat) (a0 : Bool) (A1 : Option Addr) (c1 : Nat) (l1 : List Int) (r1 : Bool) (r2 : List Int) (w : World) (hr1 : Kd.C (Kd.int .u64) w A1 l1.length l1) (hc1 : l1.length ≤ c1) (h : signed_Make.f k a0 l1 = some (r1, r2)) :
    Calls Tryz.prog 69 #[.bool a0, .slice A1 l1.length c1] w fun e w' => ∃ v1_ : Value, e = .returned (.agg #[.bool r1, v1_]) ∧ Kd.R (Kd.int .u64) 112 w' w.heap.size (fun _ => True) v1_ r2 ∧ Below w.heap.size w w' := by
  have hu42 := Tryz.underlying42
  have HR1 := Aside0.mk hr1
  have HC1 := Aside0.mk hc1
  clear hr1 hc1
  have HB := Aside0.mk (Below.refl w.heap.size w)
  have H : ((limbs_Trim.f k l1).bind fun t129 => (if a0 = true then (some (decide (0 < t129.length), t129)) else (some (false, t129)))) = some (r1, r2) := h
  clear h
  replace H := Option.bind_eq_some_iff.mp H
  obtain ⟨t129, A30, H⟩ := H
  replace H : (if a0 = true then (some (decide (0 < t129.length), t129)) else (some (false, t129))) = some (r1, r2) := H
  have A3 := Aside0.mk A30
  clear A30
  by_cases c4 : a0 = true
  · subst c4
    have H1 : (some (decide (0 < t129.length), t129)) = some (r1, r2) := by rw [if_pos rfl] at H; exact H
    clear H
    have H := H1
    clear H1
    simp only [Option.some.injEq, Prod.mk.injEq] at H
    obtain ⟨rfl, rfl⟩ := H
    go_enter Tryz.func69, Tryz.ntmps69
    go_wp2_with (first | ((with_reducible refine gate_dst (N := 4) rfl ?_); (try (refine gate_guard (by rfl) ?_; dsimp only)); refine box_event ?hg (N := 4) ?hd (cs := #[.bool false, .slice none 0 0]) (t := 42) ?hr ?_; (case hd => rfl); (case hg => rfl); (case hr => first | (go_simp; done) | (go_simp; rfl)); intro gb128 hg w5 hbox hb; have n0_ := Aside0.mk (below_step (by repeat (first | (with_reducible first | exact HB.out | apply below_alloc | apply pw_below_drewN | apply below_drew1) | exact HB.out)) hb); have n1_ := Aside0.mk (hbox); have n2_ := Aside0.mk ((by rw [hg]; exact (below_size (by repeat (first | (with_reducible first | exact HB.out | apply below_alloc | apply pw_below_drewN | apply below_drew1) | exact HB.out))) : w.heap.size ≤ gb128)); have n3_ := Aside0.mk ((by rw [hg]; exact (below_size (by repeat (first | (with_reducible first | exact HB.out | apply below_alloc | apply pw_below_drewN | apply below_drew1) | exact HB.out))) : w.heap.size ≤ gb128)); clear HB; have HB := n0_; have BK128 := n1_; have GW128 := n2_; have GE128 := n3_; clear n0_ n1_ n2_ n3_; clear hb hbox hg) | ((with_reducible refine gate_callee (f := 138) rfl ?_); refine goesL_ (some 7) rfl rfl Tryz.func138 (by kernel_rfl) rfl #[.slice A1 l1.length c1] rfl (by (try simp only [List.map_toArray, List.map_cons, List.map_nil]); first | done | rfl | (simp only [List.length_drop, List.length_take]; rfl)) ?_; (with_reducible refine (limbs_Trim.calls k _ _ l1 t129 _ ?side1 ?side2 A3.out).mono ?_); (case side1 => repeat (first | exact (Kd.C_below HR1.out HB.out) | (with_reducible refine Kd.C_alloc ?_ _) | (with_reducible refine Kd.C_drewN ?_ _) | (with_reducible refine Kd.C_drew ?_))); (case side2 => exact HC1.out); rintro e w6 ⟨v130, rfl, ho0, hb⟩; refine ⟨_, rfl, ?_⟩; have n0_ := Aside0.mk (Kd.R_lower ho0 (below_size (by repeat (first | (with_reducible first | exact HB.out | apply below_alloc | apply pw_below_drewN | apply below_drew1 | refine below_set ?_ GE128.out) | exact HB.out)))); have n1_ := Aside0.mk (blk_below (g := gb128) (o := .cells #[.bool false, .slice none 0 0] 42 (0, 0)) (by (with_reducible repeat (first | refine blk_drewN ?_ _ | refine blk_drew ?_ | refine blk_alloc ?_ _)); exact BK128.out) hb); have n2_ := Aside0.mk (below_step (by repeat (first | (with_reducible first | exact HB.out | apply below_alloc | apply pw_below_drewN | apply below_drew1 | refine below_set ?_ GE128.out) | exact HB.out)) hb); clear BK128; clear HB; have HO131 := n0_; have BK128 := n1_; have HB := n2_; clear n0_ n1_ n2_; (try clear hb); (try clear hb2); (try clear hk); (try clear hi); (try clear ho0); obtain ⟨Ao7, co7, eo7⟩ := Kd.R_slice HO131.out; subst eo7) | ((with_reducible refine gate_dst (N := 5) rfl ?_); (try (refine gate_guard (by rfl) ?_; dsimp only)); refine box_event ?hg (N := 5) ?hd (cs := #[.bool false, .slice none 0 0]) (t := 42) ?hr ?_; (case hd => rfl); (case hg => rfl); (case hr => first | (go_simp; done) | (go_simp; rfl)); intro gb132 hg w8 hbox hb; have n0_ := Aside0.mk (Kd.R_below (by (with_reducible repeat (first | apply Kd.R_alloc | apply Kd.R_drewN | apply Kd.R_drew)); exact HO131.out) hb); have n1_ := Aside0.mk (blk_below (g := gb128) (o := .cells #[.bool false, .slice none 0 0] 42 (0, 0)) (by (with_reducible repeat (first | refine blk_drewN ?_ _ | refine blk_drew ?_ | refine blk_alloc ?_ _)); exact BK128.out) hb); have n2_ := Aside0.mk (below_step (by repeat (first | (with_reducible first | exact HB.out | apply below_alloc | apply pw_below_drewN | apply below_drew1 | refine below_set ?_ GE128.out) | exact HB.out)) hb); have n3_ := Aside0.mk (hbox); have n4_ := Aside0.mk ((by rw [hg]; exact (below_size (by repeat (first | (with_reducible first | exact HB.out | apply below_alloc | apply pw_below_drewN | apply below_drew1 | refine below_set ?_ GE128.out) | exact HB.out))) : w.heap.size ≤ gb132)); have n5_ := Aside0.mk ((by rw [hg]; exact (below_size (by repeat (first | (with_reducible first | exact HB.out | apply below_alloc | apply pw_below_drewN | apply below_drew1 | refine below_set ?_ GE128.out) | exact HB.out))) : w.heap.size ≤ gb132)); have n6_ := Aside0.mk ((by rw [hg]; exact Nat.ne_of_lt (blk_lt (g := gb128) (o := .cells #[.bool false, .slice none 0 0] 42 (0, 0)) (by (with_reducible repeat (first | refine blk_drewN ?_ _ | refine blk_drew ?_ | refine blk_alloc ?_ _)); exact BK128.out)) : gb128 ≠ gb132)); have n7_ := Aside0.mk ((by rw [hg]; exact Nat.ne_of_gt (blk_lt (g := gb128) (o := .cells #[.bool false, .slice none 0 0] 42 (0, 0)) (by (with_reducible repeat (first | refine blk_drewN ?_ _ | refine blk_drew ?_ | refine blk_alloc ?_ _)); exact BK128.out)) : gb132 ≠ gb128)); clear HO131; clear BK128; clear HB; have HO131 := n0_; have BK128 := n1_; have HB := n2_; have BK132 := n3_; have GW132 := n4_; have GE132 := n5_; have NB128_132 := n6_; have NB132_128 := n7_; clear n0_ n1_ n2_ n3_ n4_ n5_ n6_ n7_; clear hb hbox hg; have hnb9 := NB132_128.out; have hnc9 := NB128_132.out; have hcz10_0 : w8.cell? ⟨gb132, 0, none⟩ = some (.bool false) := (blk_cell BK132.out 0).trans rfl; have hcz10_1 : w8.cell? ⟨gb132, 1, none⟩ = some (.slice none 0 0) := (blk_cell BK132.out 1).trans rfl; have hfz10_0 := blk_frozen BK132.out 0; have hfz10_1 := blk_frozen BK132.out 1; have hcz11_0 : w8.cell? ⟨gb128, 0, none⟩ = some (.bool false) := (blk_cell BK128.out 0).trans rfl; have hcz11_1 : w8.cell? ⟨gb128, 1, none⟩ = some (.slice none 0 0) := (blk_cell BK128.out 1).trans rfl; have hfz11_0 := blk_frozen BK128.out 0; have hfz11_1 := blk_frozen BK128.out 1))
    refine bodyPost_ret (results_cell_row rfl _ _ gb128 42 #[.bool (decide (0 < t129.length)), .slice Ao7 t129.length co7] (0, 0) _ rfl (by (with_reducible repeat (first | refine blk_drewN ?_ _ | refine blk_drew ?_ | refine blk_alloc ?_ _)); refine blk_put (cs := #[.bool (decide (0 < t129.length)), .slice none 0 0]) ?_ 1 _ rfl; (with_reducible repeat (first | refine blk_drewN ?_ _ | refine blk_drew ?_ | refine blk_alloc ?_ _)); refine blk_put (cs := #[.bool false, .slice none 0 0]) ?_ 0 _ rfl; (with_reducible repeat (first | refine blk_drewN ?_ _ | refine blk_drew ?_ | refine blk_alloc ?_ _)); refine blk_far ?_ NB128_132.out _; (with_reducible repeat (first | refine blk_drewN ?_ _ | refine blk_drew ?_ | refine blk_alloc ?_ _)); refine blk_far ?_ NB128_132.out _; (with_reducible repeat (first | refine blk_drewN ?_ _ | refine blk_drew ?_ | refine blk_alloc ?_ _)); refine blk_far ?_ NB128_132.out _; (with_reducible repeat (first | refine blk_drewN ?_ _ | refine blk_drew ?_ | refine blk_alloc ?_ _)); exact BK128.out) Tryz.underlying42 rfl (by kernel_rfl)) rfl ?_
    exact ⟨_, by first | rfl | (simp [errW_none, errW_some] <;> rfl) | (simp [*, errW_none, errW_some] <;> rfl), by (with_reducible repeat (first | apply Kd.R_alloc | apply Kd.R_drewN | apply Kd.R_drew)); exact Kd.R_mono (Kd.R_far (p := ⟨gb128, 1, none⟩) (Kd.R_far (p := ⟨gb128, 0, none⟩) (Kd.R_far (p := ⟨gb132, 0, none⟩) (Kd.R_far (p := ⟨gb132, 1, none⟩) (Kd.R_far (p := ⟨gb132, 0, none⟩) (Kd.R_types (Kd.R_types HO131.out BK132.out (by decide)) BK128.out (by decide)) (fun _ hk => hk.1.2) (.bool false)) (fun _ hk => hk.1.2) (.slice Ao7 t129.length co7)) (fun _ hk => hk.1.2) (.bool (decide (0 < t129.length)))) (fun _ hk => hk.2) (.bool (decide (0 < t129.length)))) (fun _ hk => hk.2) (.slice Ao7 t129.length co7)) (fun _ hk => trivial), by repeat (first | (with_reducible first | exact HB.out | apply below_alloc | apply pw_below_drewN | apply below_drew1 | refine below_set ?_ GE128.out | refine below_set ?_ GE132.out) | exact HB.out)⟩
  · replace c4 := Bool.eq_false_iff.mpr c4
    subst c4
    have H1 : (some (false, t129)) = some (r1, r2) := by rw [if_neg (show ¬ (false = true) by decide)] at H; exact H
    clear H
    have H := H1
    clear H1
    simp only [Option.some.injEq, Prod.mk.injEq] at H
    obtain ⟨rfl, rfl⟩ := H
    go_enter Tryz.func69, Tryz.ntmps69
    go_wp2_with (first | ((with_reducible refine gate_dst (N := 4) rfl ?_); (try (refine gate_guard (by rfl) ?_; dsimp only)); refine box_event ?hg (N := 4) ?hd (cs := #[.bool false, .slice none 0 0]) (t := 42) ?hr ?_; (case hd => rfl); (case hg => rfl); (case hr => first | (go_simp; done) | (go_simp; rfl)); intro gb128 hg w12 hbox hb; have n0_ := Aside0.mk (below_step (by repeat (first | (with_reducible first | exact HB.out | apply below_alloc | apply pw_below_drewN | apply below_drew1) | exact HB.out)) hb); have n1_ := Aside0.mk (hbox); have n2_ := Aside0.mk ((by rw [hg]; exact (below_size (by repeat (first | (with_reducible first | exact HB.out | apply below_alloc | apply pw_below_drewN | apply below_drew1) | exact HB.out))) : w.heap.size ≤ gb128)); have n3_ := Aside0.mk ((by rw [hg]; exact (below_size (by repeat (first | (with_reducible first | exact HB.out | apply below_alloc | apply pw_below_drewN | apply below_drew1) | exact HB.out))) : w.heap.size ≤ gb128)); clear HB; have HB := n0_; have BK128 := n1_; have GW128 := n2_; have GE128 := n3_; clear n0_ n1_ n2_ n3_; clear hb hbox hg) | ((with_reducible refine gate_callee (f := 138) rfl ?_); refine goesL_ (some 7) rfl rfl Tryz.func138 (by kernel_rfl) rfl #[.slice A1 l1.length c1] rfl (by (try simp only [List.map_toArray, List.map_cons, List.map_nil]); first | done | rfl | (simp only [List.length_drop, List.length_take]; rfl)) ?_; (with_reducible refine (limbs_Trim.calls k _ _ l1 t129 _ ?side1 ?side2 A3.out).mono ?_); (case side1 => repeat (first | exact (Kd.C_below HR1.out HB.out) | (with_reducible refine Kd.C_alloc ?_ _) | (with_reducible refine Kd.C_drewN ?_ _) | (with_reducible refine Kd.C_drew ?_))); (case side2 => exact HC1.out); rintro e w13 ⟨v130, rfl, ho0, hb⟩; refine ⟨_, rfl, ?_⟩; have n0_ := Aside0.mk (Kd.R_lower ho0 (below_size (by repeat (first | (with_reducible first | exact HB.out | apply below_alloc | apply pw_below_drewN | apply below_drew1 | refine below_set ?_ GE128.out) | exact HB.out)))); have n1_ := Aside0.mk (blk_below (g := gb128) (o := .cells #[.bool false, .slice none 0 0] 42 (0, 0)) (by (with_reducible repeat (first | refine blk_drewN ?_ _ | refine blk_drew ?_ | refine blk_alloc ?_ _)); exact BK128.out) hb); have n2_ := Aside0.mk (below_step (by repeat (first | (with_reducible first | exact HB.out | apply below_alloc | apply pw_below_drewN | apply below_drew1 | refine below_set ?_ GE128.out) | exact HB.out)) hb); clear BK128; clear HB; have HO131 := n0_; have BK128 := n1_; have HB := n2_; clear n0_ n1_ n2_; (try clear hb); (try clear hb2); (try clear hk); (try clear hi); (try clear ho0); obtain ⟨Ao14, co14, eo14⟩ := Kd.R_slice HO131.out; subst eo14) | ((with_reducible refine gate_dst (N := 5) rfl ?_); (try (refine gate_guard (by rfl) ?_; dsimp only)); refine box_event ?hg (N := 5) ?hd (cs := #[.bool false, .slice none 0 0]) (t := 42) ?hr ?_; (case hd => rfl); (case hg => rfl); (case hr => first | (go_simp; done) | (go_simp; rfl)); intro gb132 hg w15 hbox hb; have n0_ := Aside0.mk (Kd.R_below (by (with_reducible repeat (first | apply Kd.R_alloc | apply Kd.R_drewN | apply Kd.R_drew)); exact HO131.out) hb); have n1_ := Aside0.mk (blk_below (g := gb128) (o := .cells #[.bool false, .slice none 0 0] 42 (0, 0)) (by (with_reducible repeat (first | refine blk_drewN ?_ _ | refine blk_drew ?_ | refine blk_alloc ?_ _)); exact BK128.out) hb); have n2_ := Aside0.mk (below_step (by repeat (first | (with_reducible first | exact HB.out | apply below_alloc | apply pw_below_drewN | apply below_drew1 | refine below_set ?_ GE128.out) | exact HB.out)) hb); have n3_ := Aside0.mk (hbox); have n4_ := Aside0.mk ((by rw [hg]; exact (below_size (by repeat (first | (with_reducible first | exact HB.out | apply below_alloc | apply pw_below_drewN | apply below_drew1 | refine below_set ?_ GE128.out) | exact HB.out))) : w.heap.size ≤ gb132)); have n5_ := Aside0.mk ((by rw [hg]; exact (below_size (by repeat (first | (with_reducible first | exact HB.out | apply below_alloc | apply pw_below_drewN | apply below_drew1 | refine below_set ?_ GE128.out) | exact HB.out))) : w.heap.size ≤ gb132)); have n6_ := Aside0.mk ((by rw [hg]; exact Nat.ne_of_lt (blk_lt (g := gb128) (o := .cells #[.bool false, .slice none 0 0] 42 (0, 0)) (by (with_reducible repeat (first | refine blk_drewN ?_ _ | refine blk_drew ?_ | refine blk_alloc ?_ _)); exact BK128.out)) : gb128 ≠ gb132)); have n7_ := Aside0.mk ((by rw [hg]; exact Nat.ne_of_gt (blk_lt (g := gb128) (o := .cells #[.bool false, .slice none 0 0] 42 (0, 0)) (by (with_reducible repeat (first | refine blk_drewN ?_ _ | refine blk_drew ?_ | refine blk_alloc ?_ _)); exact BK128.out)) : gb132 ≠ gb128)); clear HO131; clear BK128; clear HB; have HO131 := n0_; have BK128 := n1_; have HB := n2_; have BK132 := n3_; have GW132 := n4_; have GE132 := n5_; have NB128_132 := n6_; have NB132_128 := n7_; clear n0_ n1_ n2_ n3_ n4_ n5_ n6_ n7_; clear hb hbox hg; have hnb16 := NB132_128.out; have hnc16 := NB128_132.out; have hcz17_0 : w15.cell? ⟨gb132, 0, none⟩ = some (.bool false) := (blk_cell BK132.out 0).trans rfl; have hcz17_1 : w15.cell? ⟨gb132, 1, none⟩ = some (.slice none 0 0) := (blk_cell BK132.out 1).trans rfl; have hfz17_0 := blk_frozen BK132.out 0; have hfz17_1 := blk_frozen BK132.out 1; have hcz18_0 : w15.cell? ⟨gb128, 0, none⟩ = some (.bool false) := (blk_cell BK128.out 0).trans rfl; have hcz18_1 : w15.cell? ⟨gb128, 1, none⟩ = some (.slice none 0 0) := (blk_cell BK128.out 1).trans rfl; have hfz18_0 := blk_frozen BK128.out 0; have hfz18_1 := blk_frozen BK128.out 1))
    refine bodyPost_ret (results_cell_row rfl _ _ gb128 42 #[.bool false, .slice Ao14 t129.length co14] (0, 0) _ rfl (by (with_reducible repeat (first | refine blk_drewN ?_ _ | refine blk_drew ?_ | refine blk_alloc ?_ _)); refine blk_put (cs := #[.bool false, .slice none 0 0]) ?_ 1 _ rfl; (with_reducible repeat (first | refine blk_drewN ?_ _ | refine blk_drew ?_ | refine blk_alloc ?_ _)); refine blk_put (cs := #[.bool false, .slice none 0 0]) ?_ 0 _ rfl; (with_reducible repeat (first | refine blk_drewN ?_ _ | refine blk_drew ?_ | refine blk_alloc ?_ _)); refine blk_far ?_ NB128_132.out _; (with_reducible repeat (first | refine blk_drewN ?_ _ | refine blk_drew ?_ | refine blk_alloc ?_ _)); refine blk_far ?_ NB128_132.out _; (with_reducible repeat (first | refine blk_drewN ?_ _ | refine blk_drew ?_ | refine blk_alloc ?_ _)); refine blk_far ?_ NB128_132.out _; (with_reducible repeat (first | refine blk_drewN ?_ _ | refine blk_drew ?_ | refine blk_alloc ?_ _)); exact BK128.out) Tryz.underlying42 rfl (by kernel_rfl)) rfl ?_
    exact ⟨_, by first | rfl | (simp [errW_none, errW_some] <;> rfl) | (simp [*, errW_none, errW_some] <;> rfl), by (with_reducible repeat (first | apply Kd.R_alloc | apply Kd.R_drewN | apply Kd.R_drew)); exact Kd.R_mono (Kd.R_far (p := ⟨gb128, 1, none⟩) (Kd.R_far (p := ⟨gb128, 0, none⟩) (Kd.R_far (p := ⟨gb132, 0, none⟩) (Kd.R_far (p := ⟨gb132, 1, none⟩) (Kd.R_far (p := ⟨gb132, 0, none⟩) (Kd.R_types (Kd.R_types HO131.out BK132.out (by decide)) BK128.out (by decide)) (fun _ hk => hk.1.2) (.bool false)) (fun _ hk => hk.1.2) (.slice Ao14 t129.length co14)) (fun _ hk => hk.1.2) (.bool false)) (fun _ hk => hk.2) (.bool false)) (fun _ hk => hk.2) (.slice Ao14 t129.length co14)) (fun _ hk => trivial), by repeat (first | (with_reducible first | exact HB.out | apply below_alloc | apply pw_below_drewN | apply below_drew1 | refine below_set ?_ GE128.out | refine below_set ?_ GE132.out) | exact HB.out)⟩
def signed_Of.f (k : Nat) (a0 : Int) : Option (Bool × List Int) := if a0 < 0 then ((limbs_Of.f k (IntKind.u64.wrap (-(IntKind.u64.wrap (a0))))).bind fun t330 => ((signed_Make.f k true t330).bind fun bt333 => (some (bt333.1, bt333.2)))) else ((limbs_Of.f k (IntKind.u64.wrap (a0))).bind fun t337 => ((signed_Make.f k false t337).bind fun bt340 => (some (bt340.1, bt340.2))))
set_option maxHeartbeats 8000000 in
set_option maxRecDepth 100000 in
theorem signed_Of.calls (k : Nat) (a0 : Int) (r1 : Bool) (r2 : List Int) (w : World) (h : signed_Of.f k a0 = some (r1, r2)) :
    Calls Tryz.prog 67 #[.int .i64 a0] w fun e w' => ∃ v1_ : Value, e = .returned (.agg #[.bool r1, v1_]) ∧ Kd.R (Kd.int .u64) 112 w' w.heap.size (fun _ => True) v1_ r2 ∧ Below w.heap.size w w' := by
  have hu42 := Tryz.underlying42
  have HB := Aside0.mk (Below.refl w.heap.size w)
  have H : (if a0 < 0 then ((limbs_Of.f k (IntKind.u64.wrap (-(IntKind.u64.wrap (a0))))).bind fun t330 => ((signed_Make.f k true t330).bind fun bt333 => (some (bt333.1, bt333.2)))) else ((limbs_Of.f k (IntKind.u64.wrap (a0))).bind fun t337 => ((signed_Make.f k false t337).bind fun bt340 => (some (bt340.1, bt340.2))))) = some (r1, r2) := h
  clear h
  by_cases c2 : a0 < 0
  · rw [if_pos c2] at H
    have c2b0 : decide (a0 < 0) = true := decide_eq_true c2
    clear c2
    replace H := Option.bind_eq_some_iff.mp H
    obtain ⟨t330, A30, H⟩ := H
    replace H : ((signed_Make.f k true t330).bind fun bt333 => (some (bt333.1, bt333.2))) = some (r1, r2) := H
    have A3 := Aside0.mk A30
    clear A30
    replace H := Option.bind_eq_some_iff.mp H
    obtain ⟨⟨t333, t334⟩, A40, H⟩ := H
    replace H : (some (t333, t334)) = some (r1, r2) := H
    have A4 := Aside0.mk A40
    clear A40
    simp only [Option.some.injEq, Prod.mk.injEq] at H
    obtain ⟨rfl, rfl⟩ := H
    go_enter Tryz.func67, Tryz.ntmps67
    go_wp2_with (first | ((with_reducible refine gate_dst (N := 2) rfl ?_); refine box_event ?hg (N := 2) ?hd (cs := #[.bool false, .slice none 0 0]) (t := 42) ?hr ?_; (case hd => rfl); (case hg => rfl); (case hr => first | (go_simp; done) | (go_simp; rfl)); intro gb329 hg w5 hbox hb; have n0_ := Aside0.mk (below_step (by repeat (first | (with_reducible first | exact HB.out | apply below_alloc | apply pw_below_drewN | apply below_drew1) | exact HB.out)) hb); have n1_ := Aside0.mk (hbox); have n2_ := Aside0.mk ((by rw [hg]; exact (below_size (by repeat (first | (with_reducible first | exact HB.out | apply below_alloc | apply pw_below_drewN | apply below_drew1) | exact HB.out))) : w.heap.size ≤ gb329)); have n3_ := Aside0.mk ((by rw [hg]; exact (below_size (by repeat (first | (with_reducible first | exact HB.out | apply below_alloc | apply pw_below_drewN | apply below_drew1) | exact HB.out))) : w.heap.size ≤ gb329)); clear HB; have HB := n0_; have BK329 := n1_; have GW329 := n2_; have GE329 := n3_; clear n0_ n1_ n2_ n3_; clear hb hbox hg) | ((with_reducible refine gate_callee (f := 89) rfl ?_); refine goesL_ (some 8) rfl rfl Tryz.func89 (by kernel_rfl) rfl #[.int .u64 (IntKind.u64.wrap (-(IntKind.u64.wrap (a0))))] rfl (by (try simp only [List.map_toArray, List.map_cons, List.map_nil]); first | done | rfl | (simp only [List.length_drop, List.length_take]; rfl)) ?_; (with_reducible refine (limbs_Of.calls k (IntKind.u64.wrap (-(IntKind.u64.wrap (a0)))) t330 _ A3.out).mono ?_); rintro e w6 ⟨v331, rfl, ho0, hb⟩; refine ⟨_, rfl, ?_⟩; have n0_ := Aside0.mk (Kd.R_lower ho0 (below_size (by repeat (first | (with_reducible first | exact HB.out | apply below_alloc | apply pw_below_drewN | apply below_drew1 | refine below_set ?_ GE329.out) | exact HB.out)))); have n1_ := Aside0.mk (blk_below (g := gb329) (o := .cells #[.bool false, .slice none 0 0] 42 (0, 0)) (by (with_reducible repeat (first | refine blk_drewN ?_ _ | refine blk_drew ?_ | refine blk_alloc ?_ _)); exact BK329.out) hb); have n2_ := Aside0.mk (below_step (by repeat (first | (with_reducible first | exact HB.out | apply below_alloc | apply pw_below_drewN | apply below_drew1 | refine below_set ?_ GE329.out) | exact HB.out)) hb); clear BK329; clear HB; have HO332 := n0_; have BK329 := n1_; have HB := n2_; clear n0_ n1_ n2_; (try clear hb); (try clear hb2); (try clear hk); (try clear hi); (try clear ho0); obtain ⟨Ao7, co7, eo7⟩ := Kd.R_slice HO332.out; subst eo7) | ((with_reducible refine gate_callee (f := 69) rfl ?_); refine goesL_ (some 9) rfl rfl Tryz.func69 (by kernel_rfl) rfl #[.bool true, .slice Ao7 t330.length co7] rfl (by (try simp only [List.map_toArray, List.map_cons, List.map_nil]); first | done | rfl | (simp only [List.length_drop, List.length_take]; rfl)) ?_; (with_reducible refine (signed_Make.calls k true _ _ t330 t333 t334 _ ?side1 ?side2 A4.out).mono ?_); (case side1 => repeat (first | exact (Kd.R_reads' HO332.out).2.2 | (with_reducible refine Kd.C_alloc ?_ _) | (with_reducible refine Kd.C_drewN ?_ _) | (with_reducible refine Kd.C_drew ?_))); (case side2 => exact (Kd.R_reads' HO332.out).2.1); rintro e w8 ⟨v335, rfl, ho0, hb⟩; refine ⟨_, rfl, ?_⟩; have n0_ := Aside0.mk (Kd.R_elder' (by (with_reducible repeat (first | apply Kd.R_alloc | apply Kd.R_drewN | apply Kd.R_drew)); exact HO332.out) (Kd.R_base ho0) hb); have n1_ := Aside0.mk (Kd.R_lower (Kd.R_new' ho0 (Kd.R_lt (by (with_reducible repeat (first | apply Kd.R_alloc | apply Kd.R_drewN | apply Kd.R_drew)); exact HO332.out))) (below_size (by repeat (first | (with_reducible first | exact HB.out | apply below_alloc | apply pw_below_drewN | apply below_drew1 | refine below_set ?_ GE329.out) | exact HB.out)))); have n2_ := Aside0.mk (blk_below (g := gb329) (o := .cells #[.bool false, .slice none 0 0] 42 (0, 0)) (by (with_reducible repeat (first | refine blk_drewN ?_ _ | refine blk_drew ?_ | refine blk_alloc ?_ _)); exact BK329.out) hb); have n3_ := Aside0.mk (below_step (by repeat (first | (with_reducible first | exact HB.out | apply below_alloc | apply pw_below_drewN | apply below_drew1 | refine below_set ?_ GE329.out) | exact HB.out)) hb); clear HO332; clear BK329; clear HB; have HO332 := n0_; have HO336 := n1_; have BK329 := n2_; have HB := n3_; clear n0_ n1_ n2_ n3_; (try clear hb); (try clear hb2); (try clear hk); (try clear hi); (try clear ho0); have hcz9_0 : w8.cell? ⟨gb329, 0, none⟩ = some (.bool false) := (blk_cell BK329.out 0).trans rfl; have hcz9_1 : w8.cell? ⟨gb329, 1, none⟩ = some (.slice none 0 0) := (blk_cell BK329.out 1).trans rfl; have hfz9_0 := blk_frozen BK329.out 0; have hfz9_1 := blk_frozen BK329.out 1; obtain ⟨Ao10, co10, eo10⟩ := Kd.R_slice HO336.out; subst eo10))
    refine bodyPost_ret (results_cell_row rfl _ _ gb329 42 #[.bool t333, .slice Ao10 t334.length co10] (0, 0) _ rfl (by (with_reducible repeat (first | refine blk_drewN ?_ _ | refine blk_drew ?_ | refine blk_alloc ?_ _)); refine blk_put (cs := #[.bool t333, .slice none 0 0]) ?_ 1 _ rfl; (with_reducible repeat (first | refine blk_drewN ?_ _ | refine blk_drew ?_ | refine blk_alloc ?_ _)); refine blk_put (cs := #[.bool false, .slice none 0 0]) ?_ 0 _ rfl; (with_reducible repeat (first | refine blk_drewN ?_ _ | refine blk_drew ?_ | refine blk_alloc ?_ _)); exact BK329.out) Tryz.underlying42 rfl (by kernel_rfl)) rfl ?_
    exact ⟨_, by first | rfl | (simp [errW_none, errW_some] <;> rfl) | (simp [*, errW_none, errW_some] <;> rfl), by (with_reducible repeat (first | apply Kd.R_alloc | apply Kd.R_drewN | apply Kd.R_drew)); exact Kd.R_mono (Kd.R_far (p := ⟨gb329, 1, none⟩) (Kd.R_far (p := ⟨gb329, 0, none⟩) (Kd.R_types HO336.out BK329.out (by decide)) (fun _ hk => hk.2) (.bool t333)) (fun _ hk => hk.2) (.slice Ao10 t334.length co10)) (fun _ hk => trivial), by repeat (first | (with_reducible first | exact HB.out | apply below_alloc | apply pw_below_drewN | apply below_drew1 | refine below_set ?_ GE329.out) | exact HB.out)⟩
  · rw [if_neg c2] at H
    have c2b0 : decide (a0 < 0) = false := decide_eq_false c2
    clear c2
    replace H := Option.bind_eq_some_iff.mp H
    obtain ⟨t337, A110, H⟩ := H
    replace H : ((signed_Make.f k false t337).bind fun bt340 => (some (bt340.1, bt340.2))) = some (r1, r2) := H
    have A11 := Aside0.mk A110
    clear A110
    replace H := Option.bind_eq_some_iff.mp H
    obtain ⟨⟨t340, t341⟩, A120, H⟩ := H
    replace H : (some (t340, t341)) = some (r1, r2) := H
    have A12 := Aside0.mk A120
    clear A120
    simp only [Option.some.injEq, Prod.mk.injEq] at H
    obtain ⟨rfl, rfl⟩ := H
    go_enter Tryz.func67, Tryz.ntmps67
    go_wp2_with (first | ((with_reducible refine gate_dst (N := 2) rfl ?_); refine box_event ?hg (N := 2) ?hd (cs := #[.bool false, .slice none 0 0]) (t := 42) ?hr ?_; (case hd => rfl); (case hg => rfl); (case hr => first | (go_simp; done) | (go_simp; rfl)); intro gb329 hg w13 hbox hb; have n0_ := Aside0.mk (below_step (by repeat (first | (with_reducible first | exact HB.out | apply below_alloc | apply pw_below_drewN | apply below_drew1) | exact HB.out)) hb); have n1_ := Aside0.mk (hbox); have n2_ := Aside0.mk ((by rw [hg]; exact (below_size (by repeat (first | (with_reducible first | exact HB.out | apply below_alloc | apply pw_below_drewN | apply below_drew1) | exact HB.out))) : w.heap.size ≤ gb329)); have n3_ := Aside0.mk ((by rw [hg]; exact (below_size (by repeat (first | (with_reducible first | exact HB.out | apply below_alloc | apply pw_below_drewN | apply below_drew1) | exact HB.out))) : w.heap.size ≤ gb329)); clear HB; have HB := n0_; have BK329 := n1_; have GW329 := n2_; have GE329 := n3_; clear n0_ n1_ n2_ n3_; clear hb hbox hg) | ((with_reducible refine gate_callee (f := 89) rfl ?_); refine goesL_ (some 12) rfl rfl Tryz.func89 (by kernel_rfl) rfl #[.int .u64 (IntKind.u64.wrap (a0))] rfl (by (try simp only [List.map_toArray, List.map_cons, List.map_nil]); first | done | rfl | (simp only [List.length_drop, List.length_take]; rfl)) ?_; (with_reducible refine (limbs_Of.calls k (IntKind.u64.wrap (a0)) t337 _ A11.out).mono ?_); rintro e w14 ⟨v338, rfl, ho0, hb⟩; refine ⟨_, rfl, ?_⟩; have n0_ := Aside0.mk (Kd.R_lower ho0 (below_size (by repeat (first | (with_reducible first | exact HB.out | apply below_alloc | apply pw_below_drewN | apply below_drew1 | refine below_set ?_ GE329.out) | exact HB.out)))); have n1_ := Aside0.mk (blk_below (g := gb329) (o := .cells #[.bool false, .slice none 0 0] 42 (0, 0)) (by (with_reducible repeat (first | refine blk_drewN ?_ _ | refine blk_drew ?_ | refine blk_alloc ?_ _)); exact BK329.out) hb); have n2_ := Aside0.mk (below_step (by repeat (first | (with_reducible first | exact HB.out | apply below_alloc | apply pw_below_drewN | apply below_drew1 | refine below_set ?_ GE329.out) | exact HB.out)) hb); clear BK329; clear HB; have HO339 := n0_; have BK329 := n1_; have HB := n2_; clear n0_ n1_ n2_; (try clear hb); (try clear hb2); (try clear hk); (try clear hi); (try clear ho0); obtain ⟨Ao15, co15, eo15⟩ := Kd.R_slice HO339.out; subst eo15) | ((with_reducible refine gate_callee (f := 69) rfl ?_); refine goesL_ (some 13) rfl rfl Tryz.func69 (by kernel_rfl) rfl #[.bool false, .slice Ao15 t337.length co15] rfl (by (try simp only [List.map_toArray, List.map_cons, List.map_nil]); first | done | rfl | (simp only [List.length_drop, List.length_take]; rfl)) ?_; (with_reducible refine (signed_Make.calls k false _ _ t337 t340 t341 _ ?side1 ?side2 A12.out).mono ?_); (case side1 => repeat (first | exact (Kd.R_reads' HO339.out).2.2 | (with_reducible refine Kd.C_alloc ?_ _) | (with_reducible refine Kd.C_drewN ?_ _) | (with_reducible refine Kd.C_drew ?_))); (case side2 => exact (Kd.R_reads' HO339.out).2.1); rintro e w16 ⟨v342, rfl, ho0, hb⟩; refine ⟨_, rfl, ?_⟩; have n0_ := Aside0.mk (Kd.R_elder' (by (with_reducible repeat (first | apply Kd.R_alloc | apply Kd.R_drewN | apply Kd.R_drew)); exact HO339.out) (Kd.R_base ho0) hb); have n1_ := Aside0.mk (Kd.R_lower (Kd.R_new' ho0 (Kd.R_lt (by (with_reducible repeat (first | apply Kd.R_alloc | apply Kd.R_drewN | apply Kd.R_drew)); exact HO339.out))) (below_size (by repeat (first | (with_reducible first | exact HB.out | apply below_alloc | apply pw_below_drewN | apply below_drew1 | refine below_set ?_ GE329.out) | exact HB.out)))); have n2_ := Aside0.mk (blk_below (g := gb329) (o := .cells #[.bool false, .slice none 0 0] 42 (0, 0)) (by (with_reducible repeat (first | refine blk_drewN ?_ _ | refine blk_drew ?_ | refine blk_alloc ?_ _)); exact BK329.out) hb); have n3_ := Aside0.mk (below_step (by repeat (first | (with_reducible first | exact HB.out | apply below_alloc | apply pw_below_drewN | apply below_drew1 | refine below_set ?_ GE329.out) | exact HB.out)) hb); clear HO339; clear BK329; clear HB; have HO339 := n0_; have HO343 := n1_; have BK329 := n2_; have HB := n3_; clear n0_ n1_ n2_ n3_; (try clear hb); (try clear hb2); (try clear hk); (try clear hi); (try clear ho0); have hcz17_0 : w16.cell? ⟨gb329, 0, none⟩ = some (.bool false) := (blk_cell BK329.out 0).trans rfl; have hcz17_1 : w16.cell? ⟨gb329, 1, none⟩ = some (.slice none 0 0) := (blk_cell BK329.out 1).trans rfl; have hfz17_0 := blk_frozen BK329.out 0; have hfz17_1 := blk_frozen BK329.out 1; obtain ⟨Ao18, co18, eo18⟩ := Kd.R_slice HO343.out; subst eo18))
    refine bodyPost_ret (results_cell_row rfl _ _ gb329 42 #[.bool t340, .slice Ao18 t341.length co18] (0, 0) _ rfl (by (with_reducible repeat (first | refine blk_drewN ?_ _ | refine blk_drew ?_ | refine blk_alloc ?_ _)); refine blk_put (cs := #[.bool t340, .slice none 0 0]) ?_ 1 _ rfl; (with_reducible repeat (first | refine blk_drewN ?_ _ | refine blk_drew ?_ | refine blk_alloc ?_ _)); refine blk_put (cs := #[.bool false, .slice none 0 0]) ?_ 0 _ rfl; (with_reducible repeat (first | refine blk_drewN ?_ _ | refine blk_drew ?_ | refine blk_alloc ?_ _)); exact BK329.out) Tryz.underlying42 rfl (by kernel_rfl)) rfl ?_
    exact ⟨_, by first | rfl | (simp [errW_none, errW_some] <;> rfl) | (simp [*, errW_none, errW_some] <;> rfl), by (with_reducible repeat (first | apply Kd.R_alloc | apply Kd.R_drewN | apply Kd.R_drew)); exact Kd.R_mono (Kd.R_far (p := ⟨gb329, 1, none⟩) (Kd.R_far (p := ⟨gb329, 0, none⟩) (Kd.R_types HO343.out BK329.out (by decide)) (fun _ hk => hk.2) (.bool t340)) (fun _ hk => hk.2) (.slice Ao18 t341.length co18)) (fun _ hk => trivial), by repeat (first | (with_reducible first | exact HB.out | apply below_alloc | apply pw_below_drewN | apply below_drew1 | refine below_set ?_ GE329.out) | exact HB.out)⟩
def slices_CloneInts.f (l0 : List Int) : Option (List Int) := if l0.length < 17592186044416 then some l0 else none
set_option maxHeartbeats 1000000 in
theorem slices_CloneInts.calls (A0 : Option Addr) (c0 : Nat) (l0 : List Int) (r : List Int) (w : World) (hr0 : Kd.C (Kd.int .i64) w A0 l0.length l0) (hc0 : l0.length ≤ c0) (h : slices_CloneInts.f l0 = some r) :
    Calls Tryz.prog 79 #[.slice A0 l0.length c0] w fun e w' => ∃ v0_ : Value, e = .returned (v0_) ∧ Kd.R (Kd.int .i64) 3 w' w.heap.size (fun _ => True) v0_ r ∧ Below w.heap.size w w' := by
  unfold slices_CloneInts.f at h
  by_cases c2 : l0.length < 17592186044416
  · rw [if_pos c2] at h
    obtain rfl := Option.some.inj h
    have q22 : ∀ (w : World) (a : Option Addr) (n c n' c' : Nat), (binOp .eql 22 (.slice a n c) (.slice none n' c')).run Tryz.prog w = .ok (.bool a.isNone) w := fun w a n c n' c' => Lib.run_eql_slice_nil w _ _ a n c n' c' Tryz.underlying22
    cases A0 with
    | none =>
      have e0 : l0 = [] := by
        rcases Nat.eq_zero_or_pos l0.length with h0 | h0
        · exact List.eq_nil_of_length_eq_zero h0
        · obtain ⟨ad, e, _⟩ := hr0.2.2 h0
          cases e
      subst e0
      go_enter Tryz.func79, Tryz.ntmps79
      go_wp2
      go_ret
      exact ⟨_, rfl, Kd.R_nil _ _ _ _ _, Below.refl _ _⟩
    | some a0 =>
      have HR0 := Aside0.mk hr0
      have HC0 := Aside0.mk hc0
      have LM := Aside0.mk c2
      clear hr0 hc0 c2 h
      have HB := Aside0.mk (Below.refl w.heap.size w)
      go_enter Tryz.func79, Tryz.ntmps79
      go_wp2_with (first | ((with_reducible refine gate_dst (N := 5) rfl ?_); refine Kd.R_lit (Kd.int .i64) _ 3 ?hg (N := 5) ?hd (xs := ([] : List Int)) (inner := []) (ok := fun _ => True) (okp := fun _ => True) ?hr ?hp (fun _ hk => hk) trivial (Below.refl _ _) (Nat.le_refl _) (by simp) ?_; (case hd => rfl); (case hg => rfl); (case hr => first | (go_simp; done) | (go_simp; rfl)); (case hp => exact (Reps.none _ _)); intro v312 w3 ho4 hb hg_ hnew_; clear hg_ hnew_; have n0_ := Aside0.mk (Kd.R_lower ho4 (below_size HB.out)); have n1_ := Aside0.mk (below_step HB.out hb); clear HB; have HO313 := n0_; have HB := n1_; clear n0_ n1_; clear hb ho4) | ((with_reducible refine gate_builtin (b := .append) (xs := #[.tmp 5, .tmp 6]) rfl ?_); at_builtin; refine Kd.R_append_rows (Kd.int .i64) (w0 := w) w.heap.size rfl (.tmp 5) (.tmp 6) 22 3 (.int .i64 0) 8 rfl Tryz.underlying22 info3 rfl (by decide) (by omega) v312 [] l0 _ _ _ (fun _ => True) (fun _ => False) rfl rfl ?aO ?aR (fun _ _ h => h) (fun _ h => h.elim) ?aF ?aB ?aS ?aL ?_; (case aR => exact (Kd.C_below HR0.out HB.out)); (case aB => exact HB.out); (case aF => exact (fun _ _ => trivial)); (case aO => exact HO313.out); (case aS => exact (below_size HB.out)); (case aL => have := LM.out; simp; omega); intro v315 w5 ho hb hg hat; have n0_ := Aside0.mk (hb); have n1_ := Aside0.mk (ho); clear HB; clear HO313; have HB := n0_; have HO316 := n1_; clear n0_ n1_; clear ho hb hg hat))
      go_ret
      exact ⟨_, rfl, by simpa using HO316.out, HB.out⟩
  · rw [if_neg c2] at h
    cases h
section
open Go.Shelf
attribute [local go_sem] Oper.semAt_some
def mass_Sets.rows (k : Int) : Nat → Int → List Int → List (List Int)
  | 0, _, s => [s]
  | d + 1, from_, s => (List.range (k - (d + 1 : Nat) - from_ + 1).toNat).flatMap fun (j : Nat) => mass_Sets.rows k d (from_ + (j : Int) + 1) (s ++ [from_ + (j : Int)])
theorem mass_Sets.clip (A0 : Option Addr) (c0 : Nat) (n : Nat) (w : World) (hn : n ≤ 9223372036854775807) (hc : n ≤ c0) :
    Calls Tryz.prog 130 #[.slice A0 n c0] w fun e w' => e = .returned (.slice A0 n n) ∧ w' = w := by
  go_enter Tryz.func130, Tryz.ntmps130
  go_wp2
  go_ret
  exact ⟨rfl, rfl⟩
theorem mass_Sets.of (k f d : Int) (A : Option Addr) (n c : Nat) (w : World) :
    Calls Tryz.prog 59 #[.int .i64 k, .int .i64 f, .int .i64 d, .slice A n c] w fun e w' => e = .returned (.func (.func 129) #[] #[.pointer (some ⟨w.heap.size + 1 + 1, 0, none⟩), .pointer (some ⟨w.heap.size + 1 + 1 + 1, 0, none⟩), .pointer (some ⟨w.heap.size + 1, 0, none⟩), .pointer (some ⟨w.heap.size, 0, none⟩)]) ∧ w' = (((w.alloc (.cells #[.int .i64 k] 3)).alloc (.cells #[.int .i64 f] 3)).alloc (.cells #[.int .i64 d] 3)).alloc (.cells #[.slice A n c] 22) := by
  go_enter Tryz.func59, Tryz.ntmps59
  go_wp2
  go_ret
  exact ⟨rfl, rfl⟩
structure mass_Sets.Boxes (b : Nat) (W : World) (k f d : Int) (v : Value) : Prop where
  k : W.heap[b]? = some (.cells #[.int .i64 k] 3 (0, 0))
  f : W.heap[b + 1]? = some (.cells #[.int .i64 f] 3 (0, 0))
  d : W.heap[b + 1 + 1]? = some (.cells #[.int .i64 d] 3 (0, 0))
  s : W.heap[b + 1 + 1 + 1]? = some (.cells #[v] 22 (0, 0))
theorem mass_Sets.Boxes.keeps {b : Nat} {W W' : World} {k f d : Int} {v : Value} {K : Nat → Prop} (h : mass_Sets.Boxes b W k f d v) (hk : Keeps K W W') (hb : ∀ i, b ≤ i → i < b + 4 → K i) : mass_Sets.Boxes b W' k f d v :=
  ⟨(hk.same _ (hb _ (by omega) (by omega)) (Array.getElem?_eq_some_iff.1 h.k).1).trans h.k, (hk.same _ (hb _ (by omega) (by omega)) (Array.getElem?_eq_some_iff.1 h.f).1).trans h.f, (hk.same _ (hb _ (by omega) (by omega)) (Array.getElem?_eq_some_iff.1 h.d).1).trans h.d, (hk.same _ (hb _ (by omega) (by omega)) (Array.getElem?_eq_some_iff.1 h.s).1).trans h.s⟩
theorem mass_Sets.cell {W : World} {b : Nat} {v : Value} {t : TypeId} (h : W.heap[b]? = some (.cells #[v] t (0, 0))) : W.cell? ⟨b, 0, none⟩ = some v := by simp [World.cell?, h]
theorem mass_Sets.frozen {W : World} {b : Nat} {v : Value} {t : TypeId} (h : W.heap[b]? = some (.cells #[v] t (0, 0))) : W.frozen? ⟨b, 0, none⟩ = false := by simp [World.frozen?, h]
theorem mass_Sets.either {e : Ending} {A B C D : Prop} (h : (e = .returned (.bool true) ∧ A ∧ C) ∨ (e = .returned (.bool false) ∧ B ∧ D)) : ∃ b, e = .returned (.bool b) ∧ Aside0 ((b = true ∧ A ∧ C) ∨ (b = false ∧ B ∧ D)) := by
  rcases h with ⟨rfl, h⟩ | ⟨rfl, h⟩
  · exact ⟨true, rfl, ⟨.inl ⟨rfl, h⟩⟩⟩
  · exact ⟨false, rfl, ⟨.inr ⟨rfl, h⟩⟩⟩
abbrev mass_Sets.enc (x : List Int × Value) : Array Value := #[x.2]
def mass_Sets.G (n : Nat) (_pre : List (List Int × Value)) (x : List Int × Value) (O : Nat → Prop) (W : World) : Prop := Kd.R (Kd.int .i64) 3 W n (fun i => ¬ O i) x.2 x.1
def mass_Sets.S (k f : Int) (d : Nat) (s : List Int) (xs : List (List Int × Value)) : Prop := xs.map (·.1) = mass_Sets.rows k d f s
def mass_Sets.Sp (k f : Int) (d : Nat) (s : List Int) (xs : List (List Int × Value)) : Prop := xs.map (·.1) <+: mass_Sets.rows k d f s
set_option maxRecDepth 100000 in
set_option maxHeartbeats 4000000 in
theorem mass_Sets.of_zero (k f : Int) (b : Nat) (A : Option Addr) (c : Nat) (s : List Int) (R : Nat → Prop) (w : World) (hB : mass_Sets.Boxes b w k f 0 (.slice A s.length c)) (hs : Kd.F (Kd.int .i64) w R A s.length s) (hc : s.length ≤ c) (hl : s.length < 17592186044416) :
    SeqW Tryz.prog 129 #[.pointer (some ⟨b + 1 + 1, 0, none⟩), .pointer (some ⟨b + 1 + 1 + 1, 0, none⟩), .pointer (some ⟨b + 1, 0, none⟩), .pointer (some ⟨b, 0, none⟩)] mass_Sets.enc mass_Sets.G (mass_Sets.S k f 0 s) (mass_Sets.Sp k f 0 s) R (fun i => b ≤ i ∧ i < b + 4) w := by
  intro l J Jx W hW hJ hJx hY h0
  have hBW := hB.keeps hW (fun i h1 h2 => .inr ⟨h1, h2⟩)
  have hd := mass_Sets.cell hBW.d
  have hss := mass_Sets.cell hBW.s
  have hs' := Kd.F_step hs (W1 := W) (fun i hi hl => hW.same i (.inl hi) hl)
  have HS := Aside0.mk hs'
  have HC := Aside0.mk hc
  have HL := Aside0.mk hl
  have HY := Aside0.mk hY
  have HJ := Aside0.mk hJ
  have HBW := Aside0.mk hBW
  have H0 := Aside0.mk h0
  clear hs hs' hc hl hY hJ hJx h0 hW hB hBW
  refine callsIn_of_wp_marks Tryz.func129 rfl trivial ?_ rfl
  simp only [Tryz.ntmps129, List.size_toArray, List.length_cons, List.length_nil, Nat.reduceAdd, Nat.reduceSub, Array.replicate_succ, Array.replicate_zero, List.push_toArray, List.append_toArray, List.nil_append, List.cons_append]
  have hd' := q_old (.cells #[.func (.yield l) #[] #[]] 159) hd
  have hs' := q_old (.cells #[.func (.yield l) #[] #[]] 159) hss
  clear hd hss
  have HF : Aside0 (slices_CloneInts.f s = some s) := ⟨if_pos HL.out⟩
  have hmix : Tryz.prog.follows .mixedOrders = true := by kernel_rfl
  have HLT : Aside0 (b + 4 ≤ W.heap.size) := ⟨by have := (Array.getElem?_eq_some_iff.1 HBW.out.s).1; omega⟩
  gi_wp2
  gi_region_with_o (first | (refine ⟨trivial, ?_⟩; gi_at_call 79; (with_reducible refine (callsIn_wide.2 (slices_CloneInts.calls A c s s _ (Kd.C_drew (Kd.C_alloc (Kd.F_now HS.out) _)) HC.out HF.out)).mono ?_); rintro e w4 ⟨v0, rfl, hv, hb⟩; have hcy := q_below (i := 0) hb (q_drew (q_new (n := W.heap.size) (i := 0) rfl rfl)); have HV := Aside0.mk hv; have HB4 := Aside0.mk (((below_alloc (Below.refl W.heap.size W) _).drew).trans (hb.mono (by simp))); have hyy := HY.out (fun i => (b ≤ i ∧ i < b + 4) ∨ i = W.heap.size) [] (s, v0) (W.alloc (.cells #[.func (.yield l) #[] #[]] 159)).drew w4 (fun i h => .inl h) (fun i h => by have := HLT.out; simp; omega) (by simp) (HJ.out _ _ _ _ _ H0.out (Turns.of_below ((below_alloc (Below.refl W.heap.size W) _).drew)) (fun i h => h.elim .inl (fun h => .inr (by omega)))) (Turns.of_below hb) (Kd.R_mono (Kd.R_bound hv) (fun i hi => by have h1 := hi.2.1; have h2 := HLT.out; simp at h1; omega)); obtain ⟨fn, tmps, assign, body, hy, hR⟩ := hyy; dsimp only [mass_Sets.enc] at hy; have HR := Aside0.mk hR; clear hv hb hR) | ((with_reducible refine HR.out.mono ?_); rintro e W3 hx3; obtain ⟨bb, rfl, HX3⟩ := mass_Sets.either hx3; clear hx3))
  all_goals
    have HX := HX3.out
    clear HX3
    gi_wp2
    refine ⟨_, results_none rfl _ _ _, ⟨_, rfl⟩, ?_⟩
    rcases HX with ⟨_, h1, _⟩ | ⟨_, h1, _⟩
    · exact .inl ⟨[(s, v0)], (fun i => (b ≤ i ∧ i < b + 4) ∨ i = W.heap.size), fun i h => .inl h, by simp [mass_Sets.S, mass_Sets.rows], h1⟩
    · exact .inr ⟨[(s, v0)], (fun i => (b ≤ i ∧ i < b + 4) ∨ i = W.heap.size), fun i h => .inl h, by simp [mass_Sets.Sp, mass_Sets.rows], h1⟩
theorem mass_Sets.held {W : World} {A : Option Addr} {s : List Int} (h : Kd.C (Kd.int .i64) W A s.length s) : (A = none → s.length = 0) ∧ ∀ bb, A = some bb → ∀ jj u, (nums .i64 s)[jj]? = some u → W.cell? (bb.add jj) = some u := by
  refine ⟨fun e => ?_, fun bb e jj u hu => ?_⟩
  · rcases Nat.eq_zero_or_pos s.length with h0 | h0
    · exact h0
    · obtain ⟨ad, e', _⟩ := h.2.2 h0
      rw [e] at e'
      cases e'
  · simp only [nums, List.getElem?_map, Option.map_eq_some_iff] at hu
    obtain ⟨x, hx, rfl⟩ := hu
    have hj := (List.getElem?_eq_some_iff.1 hx).1
    obtain ⟨ad, e1, h1⟩ := Kd.at_int h (jj : Int) (by omega) (by omega)
    rw [e] at e1
    cases e1
    rw [List.getElem?_eq_getElem hj] at hx
    have := Option.some.inj hx
    subst this
    simpa [rd, hj] using h1
def mass_Sets.m (k f : Int) (d : Nat) : Nat := (k - (d + 1 : Nat) - f + 1).toNat
def mass_Sets.rest (k f : Int) (d : Nat) (s : List Int) (j : Nat) : List (List Int) := (List.range' j (mass_Sets.m k f d - j)).flatMap fun (j : Nat) => mass_Sets.rows k d (f + (j : Int) + 1) (s ++ [f + (j : Int)])
theorem mass_Sets.rest_zero (k f : Int) (d : Nat) (s : List Int) : mass_Sets.rest k f d s 0 = mass_Sets.rows k (d + 1) f s := by
  rw [mass_Sets.rest, mass_Sets.rows, List.range_eq_range', Nat.sub_zero, mass_Sets.m]
theorem mass_Sets.rest_step (k f : Int) (d : Nat) (s : List Int) (j : Nat) (h : j < mass_Sets.m k f d) : mass_Sets.rest k f d s j = mass_Sets.rows k d (f + (j : Int) + 1) (s ++ [f + (j : Int)]) ++ mass_Sets.rest k f d s (j + 1) := by
  obtain ⟨x, hx⟩ : ∃ x, mass_Sets.m k f d - j = x + 1 := ⟨mass_Sets.m k f d - j - 1, by omega⟩
  rw [mass_Sets.rest, mass_Sets.rest, hx, show mass_Sets.m k f d - (j + 1) = x by omega, List.range'_succ, List.flatMap_cons]
theorem mass_Sets.rest_end (k f : Int) (d : Nat) (s : List Int) : mass_Sets.rest k f d s (mass_Sets.m k f d) = [] := by simp [mass_Sets.rest]
structure mass_Sets.Mid (b : Nat) (W : World) (k f : Int) (d : Nat) (A : Option Addr) (c : Nat) (s : List Int) (R : Nat → Prop) (l : Nat) (J : (Nat → Prop) → List (List Int × Value) → World → Prop) (j : Nat) (Ds : List Nat) (O : Nat → Prop) (pre : List (List Int × Value)) (W2 : World) : Prop where
  hj : j ≤ mass_Sets.m k f d
  hJ : J O pre W2
  hpre : pre.map (·.1) ++ mass_Sets.rest k f d s j = mass_Sets.rows k (d + 1) f s
  box : mass_Sets.Boxes b W2 k f ((d + 1 : Nat) : Int) (.slice A s.length c)
  y : W2.heap[W.heap.size]? = some (.cells #[.func (.yield l) #[] #[]] 159 (0, 0))
  hs : Kd.F (Kd.int .i64) W2 R A s.length s
  O0 : ∀ i, b ≤ i ∧ i < b + 4 → O i
  Oy : O W.heap.size
  Oi : ∀ i, O i → b ≤ i
  Ob : ∀ i, O i → i < W2.heap.size
  hDs : ∀ D ∈ Ds, O D ∧ W2.heap[D]? = some (.deferred (some []))
  nd : Ds.Nodup
  sz : W.heap.size < W2.heap.size
def mass_Sets.In (b : Nat) (y : Nat) (k f : Int) (d : Nat) (v : Value) (A : Option Addr) (s : List Int) (R : Nat → Prop) (l : Nat) (J : (Nat → Prop) → List (List Int × Value) → World → Prop) (Ds : List Nat) (O : Nat → Prop) (pre : List (List Int × Value)) (m0 b' : Nat) (Oin : Nat → Prop) (xs : List (List Int × Value)) (W3 : World) : Prop :=
  J (fun i => O i ∨ (m0 ≤ i ∧ i < b') ∨ Oin i) (pre ++ xs) W3 ∧ mass_Sets.Boxes b W3 k f ((d + 1 : Nat) : Int) v ∧ W3.heap[y]? = some (.cells #[.func (.yield l) #[] #[]] 159 (0, 0)) ∧ Kd.F (Kd.int .i64) W3 R A s.length s ∧ (∀ D ∈ Ds, W3.heap[D]? = some (.deferred (some []))) ∧ (∀ i, Oin i → b' ≤ i) ∧ b' ≤ W3.heap.size
def mass_Sets.Out (Jx : (Nat → Prop) → List (List Int × Value) → World → Prop) (Ds : List Nat) (O : Nat → Prop) (pre : List (List Int × Value)) (m0 b' : Nat) (c : Code) (Oin : Nat → Prop) (xs : List (List Int × Value)) (W3 : World) : Prop :=
  c = .ret ∧ Jx (fun i => O i ∨ (m0 ≤ i ∧ i < b') ∨ Oin i) (pre ++ xs) W3 ∧ (∀ D ∈ Ds, W3.heap[D]? = some (.deferred (some []))) ∧ (∀ i, Oin i → b' ≤ i) ∧ b' ≤ W3.heap.size
theorem mass_Sets.grow {O Oin O' : Nat → Prop} {m0 b' n : Nat} (hg : ∀ k, O' k → Oin k ∨ n ≤ k) : ∀ i, (O i ∨ (m0 ≤ i ∧ i < b') ∨ O' i) → (O i ∨ (m0 ≤ i ∧ i < b') ∨ Oin i) ∨ n ≤ i := by
  rintro i (h | h | h)
  · exact .inl (.inl h)
  · exact .inl (.inr (.inl h))
  · rcases hg i h with h | h
    · exact .inl (.inr (.inr h))
    · exact .inr h
theorem mass_Sets.In_stable {b y : Nat} {k f : Int} {d : Nat} {v : Value} {A : Option Addr} {s : List Int} {R : Nat → Prop} {l : Nat} {J : (Nat → Prop) → List (List Int × Value) → World → Prop} {Ds : List Nat} {O : Nat → Prop} {pre : List (List Int × Value)} {m0 b' : Nat}
    (hJ : Stable J) (hb : b + 4 ≤ b') (hy : y < b') (hR : ∀ i, R i → i < b) (hD : ∀ D ∈ Ds, D < b') : Stable (mass_Sets.In b y k f d v A s R l J Ds O pre m0 b') := by
  intro Oin O' xs W W' ⟨h1, h2, h3, h4, h5, h6, h7⟩ ht hg
  have hk : Keeps (fun i => i < b') W W' := Keeps.of_turns ht (fun i hi ho => by have := h6 i ho; omega)
  refine ⟨hJ _ _ _ _ _ h1 (ht.mono (fun i h => .inr (.inr h))) (mass_Sets.grow hg), h2.keeps hk (fun i _ h => by show i < b'; omega), (hk.same _ hy (by omega)).trans h3, Kd.F_step h4 (fun i hi hl => hk.same _ (by have := hR i hi; show i < b'; omega) hl), fun D hd => (hk.same _ (hD D hd) (by have := hD D hd; omega)).trans (h5 D hd), fun i hi => ?_, Nat.le_trans h7 ht.size⟩
  rcases hg i hi with h | h
  · exact h6 i h
  · omega
theorem mass_Sets.Out_stable {Jx : (Nat → Prop) → List (List Int × Value) → World → Prop} {Ds : List Nat} {O : Nat → Prop} {pre : List (List Int × Value)} {m0 b' : Nat} (hJ : Stable Jx) (hD : ∀ D ∈ Ds, D < b') (c : Code) : Stable (mass_Sets.Out Jx Ds O pre m0 b' c) := by
  intro Oin O' xs W W' ⟨h0, h1, h5, h6, h7⟩ ht hg
  have hk : Keeps (fun i => i < b') W W' := Keeps.of_turns ht (fun i hi ho => by have := h6 i ho; omega)
  refine ⟨h0, hJ _ _ _ _ _ h1 (ht.mono (fun i h => .inr (.inr h))) (mass_Sets.grow hg), fun D hd => (hk.same _ (hD D hd) (by have := hD D hd; omega)).trans (h5 D hd), fun i hi => ?_, Nat.le_trans h7 ht.size⟩
  rcases hg i hi with h | h
  · exact h6 i h
  · omega
theorem mass_Sets.G_local {R : Nat → Prop} : ∀ n pre x O W W', mass_Sets.G n pre x O W → W.heap.size ≤ W'.heap.size → (∀ k, n ≤ k ∨ O k ∨ R k → W'.heap[k]? = W.heap[k]?) → mass_Sets.G n pre x O W' := by
  intro n pre x O W W' h _ hk
  exact Kd.R_mono (Kd.R_move (Kd.R_bound h) (fun k h => hk k (.inl h.2.1))) (fun _ h => h.1)
theorem mass_Sets.row_F {w4 : World} {base : Nat} {Av : Option Addr} {n cv : Nat} {xs : List Int} (h : w4.ownsRow base 3 1 (.slice Av n cv) n (nums .i64 xs)) (hn : n = xs.length) : Kd.F (Kd.int .i64) w4 (fun i => base ≤ i ∧ i < w4.heap.size) Av xs.length xs ∧ xs.length ≤ cv := by
  subst hn
  have hR : Kd.R (Kd.int .i64) 3 w4 base (fun _ => True) (.slice Av xs.length cv) xs := ⟨fun _ _ => trivial, nums .i64 xs, h, Kd.reps_scalar xs⟩
  have hV := Kd.R_V (base' := 0) (Kd.R_bound hR)
  exact ⟨Kd.F_mono (Kd.V_F hV) (fun i hi => ⟨hi.2.1, hi.2.2.1⟩), (Kd.V_at hV).2.1⟩
set_option maxRecDepth 100000 in
set_option maxHeartbeats 8000000 in
theorem mass_Sets.of_seq (k : Int) (hk : k ≤ 1152921504606846976) : ∀ (d : Nat) (f : Int) (b : Nat) (A : Option Addr) (c : Nat) (s : List Int) (R : Nat → Prop) (w : World), mass_Sets.Boxes b w k f d (.slice A s.length c) → Kd.F (Kd.int .i64) w R A s.length s → s.length ≤ c → s.length + d < 17592186044416 → 0 ≤ f → f ≤ k + 1 → (∀ i, R i → i < b) →
    SeqW Tryz.prog 129 #[.pointer (some ⟨b + 1 + 1, 0, none⟩), .pointer (some ⟨b + 1 + 1 + 1, 0, none⟩), .pointer (some ⟨b + 1, 0, none⟩), .pointer (some ⟨b, 0, none⟩)] mass_Sets.enc mass_Sets.G (mass_Sets.S k f d s) (mass_Sets.Sp k f d s) R (fun i => b ≤ i ∧ i < b + 4) w := by
  intro d
  induction d with
  | zero => intro f b A c s R w h1 h2 h3 h4 _ _ _; exact mass_Sets.of_zero k f b A c s R w h1 h2 h3 (by omega)
  | succ d ih =>
    intro f b A c s R w hB hs hc hl hf0 hfk hRb
    intro l J Jx W hW hJ hJx hY h0
    have hBW := hB.keeps hW (fun i h1 h2 => .inr ⟨h1, h2⟩)
    have hd := mass_Sets.cell hBW.d
    have hff := mass_Sets.cell hBW.f
    have HS := Aside0.mk (Kd.F_step hs (W1 := W) (fun i hi hl => hW.same i (.inl hi) hl))
    have HC := Aside0.mk hc
    have HL := Aside0.mk hl
    have HY := Aside0.mk hY
    have HJ := Aside0.mk hJ
    have HJx := Aside0.mk hJx
    have HBW := Aside0.mk hBW
    have H0 := Aside0.mk h0
    have IH := Aside0.mk ih
    have HLT : Aside0 (b + 4 ≤ W.heap.size) := ⟨by have := (Array.getElem?_eq_some_iff.1 HBW.out.s).1; omega⟩
    have hmix : Tryz.prog.follows .mixedOrders = true := by kernel_rfl
    clear hs hc hl hY hJ hJx h0 hW hB hBW ih
    refine callsIn_of_wp_marks Tryz.func129 rfl trivial ?_ rfl
    simp only [Tryz.ntmps129, List.size_toArray, List.length_cons, List.length_nil, Nat.reduceAdd, Nat.reduceSub, Array.replicate_succ, Array.replicate_zero, List.push_toArray, List.append_toArray, List.nil_append, List.cons_append]
    have hd' := q_old (.cells #[.func (.yield l) #[] #[]] 159) hd
    have hf' := q_old (.cells #[.func (.yield l) #[] #[]] 159) hff
    clear hd hff
    have hne : ((((d + 1 : Nat) : Int)) == 0) = false := by simp; omega
    gi_wp2
    refine wpIn_loop (fun a W2 => ∃ (j : Nat) (Ds : List Nat) (O : Nat → Prop) (pre : List (List Int × Value)) (u15 u16 u17 u18 u19 u20 u21 u22 u23 u24 u25 u26 u27 u28 u29 u30 u31 u32 : Value), a = { tmps := ((.func (.yield l) #[] #[] : Value) :: .pointer (some ⟨b + 1 + 1, 0, none⟩) :: .pointer (some ⟨b + 1 + 1 + 1, 0, none⟩) :: .pointer (some ⟨b + 1, 0, none⟩) :: .pointer (some ⟨b, 0, none⟩) :: .pointer (some ⟨W.heap.size, 0, none⟩) :: .int .i64 (f + (j : Int)) :: undef :: .int .i64 ((d + 1 : Nat) : Int) :: .bool false :: undef :: undef :: undef :: undef :: .int .i64 f :: u15 :: u16 :: u17 :: u18 :: u19 :: u20 :: u21 :: u22 :: u23 :: u24 :: u25 :: u26 :: u27 :: u28 :: u29 :: u30 :: u31 :: u32 :: undef :: undef :: undef :: undef :: undef :: []).toArray, defers := Ds.map fun D => { target := .collected D, args := #[] } } ∧ Aside0 (mass_Sets.Mid b W k f d A c s R l J j Ds O pre W2)) (fun a _ => mass_Sets.m k f d - ((intOf (a.tmps.getD 6 undef)) - f).toNat) ?_ ?_
    · refine ⟨0, [], (fun i => (b ≤ i ∧ i < b + 4) ∨ i = W.heap.size), [], undef, undef, undef, undef, undef, undef, undef, undef, undef, undef, undef, undef, undef, undef, undef, undef, undef, undef, by simp, ⟨⟨Nat.zero_le _, HJ.out _ _ _ _ _ H0.out (Turns.of_below (below_alloc (Below.refl _ _) _)) (fun i h => h.elim .inl (fun h => .inr (Nat.le_of_eq h.symm))), by simp [mass_Sets.rest_zero], HBW.out.keeps (K := fun _ => True) (Keeps.of_new (below_alloc (Below.refl _ _) _)) (fun _ _ _ => trivial), World.alloc_heap_new W _, Kd.F_alloc HS.out _, fun i h => .inl h, .inr rfl, fun i h => ?_, fun i h => ?_, fun D h => (by cases h), List.nodup_nil, by simp⟩⟩⟩
      · have := HLT.out
        rcases h with h | h <;> omega
      · have := HLT.out
        simp
        rcases h with h | h <;> omega
    · rintro a W2 ⟨j, Ds, O, pre, u15, u16, u17, u18, u19, u20, u21, u22, u23, u24, u25, u26, u27, u28, u29, u30, u31, u32, rfl, HM⟩
      have hxk := mass_Sets.cell HM.out.box.k
      have hxd := mass_Sets.cell HM.out.box.d
      have hxs := mass_Sets.cell HM.out.box.s
      have hj0 : (0 : Int) ≤ j := Int.natCast_nonneg j
      by_cases hlt : j < mass_Sets.m k f d
      · have hle : f + (j : Int) ≤ k - ((d + 1 : Nat) : Int) := by unfold mass_Sets.m at hlt; omega
        have hdl : (d : Int) ≤ 17592186044416 := by have := HL.out; omega
        gi_wp2
        refine wpIn_wide.2 (wp_calm ?_)
        have hw1 : IntKind.i64.wrap (f + (j : Int) + 1) = f + (j : Int) + 1 := by simp only [IntKind.wrap_i64, wrap64]; omega
        have hw2 : IntKind.i64.wrap (d : Int) = (d : Int) := by simp only [IntKind.wrap_i64, wrap64]; omega
        have hsum : s.length + 1 ≤ maxLen := by have := HL.out; simp only [maxLen]; omega
        have hby : (s.length + 1) * 8 ≤ 140737488355328 := by have := HL.out; omega
        obtain ⟨hA, hcells⟩ : (A = none → s.length = 0) ∧ ∀ bb, A = some bb → ∀ jj u, (nums .i64 s)[jj]? = some u → W2.cell? (bb.add jj) = some u := mass_Sets.held (Kd.F_now HM.out.hs)
        have hxs2 := q_old (.cells #[.int .i64 (f + (j : Int))] 3) hxs
        have hxk2 := q_old (.cells #[.int .i64 (f + (j : Int))] 3) hxk
        have hxd2 := q_old (.cells #[.int .i64 (f + (j : Int))] 3) hxd
        clear hxs2 hxk2 hxd2
        go_region_held_law (fun w' => w'.cell? ⟨b, 0, none⟩ = some (.int .i64 k) ∧ w'.cell? ⟨b + 1 + 1, 0, none⟩ = some (.int .i64 ((d : Int) + 1)) ∧ w'.cell? ⟨b + 1 + 1 + 1, 0, none⟩ = some (.slice A s.length c)) (first | go_keep | (go_split_ands; exact ⟨q_below hb4 (by assumption), q_below hb4 (by assumption), q_below hb4 (by assumption)⟩) | (go_split_ands; exact ⟨q_old _ (q_old _ (q_old _ (q_old _ (by assumption)))), q_old _ (q_old _ (q_old _ (q_old _ (by assumption)))), q_old _ (q_old _ (q_old _ (q_old _ (by assumption))))⟩)) (first | (refine goes_ Tryz.func130 (by kernel_rfl) rfl #[.slice A s.length c] (by rfl) rfl rfl (by simp only [List.map_toArray, List.map_cons, List.map_nil]; rfl) ?_; (with_reducible refine (mass_Sets.clip A c s.length _ (by have := HL.out; omega) HC.out).mono ?_); rintro e w4 ⟨rfl, rfl⟩; refine ⟨_, rfl, ?_⟩) | (refine step_append_grows (by rfl) (.tmp 28) (.tmp 30) 22 3 (.int .i64 0) 1 8 rfl Tryz.underlying22 info3 rfl (by decide) A s.length (nums .i64 s) [.int .i64 (f + (j : Int))] (by rfl) hA (by simp [nums]) (fun bb e jj u hu => (World.cell?_alloc_lt W2 (.cells #[.int .i64 (f + (j : Int))] 3) _ (World.block_lt_of_cell? W2 _ (hcells bb e jj u hu))).trans (hcells bb e jj u hu)) ⟨W2.heap.size, 0, none⟩ (by rfl) rfl (by simp [go_sem]) (by simp [Value.oneCell']) hby hsum ?_; intro v1 w4 hown hb4; obtain ⟨Av, cv, rfl⟩ := own_slice hown) | (refine goes_ Tryz.func59 (by kernel_rfl) rfl #[.int .i64 k, .int .i64 (f + (j : Int) + 1), .int .i64 (d : Int), .slice Av (s.length + 1) cv] (by rfl) rfl rfl (by simp only [List.map_toArray, List.map_cons, List.map_nil]; rfl) ?_; (with_reducible refine (mass_Sets.of k (f + (j : Int) + 1) d Av (s.length + 1) cv _).mono ?_); rintro e w5 ⟨rfl, rfl⟩; refine ⟨_, rfl, ?_⟩))
        all_goals
          show Exit.then _ _ Exit.normal { tmps := ((.func (.yield l) #[] #[] : Value) :: .pointer (some ⟨b + 1 + 1, 0, none⟩) :: .pointer (some ⟨b + 1 + 1 + 1, 0, none⟩) :: .pointer (some ⟨b + 1, 0, none⟩) :: .pointer (some ⟨b, 0, none⟩) :: .pointer (some ⟨W.heap.size, 0, none⟩) :: .int .i64 (f + (j : Int)) :: undef :: .int .i64 ((d : Int) + 1) :: .bool false :: undef :: undef :: undef :: undef :: .int .i64 f :: .int .i64 (f + (j : Int)) :: .int .i64 k :: .int .i64 ((d : Int) + 1) :: .int .i64 (k - ((d : Int) + 1)) :: .bool true :: u20 :: u21 :: .int .i64 k :: .int .i64 (f + (j : Int)) :: .int .i64 (f + (j : Int) + 1) :: .int .i64 ((d : Int) + 1) :: .int .i64 (d : Int) :: .slice A s.length c :: .slice A s.length s.length :: .int .i64 (f + (j : Int)) :: .slice (some ⟨W2.heap.size, 0, none⟩) 1 1 :: .slice Av (s.length + 1) cv :: .func (.func 129) #[] #[.pointer (some ⟨w4.heap.size + 1 + 1, 0, none⟩), .pointer (some ⟨w4.heap.size + 1 + 1 + 1, 0, none⟩), .pointer (some ⟨w4.heap.size + 1, 0, none⟩), .pointer (some ⟨w4.heap.size, 0, none⟩)] :: undef :: undef :: undef :: undef :: undef :: []).toArray, defers := Ds.map fun D => { target := .collected D, args := #[] } } _
          gi_wp2
          have hs4 : W2.heap.size + 1 ≤ w4.heap.size := by have := hb4.size; simpa using this
          have HB4 : Below W2.heap.size W2 w4 := ((below_alloc (Below.refl W2.heap.size W2) _).drew).trans (hb4.mono (by simp))
          have HB5 : Below W2.heap.size W2 ((((w4.alloc (.cells #[.int .i64 k] 3)).alloc (.cells #[.int .i64 (f + (j : Int) + 1)] 3)).alloc (.cells #[.int .i64 (d : Int)] 3)).alloc (.cells #[.slice Av (s.length + 1) cv] 22)) := (((HB4.alloc (by omega) _).alloc (by simp; omega) _).alloc (by simp; omega) _).alloc (by simp; omega) _
          obtain ⟨hrow, hcap⟩ := mass_Sets.row_F (xs := s ++ [f + (j : Int)]) (by rw [nums_append]; exact hown) (by simp)
          simp only [World.size_drew, World.size_alloc] at hrow
          clear hown hb4
          refine wpIn_wide.2 (wpIn_wide.1 (wpIn_rangeFunc_W (P := Tryz.prog) (gf := 129) (lb := #[.pointer (some ⟨w4.heap.size + 1 + 1, 0, none⟩), .pointer (some ⟨w4.heap.size + 1 + 1 + 1, 0, none⟩), .pointer (some ⟨w4.heap.size + 1, 0, none⟩), .pointer (some ⟨w4.heap.size, 0, none⟩)]) rfl (enters_of Tryz.func129 (by kernel_rfl) rfl)
            (IH.out (f + (j : Int) + 1) w4.heap.size Av cv (s ++ [f + (j : Int)]) (fun i => W2.heap.size + 1 ≤ i ∧ i < w4.heap.size) _ ?_ (Kd.F_alloc (Kd.F_alloc (Kd.F_alloc (Kd.F_alloc hrow _) _) _) _) hcap (by have := HL.out; simp; omega) (by omega) (by omega) (fun i h => h.2))
            mass_Sets.G_local (Keeps.refl _ _) (Nat.le_refl _) ?_ (fun _ => rfl)
            (mass_Sets.In b W.heap.size k f d (.slice A s.length c) A s R l J Ds O pre W2.heap.size w4.heap.size) (mass_Sets.Out Jx Ds O pre W2.heap.size w4.heap.size) ?_ ?_ ?_ (fun x => { tmps := ((.func (.yield l) #[] #[] : Value) :: .pointer (some ⟨b + 1 + 1, 0, none⟩) :: .pointer (some ⟨b + 1 + 1 + 1, 0, none⟩) :: .pointer (some ⟨b + 1, 0, none⟩) :: .pointer (some ⟨b, 0, none⟩) :: .pointer (some ⟨W.heap.size, 0, none⟩) :: .int .i64 (f + (j : Int)) :: x.2 :: .int .i64 ((d : Int) + 1) :: .bool false :: undef :: undef :: undef :: undef :: .int .i64 f :: .int .i64 (f + (j : Int)) :: .int .i64 k :: .int .i64 ((d : Int) + 1) :: .int .i64 (k - ((d : Int) + 1)) :: .bool true :: u20 :: u21 :: .int .i64 k :: .int .i64 (f + (j : Int)) :: .int .i64 (f + (j : Int) + 1) :: .int .i64 ((d : Int) + 1) :: .int .i64 (d : Int) :: .slice A s.length c :: .slice A s.length s.length :: .int .i64 (f + (j : Int)) :: .slice (some ⟨W2.heap.size, 0, none⟩) 1 1 :: .slice Av (s.length + 1) cv :: .func (.func 129) #[] #[.pointer (some ⟨w4.heap.size + 1 + 1, 0, none⟩), .pointer (some ⟨w4.heap.size + 1 + 1 + 1, 0, none⟩), .pointer (some ⟨w4.heap.size + 1, 0, none⟩), .pointer (some ⟨w4.heap.size, 0, none⟩)] :: x.2 :: undef :: undef :: undef :: undef :: []).toArray, defers := [] }) ?_ ?_ ?_ ?_))
          · exact ⟨(Below.heap_alloc _ _ _ (by simp <;> omega)).trans ((Below.heap_alloc _ _ _ (by simp <;> omega)).trans ((Below.heap_alloc _ _ _ (by simp)).trans (World.alloc_heap_new w4 _))), (Below.heap_alloc _ _ _ (by simp <;> omega)).trans ((Below.heap_alloc _ _ _ (by simp)).trans (by have := World.alloc_heap_new (w4.alloc (.cells #[.int .i64 k] 3)) (.cells #[.int .i64 (f + (j : Int) + 1)] 3); rwa [World.size_alloc] at this)), (Below.heap_alloc _ _ _ (by simp)).trans (by have := World.alloc_heap_new ((w4.alloc (.cells #[.int .i64 k] 3)).alloc (.cells #[.int .i64 (f + (j : Int) + 1)] 3)) (.cells #[.int .i64 (d : Int)] 3); rwa [World.size_alloc, World.size_alloc] at this), by have := World.alloc_heap_new (((w4.alloc (.cells #[.int .i64 k] 3)).alloc (.cells #[.int .i64 (f + (j : Int) + 1)] 3)).alloc (.cells #[.int .i64 (d : Int)] 3)) (.cells #[.slice Av (s.length + 1) cv] 22); rw [World.size_alloc, World.size_alloc, World.size_alloc] at this; simpa using this⟩
          · intro i hi
            simp
            omega
          · exact mass_Sets.In_stable HJ.out (by have := HLT.out; have := HM.out.sz; omega) (by have := HM.out.sz; omega) hRb (fun D hD => by have := (Array.getElem?_eq_some_iff.1 (HM.out.hDs D hD).2).1; omega)
          · exact fun c => mass_Sets.Out_stable HJx.out (fun D hD => by have := (Array.getElem?_eq_some_iff.1 (HM.out.hDs D hD).2).1; omega) c
          · refine ⟨HJ.out _ _ _ _ _ (by rw [List.append_nil]; exact HM.out.hJ) (Turns.of_below HB5) (fun i h => ?_), HM.out.box.keeps (Keeps.of_new (K := fun _ => True) HB5) (fun _ _ _ => trivial), (HB5.block _ HM.out.sz).trans HM.out.y, Kd.F_below HM.out.hs HB5, fun D hD => (HB5.block _ (Array.getElem?_eq_some_iff.1 (HM.out.hDs D hD).2).1).trans (HM.out.hDs D hD).2, fun i h => h.1, by simp; omega⟩
            rcases h with h | h | h
            · exact .inl h
            · exact .inr h.1
            · exact .inr (by omega)
          · intro l' x W3 K3 hK3
            gi_wp2
            exact hK3
          · intro l' O₁ pin x W0' W3 hn1 hO0 hOb hBk hIn0 hT3 hGx
            obtain ⟨_, h2, h3, h4, h5, h6, h7⟩ := mass_Sets.In_stable HJ.out (by have := HLT.out; have := HM.out.sz; omega) (by have := HM.out.sz; omega) hRb (fun D hD => by have := (Array.getElem?_eq_some_iff.1 (HM.out.hDs D hD).2).1; omega) _ _ _ _ _ hIn0 hT3 (fun i h => .inl h)
            have h1 := hIn0.1
            have hyc := mass_Sets.cell h3
            simp only [World.size_alloc] at hn1
            have hyy := HY.out _ (pre ++ pin) x W0' W3 (fun i h => .inl (HM.out.O0 i h)) (fun i h => by rcases h with h | h | h; (have := HM.out.Ob i h; omega); omega; exact hOb i h) (by have := HM.out.sz; omega) h1 (hT3.mono (fun i h => .inr (.inr h))) (Kd.R_mono (Kd.R_bound hGx) (fun i hi ho => by
              have a1 := hi.2.1
              rcases ho with ho | ho | ho | ho
              · have := HM.out.Ob i ho; omega
              · omega
              · exact hi.1 ho
              · rcases ho with ho | ho <;> simp at ho <;> omega))
            obtain ⟨fn, tmps, assign, body, hy, hR⟩ := hyy
            dsimp only [mass_Sets.enc] at hy
            have HR := Aside0.mk hR
            have HH := Aside0.mk (And.intro h2 (And.intro h3 (And.intro h4 (And.intro h5 (And.intro h6 h7)))))
            clear hR h1 h2 h3 h4 h5 h6 h7
            gi_wp2_with ((with_reducible refine (roundIn_any HR.out).mono ?_); rintro e W4 hx4; obtain ⟨bb, rfl, HX4⟩ := mass_Sets.either hx4; clear hx4)
            all_goals
              obtain ⟨h2, h3, h4, h5, h6, h7⟩ := HH.out
              rcases HX4.out with ⟨rfl, hJ4, hk4⟩ | ⟨rfl, hJ4, hk4⟩
              · first
                | (exfalso; rename_i hq; simp at hq; done)
                | exact ⟨hk4.mono (fun i hi => .inr (by rcases hi with hi | hi; exact .inr (.inl ⟨by omega, hi.2⟩); exact .inr (.inr hi))), by rw [← List.append_assoc]; exact hJ4, h2.keeps hk4 (fun i a b => .inr (.inl (HM.out.O0 i ⟨a, b⟩))), (hk4.same _ (.inr (.inl HM.out.Oy)) (Array.getElem?_eq_some_iff.1 h3).1).trans h3, Kd.F_step h4 (fun i hi hl => hk4.same i (.inl hi) hl), fun D hD => (hk4.same D (.inr (.inl (HM.out.hDs D hD).1)) (Array.getElem?_eq_some_iff.1 (h5 D hD)).1).trans (h5 D hD), h6, Nat.le_trans h7 hk4.size⟩
              · first
                | (exfalso; rename_i hq; simp at hq; done)
                | exact ⟨hk4.mono (fun i hi => .inr (by rcases hi with hi | hi; exact .inr (.inl ⟨by omega, hi.2⟩); exact .inr (.inr hi))), rfl, by rw [← List.append_assoc]; exact hJ4, fun D hD => (hk4.same D (.inr (.inl (HM.out.hDs D hD).1)) (Array.getElem?_eq_some_iff.1 (h5 D hD)).1).trans (h5 D hD), h6, Nat.le_trans h7 hk4.size⟩
          · intro O₁ xs W4 hO0 hS ⟨h1, h2, h3, h4, h5, h6, h7⟩ hD
            have hsz : w4.heap.size + 4 < W4.heap.size := by have := (Array.getElem?_eq_some_iff.1 hD).1; simp at this; omega
            have H1 := Aside0.mk (And.intro h1 (And.intro h2 (And.intro h3 (And.intro h4 (And.intro h5 (And.intro h6 h7))))))
            have HD := Aside0.mk hD
            have HS2 := Aside0.mk hS
            clear h1 h2 h3 h4 h5 h6 h7 hS hD hO0
            gi_wp2
            obtain ⟨h1, h2, h3, h4, h5, h6, h7⟩ := H1.out
            have hw2 : W2.heap.size ≤ W4.heap.size := by omega
            refine ⟨⟨j + 1, (w4.heap.size + 1 + 1 + 1 + 1) :: Ds, ⟨by simp; omega, rfl⟩, (fun i => (O i ∨ (W2.heap.size ≤ i ∧ i < w4.heap.size) ∨ (O₁ i ∨ Book ((((w4.alloc (.cells #[.int .i64 k] 3)).alloc (.cells #[.int .i64 (f + (j : Int) + 1)] 3)).alloc (.cells #[.int .i64 (d : Int)] 3)).alloc (.cells #[.slice Av (s.length + 1) cv] 22)) i)) ∧ i < W4.heap.size), pre ++ xs, ⟨⟨hlt, HJ.out _ _ _ _ _ h1 (Turns.refl _ _) (fun i h => .inl h.1), ?_, h2, h3, h4, fun i h => ⟨.inl (HM.out.O0 i h), by have := HLT.out; have := HM.out.sz; omega⟩, ⟨.inl HM.out.Oy, by have := HM.out.sz; omega⟩, fun i h => ?_, fun i h => h.2, fun D hD => ?_, List.nodup_cons.2 ⟨fun hD => ?_, HM.out.nd⟩, by have := HM.out.sz; omega⟩⟩⟩, by simp [intOf]; omega⟩
            · have e1 := HM.out.hpre
              rw [mass_Sets.rest_step _ _ _ _ _ hlt] at e1
              have e2 : xs.map (·.1) = mass_Sets.rows k d (f + (j : Int) + 1) (s ++ [f + (j : Int)]) := HS2.out
              rw [List.map_append, e2, List.append_assoc]
              exact e1
            · have := HLT.out
              have := HM.out.sz
              rcases h.1 with h | h | h
              · exact HM.out.Oi i h
              · omega
              · have := h6 i h; omega
            · rcases List.mem_cons.1 hD with rfl | hD
              · exact ⟨⟨.inr (.inr (.inr (.inl (by simp)))), hsz⟩, by simpa using HD.out⟩
              · exact ⟨⟨.inl (HM.out.hDs D hD).1, (Array.getElem?_eq_some_iff.1 (h5 D hD)).1⟩, h5 D hD⟩
            · have := (Array.getElem?_eq_some_iff.1 (HM.out.hDs _ hD).2).1
              omega
          · intro O₁ c5 xs W4 hO0 hS ⟨h0, h1, h5, h6, h7⟩ hD
            subst h0
            have H1 := Aside0.mk (And.intro h1 (And.intro h5 (And.intro h6 h7)))
            have HD := Aside0.mk hD
            have HS2 := Aside0.mk hS
            clear h1 h5 h6 h7 hS hD hO0
            gi_wp2
            obtain ⟨h1, h5, h6, h7⟩ := H1.out
            refine leaves_collected (O := fun i => O i ∨ (W2.heap.size ≤ i ∧ i < w4.heap.size) ∨ (O₁ i ∨ Book ((((w4.alloc (.cells #[.int .i64 k] 3)).alloc (.cells #[.int .i64 (f + (j : Int) + 1)] 3)).alloc (.cells #[.int .i64 (d : Int)] 3)).alloc (.cells #[.slice Av (s.length + 1) cv] 22)) i)) 2 ((w4.heap.size + 1 + 1 + 1 + 1) :: Ds) W4 (fun D hD => ?_) (List.nodup_cons.2 ⟨fun hD => ?_, HM.out.nd⟩) (fun W' ht => ⟨_, results_none rfl _ _ _, ⟨_, rfl⟩, .inr ⟨pre ++ xs, _, fun i a b => .inl (HM.out.O0 i ⟨a, b⟩), ?_, HJx.out _ _ _ _ _ h1 ht (fun i h => .inl h)⟩⟩)
            · rcases List.mem_cons.1 hD with rfl | hD
              · exact ⟨.inr (.inr (.inr (.inl (by simp)))), by simpa using HD.out⟩
              · exact ⟨.inl (HM.out.hDs D hD).1, h5 D hD⟩
            · have := (Array.getElem?_eq_some_iff.1 (HM.out.hDs _ hD).2).1
              omega
            · have e1 := HM.out.hpre
              rw [mass_Sets.rest_step _ _ _ _ _ hlt] at e1
              obtain ⟨r, e2⟩ : xs.map (·.1) <+: mass_Sets.rows k d (f + (j : Int) + 1) (s ++ [f + (j : Int)]) := HS2.out
              refine ⟨r ++ mass_Sets.rest k f d s (j + 1), ?_⟩
              rw [List.map_append, ← e1, ← e2]
              simp
      · have hge : ¬ (f + (j : Int) ≤ k - ((d + 1 : Nat) : Int)) := by unfold mass_Sets.m at hlt; omega
        have hdl : (d : Int) ≤ 17592186044416 := by have := HL.out; omega
        have hjm : j = mass_Sets.m k f d := by have := HM.out.hj; omega
        subst hjm
        gi_wp2
        refine leaves_collected (O := O) 2 Ds W2 HM.out.hDs HM.out.nd (fun W' ht => ⟨_, results_none rfl _ _ _, ⟨_, rfl⟩, .inl ⟨pre, O, fun i h1 h2 => HM.out.O0 i ⟨h1, h2⟩, ?_, HJ.out _ _ _ _ _ HM.out.hJ ht (fun i h => .inl h)⟩⟩)
        have := HM.out.hpre
        rw [mass_Sets.rest_end, List.append_nil] at this
        exact this
def mass_Sets.from_ (k : Int) : Nat → List Int → List (List Int)
  | _, [] => []
  | i, x :: r => (if x = 0 then [] else mass_Sets.rows k (i + 1) 0 []) ++ mass_Sets.from_ k (i + 1) r
def mass_Sets.all (k : Int) (l : List Int) : List (List Int) := mass_Sets.from_ k 0 l
def mass_Sets.f (k : Nat) (l0 : List Int) (a1 : Int) : Option (List (List Int) × Int) := (soliton_Check.f k l0 a1).bind fun e => if e = 0 then (if 0 ≤ a1 ∧ a1 ≤ 1152921504606846976 ∧ l0.length < 8796093022208 then (if (mass_Sets.all a1 l0).length ≤ 4096 then some (mass_Sets.all a1 l0, 0) else some ([], 4)) else none) else some ([], 13)
abbrev mass_Sets.KS : Kd (List Int) := Kd.slice 3 (Kd.int .i64)
structure mass_Sets.Has (w : World) (Ds : List Nat) (O : Nat → Prop) (acc : List (List Int)) (W : World) : Prop where
  out : ∃ v, W.heap[w.heap.size + 1 + 1]? = some (.cells #[v] 26 (0, 0)) ∧ Kd.R mass_Sets.KS 22 W (w.heap.size + 3) (fun i => ¬ O i) v acc
  r4 : W.heap[w.heap.size]? = some (.cells #[.slice none 0 0] 26 (0, 0))
  r5 : W.heap[w.heap.size + 1]? = some (.cells #[.int .i64 0] 27 (0, 0))
  b : Below w.heap.size w W
  hO : ∀ i, O i → w.heap.size + 3 ≤ i
  hDs : ∀ D ∈ Ds, ¬ O D ∧ w.heap.size + 3 ≤ D ∧ W.heap[D]? = some (.deferred (some []))
  sz : w.heap.size + 3 ≤ W.heap.size
  len : acc.length ≤ 4096
theorem mass_Sets.Has.turns {w W W' : World} {Ds : List Nat} {O O' : Nat → Prop} {acc : List (List Int)} (h : mass_Sets.Has w Ds O acc W) (ht : Turns O W W') (hg : ∀ k, O' k → O k ∨ W.heap.size ≤ k) : mass_Sets.Has w Ds O' acc W' := by
  obtain ⟨⟨v, h1, h2⟩, h4, h5, hb, hO, hD, hs, hl⟩ := h
  have key : ∀ i, i < w.heap.size + 3 → ¬ O i := fun i hi ho => by have := hO i ho; omega
  refine ⟨⟨v, (ht.block _ (by omega) (key _ (by omega))).trans h1, ?_⟩, (ht.block _ (by omega) (key _ (by omega))).trans h4, (ht.block _ (by omega) (key _ (by omega))).trans h5, hb.trans (ht.below (fun i ho => by have := hO i ho; omega) (by omega)), fun i ho => ?_, fun D hd => ?_, Nat.le_trans hs ht.size, hl⟩
  · exact Kd.R_mono (Kd.R_step (Kd.R_bound h2) (fun i ho hi => ht.block i hi ho.1)) (fun i hi ho => (hg i ho).elim hi.1 (fun hn => by have := hi.2.2.1; omega))
  · rcases hg i ho with h | h
    · exact hO i h
    · omega
  · obtain ⟨d1, d2, d3⟩ := hD D hd
    have d4 := (Array.getElem?_eq_some_iff.1 d3).1
    exact ⟨fun ho => (hg D ho).elim d1 (fun hn => by omega), d2, (ht.block D d4 d1).trans d3⟩
theorem mass_Sets.push {w W w1 : World} {Ds : List Nat} {O : Nat → Prop} {acc : List (List Int)} {v v1 vx : Value} {l : List Int} {N : Nat} {inner : List Value} (h : mass_Sets.Has w Ds O acc W)
    (hv : W.heap[w.heap.size + 1 + 1]? = some (.cells #[v] 26 (0, 0))) (h0 : ∀ k, v.ownBlock = some k → ¬ O k ∧ w.heap.size + 3 ≤ k ∧ k < N ∧ ∃ cs t, W.heap[k]? = some (.cells cs t (0, 0)))
    (hreps : Reps (mass_Sets.KS.M W (w.heap.size + 3) (fun k => (¬ O k ∧ k < N) ∧ some k ≠ v.ownBlock)) 1 acc inner) (hx : Kd.R (Kd.int .i64) 3 W N (fun i => ¬ O i) vx l) (hN : w.heap.size + 3 ≤ N) (hNW : N ≤ W.heap.size) (hOb : ∀ i, O i → i < N) (hlen : acc.length < 4096)
    (hown : w1.ownsRow (w.heap.size + 3) 22 1 v1 (acc.length + 1) (inner ++ [vx])) (hg : (W.alloc (.cells #[vx] 22)).grownBy w1 v.ownBlock) (hat : v1.ownBlock = v.ownBlock ∨ v1.ownBlock = some (W.alloc (.cells #[vx] 22)).heap.size) :
    (w1.heap[w.heap.size + 1 + 1]? = some (.cells #[v] 26 (0, 0))) ∧ mass_Sets.Has w Ds O (acc ++ [l]) (w1.setCell ⟨w.heap.size + 1 + 1, 0, none⟩ v1) ∧ Keeps O W (w1.setCell ⟨w.heap.size + 1 + 1, 0, none⟩ v1) := by
  have hba : Below W.heap.size W (W.alloc (.cells #[vx] 22)) := below_alloc (Below.refl _ _) _
  have hblk : ∀ i, i < W.heap.size → (∀ k, v.ownBlock = some k → i ≠ k) → w1.heap[i]? = W.heap[i]? := fun i hi hne => (hg.block i (Nat.lt_of_lt_of_le hi hba.size) (fun e => hne i e.symm rfl)).trans (hba.block i hi)
  have hlow : ∀ i, i < w.heap.size + 3 → w1.heap[i]? = W.heap[i]? := fun i hi => hblk i (by have := h.sz; omega) (fun k hk e => by have := (h0 k hk).2.1; omega)
  have hbox := (hlow (w.heap.size + 1 + 1) (by omega)).trans hv
  have hsz : W.heap.size ≤ w1.heap.size := Nat.le_trans hba.size hg.size
  have hR : Kd.R mass_Sets.KS 22 w1 (w.heap.size + 3) (fun i => ¬ O i) v1 (acc ++ [l]) := by
    refine Kd.R_appended (d := mass_Sets.KS) (W := W.alloc (.cells #[vx] 22)) (ok := fun i => ¬ O i) (okp := fun i => ¬ O i ∧ N ≤ i) (v := v) (cs := [vx]) (fun k hk => (h0 k hk).1) ?_ ?_ (fun k hk => ⟨hk.1, fun e => by have := (h0 k e.symm).2.2.1; omega⟩) (fun k hk ho => by have := hOb k ho; have := hba.size; omega) hown hg ?_
    · exact hreps.imp_ (fun p c hp => mass_Sets.KS.M_mono (fun k hk => ⟨hk.1.1, hk.2⟩) (Kd.M_below hp hba))
    · exact ⟨vx, rfl, Kd.R_below (Kd.R_lower (Kd.R_mono (Kd.R_bound hx) (fun k hk => ⟨hk.1, hk.2.1⟩)) hN) hba⟩
    · rcases hat with hat | hat
      · exact .inl hat
      · exact .inr ⟨_, hat, Nat.le_refl _⟩
  refine ⟨hbox, ⟨⟨v1, Boxed.set v1 hbox, ?_⟩, ?_, ?_, ?_, h.hO, fun D hD => ?_, ?_, ?_⟩, ⟨?_, fun i hi hl => ?_⟩⟩
  · exact Kd.R_mono (Kd.R_far (p := ⟨w.heap.size + 1 + 1, 0, none⟩) (Kd.R_bound hR) (fun k hk => by have := hk.2.1; show k ≠ w.heap.size + 1 + 1; omega) _) (fun k hk => hk.1)
  · exact (Below.heap_setCell _ _ _ _ (by show _ ≠ w.heap.size + 1 + 1; omega)).trans ((hlow _ (by omega)).trans h.r4)
  · exact (Below.heap_setCell _ _ _ _ (by show _ ≠ w.heap.size + 1 + 1; omega)).trans ((hlow _ (by omega)).trans h.r5)
  · exact (h.b.trans ((hba.mono (by have := h.sz; omega)).grown hg (by have := h.sz; have := hba.size; omega) (fun k hk => by have := (h0 k hk).2.1; omega))).setCell (p := ⟨w.heap.size + 1 + 1, 0, none⟩) (by show w.heap.size ≤ w.heap.size + 1 + 1; omega) _
  · obtain ⟨d1, d2, d3⟩ := h.hDs D hD
    have d4 := (Array.getElem?_eq_some_iff.1 d3).1
    refine ⟨d1, d2, (Below.heap_setCell _ _ _ _ (by show _ ≠ w.heap.size + 1 + 1; omega)).trans ((hblk D d4 (fun k hk e => ?_)).trans d3)⟩
    obtain ⟨_, _, _, cs, t, hc⟩ := h0 k hk
    rw [← e, d3] at hc
    cases hc
  · have := h.sz
    simp [World.setCell]
    omega
  · simp
    omega
  · simp [World.setCell]
    omega
  · exact (Below.heap_setCell _ _ _ _ (by have := h.hO i hi; show _ ≠ w.heap.size + 1 + 1; omega)).trans (hblk i hl (fun k hk e => (h0 k hk).1 (e ▸ hi)))
def mass_Sets.Err (w : World) (Ds : List Nat) (acc0 : List (List Int)) (c : Code) (O : Nat → Prop) (pre : List (List Int × Value)) (W : World) : Prop :=
  c = .ret ∧ 4096 < (acc0 ++ pre.map (·.1)).length ∧ W.heap[w.heap.size]? = some (.cells #[.slice none 0 0] 26 (0, 0)) ∧ W.heap[w.heap.size + 1]? = some (.cells #[.int .i64 4] 27 (0, 0)) ∧ Below w.heap.size w W ∧ (∀ i, O i → w.heap.size + 3 ≤ i) ∧ (∀ D ∈ Ds, ¬ O D ∧ w.heap.size + 3 ≤ D ∧ W.heap[D]? = some (.deferred (some []))) ∧ w.heap.size + 3 ≤ W.heap.size
theorem mass_Sets.Err_stable (w : World) (Ds : List Nat) (acc0 : List (List Int)) (c : Code) : Stable (mass_Sets.Err w Ds acc0 c) := by
  intro O O' pre W W' ⟨h1, h2, h4, h5, hb, hO, hD, hs⟩ ht hg
  have key : ∀ i, i < w.heap.size + 3 → ¬ O i := fun i hi ho => by have := hO i ho; omega
  refine ⟨h1, h2, (ht.block _ (by omega) (key _ (by omega))).trans h4, (ht.block _ (by omega) (key _ (by omega))).trans h5, hb.trans (ht.below (fun i ho => by have := hO i ho; omega) (by omega)), fun i ho => ?_, fun D hd => ?_, Nat.le_trans hs ht.size⟩
  · rcases hg i ho with h | h
    · exact hO i h
    · omega
  · obtain ⟨d1, d2, d3⟩ := hD D hd
    have d4 := (Array.getElem?_eq_some_iff.1 d3).1
    exact ⟨fun ho => (hg D ho).elim d1 (fun hn => by omega), d2, (ht.block D d4 d1).trans d3⟩
theorem mass_Sets.from_step (k : Int) (l : List Int) (i : Nat) (h : i < l.length) : mass_Sets.from_ k i (l.drop i) = (if rd l i = 0 then [] else mass_Sets.rows k (i + 1) 0 []) ++ mass_Sets.from_ k (i + 1) (l.drop (i + 1)) := by
  rw [List.drop_eq_getElem_cons h, mass_Sets.from_]
  simp [rd, h]
set_option maxRecDepth 100000 in
set_option maxHeartbeats 8000000 in
theorem mass_Sets.calls_R (k : Nat) (A0 : Option Addr) (c0 : Nat) (l0 : List Int) (a1 : Int) (r1 : List (List Int)) (r2 : Int) (w : World) (hr0 : Kd.C (Kd.int .i64) w A0 l0.length l0) (hc0 : l0.length ≤ c0) (h : mass_Sets.f k l0 a1 = some (r1, r2)) :
    Calls Tryz.prog 17 #[.slice A0 l0.length c0, .int .i64 a1] w fun e w' => ∃ v1_ : Value, e = .returned (.tuple #[v1_, .int .i64 r2]) ∧ Kd.R mass_Sets.KS 22 w' w.heap.size (fun _ => True) v1_ r1 ∧ Below w.heap.size w w' := by
  obtain ⟨e, he, h1⟩ := Option.bind_eq_some_iff.1 h
  have HE := Aside0.mk he
  have H1 := Aside0.mk h1
  have HR0 := Aside0.mk hr0
  have HC0 := Aside0.mk hc0
  have hm : l0.length ≤ 9223372036854775807 := hr0.2.1
  clear h he h1 hr0 hc0
  refine (callsIn_wide (n := 3)).1 ?_
  refine callsIn_of_wp_marks Tryz.func17 rfl trivial ?_ rfl
  simp only [Tryz.ntmps17, List.size_toArray, List.length_cons, List.length_nil, Nat.reduceAdd, Nat.reduceSub, Array.replicate_succ, Array.replicate_zero, List.push_toArray, List.append_toArray, List.nil_append, List.cons_append]
  gi_wp2_with (refine ⟨trivial, ?_⟩; gi_at_call 47; (with_reducible refine (callsIn_wide.2 (soliton_Check.calls k A0 c0 l0 a1 e _ (Kd.C_alloc (Kd.C_alloc HR0.out _) _) HC0.out HE.out)).mono ?_); rintro e' w1 ⟨rfl, nd, rfl⟩)
  · have he0 : ¬ e = 0 := by rename_i hq; simpa using hq
    have h1 := H1.out
    rw [if_neg he0] at h1
    obtain ⟨rfl, rfl⟩ := Prod.mk.inj (Option.some.inj h1)
    have q0 := q_setne (b := w.heap.size) (i := 0) (b' := w.heap.size + 1) (i' := 0) (v := .int .i64 13) (.inl (by omega)) (q_set (v := .slice none 0 0) (b := w.heap.size) (i := 0) (w := ((w.alloc (.cells #[.slice none 0 0] 26)).alloc (.cells #[.int .i64 0] 27)).drewN nd) (u := .slice none 0 0) (q_old (.cells #[.int .i64 0] 27) (q_new rfl rfl)))
    have q1 := q_set (v := .int .i64 13) (b := w.heap.size + 1) (i := 0) (w := (((w.alloc (.cells #[.slice none 0 0] 26)).alloc (.cells #[.int .i64 0] 27)).drewN nd).setCell ⟨w.heap.size, 0, none⟩ (.slice none 0 0)) (u := .int .i64 0) (q_setne (.inl (by omega)) (q_new (w := w.alloc (.cells #[.slice none 0 0] 26)) (by simp) rfl))
    refine ⟨.tuple #[.slice none 0 0, .int .i64 13], by simp [results, Tryz.f17, go_sem, q0, q1], _, rfl, Kd.R_nil _ _ _ _ _, ?_⟩
    exact ((pw_below_drewN (below_alloc (below_alloc (Below.refl _ _) _) _) nd).setCell (p := ⟨w.heap.size, 0, none⟩) (Nat.le_refl _) _).setCell (p := ⟨w.heap.size + 1, 0, none⟩) (by show w.heap.size ≤ w.heap.size + 1; omega) _
  · have he0 : e = 0 := by have hq := ‹(e != 0) = false›; simpa using hq
    have h1 := H1.out
    rw [if_pos he0] at h1
    have hgd : 0 ≤ a1 ∧ a1 ≤ 1152921504606846976 ∧ l0.length < 8796093022208 := by
      rcases Classical.em (0 ≤ a1 ∧ a1 ≤ 1152921504606846976 ∧ l0.length < 8796093022208) with h | h
      · exact h
      · rw [if_neg h] at h1; cases h1
    rw [if_pos hgd] at h1
    have HRES := Aside0.mk h1
    clear h1 H1
    subst he0
    obtain ⟨g1, g2, g3⟩ := hgd
    refine wpIn_loop (fun a W2 => ∃ (i : Nat) (Ds : List Nat) (acc : List (List Int)) (u7 u8 u17 u18 u19 u20 u21 u22 u23 u24 u25 u26 u35 : Value), a = { tmps := ((.slice A0 l0.length c0 : Value) :: .int .i64 a1 :: undef :: undef :: .pointer (some ⟨w.heap.size, 0, none⟩) :: .pointer (some ⟨w.heap.size + 1, 0, none⟩) :: .pointer (some ⟨w.heap.size + 1 + 1, 0, none⟩) :: u7 :: u8 :: undef :: .slice A0 l0.length c0 :: .int .i64 a1 :: .int .i64 0 :: .bool false :: .slice A0 l0.length c0 :: .int .i64 (l0.length : Int) :: .int .i64 (i : Int) :: u17 :: u18 :: u19 :: u20 :: u21 :: u22 :: u23 :: u24 :: u25 :: u26 :: undef :: undef :: undef :: undef :: undef :: undef :: undef :: undef :: u35 :: undef :: []).toArray, defers := Ds.map fun D => { target := .collected D, args := #[] } } ∧ i ≤ l0.length ∧ Aside0 (mass_Sets.Has w Ds (fun _ => False) acc W2 ∧ Ds.Nodup ∧ acc ++ mass_Sets.from_ a1 i (l0.drop i) = mass_Sets.all a1 l0)) (fun a _ => l0.length - (intOf (a.tmps.getD 16 undef)).toNat) ?_ ?_
    · refine ⟨0, [], [], undef, undef, undef, undef, undef, undef, undef, undef, undef, undef, undef, undef, undef, rfl, Nat.zero_le _, ⟨⟨⟨_, by have := World.alloc_heap_new ((((w.alloc (.cells #[.slice none 0 0] 26)).alloc (.cells #[.int .i64 0] 27)).drewN nd)) (.cells #[.slice none 0 0] 26); simpa using this, Kd.R_nil _ _ _ _ _⟩, ?_, ?_, below_alloc (pw_below_drewN (below_alloc (below_alloc (Below.refl _ _) _) _) nd) _, fun _ h => h.elim, fun D h => (by cases h), by simp, by simp⟩, List.nodup_nil, rfl⟩⟩
      · exact (Below.heap_alloc _ _ _ (by simp; omega)).trans ((Below.heap_alloc _ _ _ (by simp)).trans (World.alloc_heap_new w _))
      · refine (Below.heap_alloc _ _ _ (by simp)).trans ?_
        have := World.alloc_heap_new (w.alloc (.cells #[.slice none 0 0] 26)) (.cells #[.int .i64 0] 27)
        rwa [World.size_alloc] at this
    · rintro a W2 ⟨i, Ds, acc, u7, u8, u17, u18, u19, u20, u21, u22, u23, u24, u25, u26, u35, rfl, hi, HM⟩
      by_cases hlt : i < l0.length
      · obtain ⟨ad, e1, hx⟩ := Kd.at_int (Kd.C_below HR0.out HM.out.1.b) (i : Int) (by omega) (by omega)
        rw [Int.toNat_natCast] at hx
        subst e1
        gi_wp2_with (refine ⟨trivial, ?_⟩; gi_at_call 59; (with_reducible refine (callsIn_wide.2 (mass_Sets.of a1 0 ((i : Int) + 1) none 0 0 W2)).mono ?_); rintro e5 w5 ⟨rfl, rfl⟩)
        · have hz : rd l0 (i : Int) = 0 := by have hq := ‹(rd l0 (i : Int) == 0) = true›; simpa using hq
          refine ⟨⟨i + 1, Ds, acc, _, _, _, _, _, _, _, _, _, _, _, _, _, rfl, hlt, ⟨HM.out.1, HM.out.2.1, ?_⟩⟩, by simp [intOf]; omega⟩
          have e3 := HM.out.2.2
          rw [mass_Sets.from_step _ _ _ hlt, if_pos hz, List.nil_append] at e3
          exact e3
        · have hz : ¬ rd l0 (i : Int) = 0 := by have hq := ‹(rd l0 (i : Int) == 0) = false›; simpa using hq
          have e3 := HM.out.2.2
          rw [mass_Sets.from_step _ _ _ hlt, if_neg hz] at e3
          have E3 := Aside0.mk e3
          clear e3
          have HB5 : Below W2.heap.size W2 ((((W2.alloc (.cells #[.int .i64 a1] 3)).alloc (.cells #[.int .i64 0] 3)).alloc (.cells #[.int .i64 ((i : Int) + 1)] 3)).alloc (.cells #[.slice none 0 0] 22)) := below_alloc (below_alloc (below_alloc (below_alloc (Below.refl _ _) _) _) _) _
          have hbox : mass_Sets.Boxes W2.heap.size ((((W2.alloc (.cells #[.int .i64 a1] 3)).alloc (.cells #[.int .i64 0] 3)).alloc (.cells #[.int .i64 ((i : Int) + 1)] 3)).alloc (.cells #[.slice none 0 0] 22)) a1 0 ((i + 1 : Nat) : Int) (.slice none ([] : List Int).length 0) := ⟨(Below.heap_alloc _ _ _ (by simp <;> omega)).trans ((Below.heap_alloc _ _ _ (by simp <;> omega)).trans ((Below.heap_alloc _ _ _ (by simp)).trans (World.alloc_heap_new W2 _))), (Below.heap_alloc _ _ _ (by simp <;> omega)).trans ((Below.heap_alloc _ _ _ (by simp)).trans (by have := World.alloc_heap_new (W2.alloc (.cells #[.int .i64 a1] 3)) (.cells #[.int .i64 0] 3); rwa [World.size_alloc] at this)), (Below.heap_alloc _ _ _ (by simp)).trans (by have := World.alloc_heap_new ((W2.alloc (.cells #[.int .i64 a1] 3)).alloc (.cells #[.int .i64 0] 3)) (.cells #[.int .i64 ((i : Int) + 1)] 3); rwa [World.size_alloc, World.size_alloc] at this), by have := World.alloc_heap_new (((W2.alloc (.cells #[.int .i64 a1] 3)).alloc (.cells #[.int .i64 0] 3)).alloc (.cells #[.int .i64 ((i : Int) + 1)] 3)) (.cells #[.slice none 0 0] 22); rw [World.size_alloc, World.size_alloc, World.size_alloc] at this; simpa using this⟩
          have hs5 : ((((W2.alloc (.cells #[.int .i64 a1] 3)).alloc (.cells #[.int .i64 0] 3)).alloc (.cells #[.int .i64 ((i : Int) + 1)] 3)).alloc (.cells #[.slice none 0 0] 22)).heap.size = W2.heap.size + 4 := by simp
          generalize ((((W2.alloc (.cells #[.int .i64 a1] 3)).alloc (.cells #[.int .i64 0] 3)).alloc (.cells #[.int .i64 ((i : Int) + 1)] 3)).alloc (.cells #[.slice none 0 0] 22)) = w5 at *
          refine wpIn_rangeFunc_W (P := Tryz.prog) (gf := 129) (lb := #[.pointer (some ⟨W2.heap.size + 1 + 1, 0, none⟩), .pointer (some ⟨W2.heap.size + 1 + 1 + 1, 0, none⟩), .pointer (some ⟨W2.heap.size + 1, 0, none⟩), .pointer (some ⟨W2.heap.size, 0, none⟩)]) rfl (enters_of Tryz.func129 (by kernel_rfl) rfl)
            (mass_Sets.of_seq a1 g2 (i + 1) 0 W2.heap.size none 0 [] (fun _ => False) w5 hbox (Kd.F_nil _ _ _) (Nat.le_refl _) (by simp; omega) (Int.le_refl _) (by omega) (fun _ h => h.elim))
            mass_Sets.G_local (Keeps.refl _ _) (Nat.le_refl _) (fun j hj => by rcases hj with hj | hj; exact hj.elim; omega) (fun _ => rfl)
            (fun O pre W => mass_Sets.Has w Ds O (acc ++ pre.map (·.1)) W) (mass_Sets.Err w Ds acc) (fun O O' pre W W' h ht hg => h.turns ht hg) (mass_Sets.Err_stable w Ds acc) ?_ (fun x => { tmps := ((.slice (some ad) l0.length c0 : Value) :: .int .i64 a1 :: undef :: undef :: .pointer (some ⟨w.heap.size, 0, none⟩) :: .pointer (some ⟨w.heap.size + 1, 0, none⟩) :: .pointer (some ⟨w.heap.size + 1 + 1, 0, none⟩) :: .int .i64 (i : Int) :: .int .i64 (rd l0 (i : Int)) :: x.2 :: .slice (some ad) l0.length c0 :: .int .i64 a1 :: .int .i64 0 :: .bool false :: .slice (some ad) l0.length c0 :: .int .i64 (l0.length : Int) :: .int .i64 (i : Int) :: .bool true :: .int .i64 (i : Int) :: .pointer (some (ad.add i)) :: .int .i64 (rd l0 (i : Int)) :: .int .i64 (rd l0 (i : Int)) :: .bool false :: .int .i64 a1 :: .int .i64 (i : Int) :: .int .i64 ((i : Int) + 1) :: .func (.func 129) #[] #[.pointer (some ⟨W2.heap.size + 1 + 1, 0, none⟩), .pointer (some ⟨W2.heap.size + 1 + 1 + 1, 0, none⟩), .pointer (some ⟨W2.heap.size + 1, 0, none⟩), .pointer (some ⟨W2.heap.size, 0, none⟩)] :: x.2 :: undef :: undef :: undef :: undef :: undef :: undef :: undef :: u35 :: undef :: []).toArray, defers := [] }) ?_ ?_ ?_ ?_
          · have := HM.out.1.turns (O' := fun j => W2.heap.size ≤ j ∧ j < W2.heap.size + 4) (Turns.of_below HB5) (fun j hj => .inr hj.1)
            simpa using this
          · intro l' x W3 K3 hK3
            gi_wp2
            exact hK3
          · intro l' O₁ pre x W0' W3 hn1 hO0 hOb hBk hI0 hT3 hGx
            obtain ⟨v, hv, hR⟩ := hI0.out
            have hI3 := hI0.turns hT3 (fun j h => .inl h)
            have hRb := Kd.R_step (w1 := W3) (Kd.R_bound hR) (fun j ho hl => hT3.block j hl ho.1)
            have hv3 := (hT3.block _ (by have := hI0.sz; omega) (fun h => by have := hI0.hO _ h; omega)).trans hv
            obtain ⟨Av, cv, rfl⟩ := Kd.R_slice hR
            obtain ⟨xl, xv⟩ := x
            change Kd.R (Kd.int .i64) 3 W3 W0'.heap.size (fun i => ¬ O₁ i) xv xl at hGx
            obtain ⟨Ax, cx, rfl⟩ := Kd.R_slice hGx
            obtain ⟨hown0, inner, hown1, hreps⟩ := hRb
            have HO0 : Aside0 (∀ k, (Value.slice Av (acc ++ pre.map (·.1)).length cv).ownBlock = some k → ¬ (O₁ k ∨ Book w5 k) ∧ w.heap.size + 3 ≤ k ∧ k < W0'.heap.size ∧ ∃ cs t, W3.heap[k]? = some (.cells cs t (0, 0))) := ⟨fun k hk => by
              obtain ⟨b1, b2, b3, q, _, cells, b4⟩ := hown0 k hk
              exact ⟨b1, b2, b3, cells, q, (hT3.block k b3 b1).trans b4⟩⟩
            have HREP : Aside0 (Reps (mass_Sets.KS.M W3 (w.heap.size + 3) (fun k => (¬ (O₁ k ∨ Book w5 k) ∧ k < W0'.heap.size) ∧ some k ≠ (Value.slice Av (acc ++ pre.map (·.1)).length cv).ownBlock)) 1 (acc ++ pre.map (·.1)) inner) := ⟨hreps.imp_ (fun p c hp => mass_Sets.KS.M_mono (fun k hk => ⟨⟨hk.1.1, hk.1.2.2.1⟩, hk.2⟩) hp)⟩
            have HG2 : Aside0 (Kd.R (Kd.int .i64) 3 W3 W0'.heap.size (fun j => ¬ (O₁ j ∨ Book w5 j)) (.slice Ax xl.length cx) xl) := ⟨Kd.R_mono (Kd.R_bound hGx) (fun j hj ho => ho.elim hj.1 (fun hb => by have := hOb j (.inr hb); have := hj.2.1; omega))⟩
            have HN3 : Aside0 (w.heap.size + 3 ≤ W0'.heap.size) := ⟨hI0.sz⟩
            have HO1 := Aside0.mk (And.intro hown0 (And.intro hown1 hreps))
            obtain ⟨i22, hi22, hz22⟩ := Option.map_eq_some_iff.1 info22
            simp only [Prod.mk.injEq] at hz22
            have HI22 := Aside0.mk (And.intro hi22 hz22)
            clear hi22 hz22 hown0 hown1 hreps
            have c6 := mass_Sets.cell hv3
            have f6 := mass_Sets.frozen hv3
            have c4 := mass_Sets.cell hI3.r4
            have f4 := mass_Sets.frozen hI3.r4
            have c5 := mass_Sets.cell hI3.r5
            have f5 := mass_Sets.frozen hI3.r5
            have c45 : (W3.setCell ⟨w.heap.size, 0, none⟩ (.slice none 0 0)).cell? ⟨w.heap.size + 1, 0, none⟩ = some (.int .i64 0) := q_setne (.inl (by omega)) c5
            have HI3 := Aside0.mk hI3
            have HX := Aside0.mk (And.intro hn1 (And.intro hO0 (And.intro hOb (And.intro hBk (And.intro hv3 hT3.size)))))
            have hl4 := hI3.len
            have HL := Aside0.mk (show (acc ++ pre.map (·.1)).length ≤ 4096 from hl4)
            clear hI3 hGx hn1 hO0 hOb hBk hI0 hT3 hv hR hv3 hl4
            gi_wp2_with (gi_at_builtin; refine wpListIn_append_own_at _ rfl (.tmp 31) (.tmp 33) 26 rfl (w.heap.size + 3) 22 i22 (.slice none 0 0) 1 24 Tryz.underlying26 HI22.out.1 HI22.out.2.1 HI22.out.2.2.1 HI22.out.2.2.2 rfl (by decide) (.slice Av (acc ++ pre.map (·.1)).length cv) (acc ++ pre.map (·.1)).length inner (by simp [go_sem]) (World.ownsRow.alloc HO1.out.2.1 _) ⟨W3.heap.size, 0, none⟩ 1 1 [.slice Ax xl.length cx] rfl rfl (by simp [go_sem]) (by simp [Value.oneCell']) (by have := HL.out; simp only [maxLen]; omega) (by have := HL.out; omega) (by have := HI3.out.sz; simp; omega) ?_; intro v1 w1 hown hg _ hat; have hl5 := ‹((acc.length : Int) + (pre.length : Int) == 4096) = false›; obtain ⟨p1, p2, p3⟩ := mass_Sets.push HI3.out HX.out.2.2.2.2.1 HO0.out HREP.out HG2.out HN3.out HX.out.2.2.2.2.2 HX.out.2.2.1 (by have := HL.out; simp at this hl5 ⊢; omega) hown hg hat; obtain ⟨A1, cv1, rfl⟩ := own_slice hown; have c7 := mass_Sets.cell p1; have f7 := mass_Sets.frozen p1; have HP := Aside0.mk (And.intro p2 p3); clear p1 p2 p3 hown hg hat)
            · have hl5 := ‹((acc.length : Int) + (pre.length : Int) == 4096) = true›
              refine ⟨(Keeps.setCell _ _ _ (fun hj => by have := HI3.out.hO _ hj; simp at this <;> omega)).trans (Keeps.setCell _ _ _ (fun hj => by have := HI3.out.hO _ hj; simp at this <;> omega)), rfl, by simp at hl5 ⊢; omega, (Below.heap_setCell _ _ _ _ (by show _ ≠ w.heap.size + 1; omega)).trans (Boxed.set _ HI3.out.r4), Boxed.set _ ((Below.heap_setCell _ _ _ _ (by show _ ≠ w.heap.size; omega)).trans HI3.out.r5), (HI3.out.b.setCell (p := ⟨w.heap.size, 0, none⟩) (Nat.le_refl _) _).setCell (p := ⟨w.heap.size + 1, 0, none⟩) (by show w.heap.size ≤ w.heap.size + 1; omega) _, HI3.out.hO, fun D hD => ?_, by have := HI3.out.sz; simp [World.setCell]; omega⟩
              obtain ⟨d1, d2, d3⟩ := HI3.out.hDs D hD
              exact ⟨d1, d2, (Below.heap_setCell _ _ _ _ (by show _ ≠ w.heap.size + 1; omega)).trans ((Below.heap_setCell _ _ _ _ (by show _ ≠ w.heap.size; omega)).trans d3)⟩
            · exact ⟨by simpa using HP.out.2, by simpa [List.append_assoc] using HP.out.1⟩
          · intro O xs W4 hO0 hS hH hD
            have HH := Aside0.mk (And.intro hH (And.intro hD hS))
            clear hH hD hS hO0
            gi_wp2
            obtain ⟨hH, hD, hS⟩ := HH.out
            have hH2 := hH.turns (O' := fun _ => False) (Turns.refl _ _) (fun k h => h.elim)
            refine ⟨⟨i + 1, w5.heap.size :: Ds, acc ++ xs.map (·.1), _, _, _, _, _, _, _, _, _, _, _, _, _, rfl, hlt, ⟨⟨hH2.out, hH2.r4, hH2.r5, hH2.b, fun _ h => h.elim, fun D hDD => ?_, hH2.sz, hH2.len⟩, List.nodup_cons.2 ⟨fun hm => ?_, HM.out.2.1⟩, ?_⟩⟩, by simp [intOf]; omega⟩
            · rcases List.mem_cons.1 hDD with rfl | hDD
              · exact ⟨id, by have := HM.out.1.sz; omega, hD⟩
              · exact hH2.hDs D hDD
            · have := (Array.getElem?_eq_some_iff.1 (HM.out.1.hDs _ hm).2.2).1
              omega
            · have e5 : xs.map (·.1) = mass_Sets.rows a1 (i + 1) 0 [] := hS
              rw [e5, List.append_assoc]
              exact E3.out
          · intro O c5 pre W4 hO0 hSp hE hD
            obtain ⟨h0, h1, r4, r5, hb, hO, hDs, hs⟩ := hE
            subst h0
            have HH := Aside0.mk (And.intro h1 (And.intro r4 (And.intro r5 (And.intro hb (And.intro hDs (And.intro hs (And.intro hD hSp)))))))
            clear h1 r4 r5 hb hDs hs hD hSp hO0 hO
            gi_wp2
            obtain ⟨h1, r4, r5, hb, hDs, hs, hD, hSp⟩ := HH.out
            have hall : 4096 < (mass_Sets.all a1 l0).length := by
              obtain ⟨r, e5⟩ : pre.map (·.1) <+: mass_Sets.rows a1 (i + 1) 0 [] := hSp
              rw [← E3.out, ← e5]
              simp at h1 ⊢
              omega
            have h2 := HRES.out
            rw [if_neg (by omega)] at h2
            obtain ⟨rfl, rfl⟩ := Prod.mk.inj (Option.some.inj h2)
            have hlow : ∀ D ∈ w5.heap.size :: Ds, w.heap.size + 3 ≤ D := fun D hDD => by
              rcases List.mem_cons.1 hDD with rfl | hDD
              · have := HM.out.1.sz; omega
              · exact (hDs D hDD).2.1
            rw [← hs5]
            refine leaves_collected (O := fun D => D ∈ w5.heap.size :: Ds) 3 (w5.heap.size :: Ds) W4 (fun D hDD => ⟨hDD, ?_⟩) (List.nodup_cons.2 ⟨fun hm => ?_, HM.out.2.1⟩) (fun W' ht => ?_)
            · rcases List.mem_cons.1 hDD with rfl | hDD
              · exact hD
              · exact (hDs D hDD).2.2
            · have := (Array.getElem?_eq_some_iff.1 (HM.out.1.hDs _ hm).2.2).1
              omega
            · have c4 := mass_Sets.cell ((ht.block _ (by omega) (fun hDD => by have := hlow _ hDD; omega)).trans r4)
              have c5 := mass_Sets.cell ((ht.block _ (by omega) (fun hDD => by have := hlow _ hDD; omega)).trans r5)
              exact ⟨.tuple #[.slice none 0 0, .int .i64 4], by simp [results, Tryz.f17, go_sem, c4, c5], _, rfl, Kd.R_nil _ _ _ _ _, hb.trans (ht.below (fun D hDD => by have := hlow D hDD; omega) (by omega))⟩
      · obtain rfl : i = l0.length := by omega
        obtain ⟨⟨⟨v, hv, hR⟩, r4, r5, hb, _, hDs, hs, hlen⟩, hnd, hall⟩ := HM.out
        obtain ⟨Av, cv, rfl⟩ := Kd.R_slice hR
        have hv1 := mass_Sets.cell hv
        have h41 := mass_Sets.cell r4
        have h42 := mass_Sets.frozen r4
        have h51 := mass_Sets.cell r5
        have h52 := mass_Sets.frozen r5
        have hs4 : (W2.setCell ⟨w.heap.size, 0, none⟩ (.slice Av acc.length cv)).cell? ⟨w.heap.size + 1, 0, none⟩ = some (.int .i64 0) := q_setne (.inl (by omega)) h51
        have HR := Aside0.mk hR
        have HH := Aside0.mk (And.intro hb (And.intro hDs (And.intro hs (And.intro hlen (And.intro hnd (And.intro hall (And.intro r4 r5)))))))
        clear hR hb hDs hs hlen hnd hall hv r4 r5 HM
        gi_wp2
        obtain ⟨hb, hDs, hs, hlen, hnd, hall, r4, r5⟩ := HH.out
        rw [List.drop_length, mass_Sets.from_, List.append_nil] at hall
        have h1 := HRES.out
        rw [← hall, if_pos hlen] at h1
        obtain ⟨rfl, rfl⟩ := Prod.mk.inj (Option.some.inj h1)
        have b4 : ((W2.setCell ⟨w.heap.size, 0, none⟩ (.slice Av acc.length cv)).setCell ⟨w.heap.size + 1, 0, none⟩ (.int .i64 0)).heap[w.heap.size]? = some (.cells #[.slice Av acc.length cv] 26 (0, 0)) := (Below.heap_setCell _ _ _ _ (by show _ ≠ w.heap.size + 1; omega)).trans (Boxed.set _ r4)
        have b5 : ((W2.setCell ⟨w.heap.size, 0, none⟩ (.slice Av acc.length cv)).setCell ⟨w.heap.size + 1, 0, none⟩ (.int .i64 0)).heap[w.heap.size + 1]? = some (.cells #[.int .i64 0] 27 (0, 0)) := Boxed.set _ ((Below.heap_setCell _ _ _ _ (by show _ ≠ w.heap.size; omega)).trans r5)
        have hkeep : ∀ D, w.heap.size + 3 ≤ D → ((W2.setCell ⟨w.heap.size, 0, none⟩ (.slice Av acc.length cv)).setCell ⟨w.heap.size + 1, 0, none⟩ (.int .i64 0)).heap[D]? = W2.heap[D]? := fun D hD => (Below.heap_setCell _ _ _ _ (by show _ ≠ w.heap.size + 1; omega)).trans (Below.heap_setCell _ _ _ _ (by show _ ≠ w.heap.size; omega))
        have hszE : ((W2.setCell ⟨w.heap.size, 0, none⟩ (.slice Av acc.length cv)).setCell ⟨w.heap.size + 1, 0, none⟩ (.int .i64 0)).heap.size = W2.heap.size := by simp [World.setCell]
        have hbE : Below w.heap.size w ((W2.setCell ⟨w.heap.size, 0, none⟩ (.slice Av acc.length cv)).setCell ⟨w.heap.size + 1, 0, none⟩ (.int .i64 0)) := (hb.setCell (p := ⟨w.heap.size, 0, none⟩) (Nat.le_refl _) _).setCell (p := ⟨w.heap.size + 1, 0, none⟩) (by show w.heap.size ≤ w.heap.size + 1; omega) _
        have hRE : Kd.R mass_Sets.KS 22 ((W2.setCell ⟨w.heap.size, 0, none⟩ (.slice Av acc.length cv)).setCell ⟨w.heap.size + 1, 0, none⟩ (.int .i64 0)) (w.heap.size + 3) (fun _ => True) (.slice Av acc.length cv) acc := Kd.R_mono (Kd.R_step (Kd.R_bound HR.out) (fun i hi _ => hkeep i hi.2.1)) (fun _ _ => trivial)
        generalize (W2.setCell ⟨w.heap.size, 0, none⟩ (.slice Av acc.length cv)).setCell ⟨w.heap.size + 1, 0, none⟩ (.int .i64 0) = WE at *
        refine leaves_collected (O := fun D => D ∈ Ds) 3 Ds WE (fun D hD => ⟨hD, (hkeep D (hDs D hD).2.1).trans (hDs D hD).2.2⟩) hnd (fun W' ht => ?_)
        have c4 := mass_Sets.cell ((ht.block _ (by omega) (fun hD => by have := (hDs _ hD).2.1; omega)).trans b4)
        have c5 := mass_Sets.cell ((ht.block _ (by omega) (fun hD => by have := (hDs _ hD).2.1; omega)).trans b5)
        refine ⟨.tuple #[.slice Av acc.length cv, .int .i64 0], by simp [results, Tryz.f17, go_sem, c4, c5], _, rfl, Kd.R_lower (Kd.R_mono (Kd.R_step (Kd.R_bound hRE) (fun i hi hl => ht.block i hl (fun hD => ?_))) (fun _ _ => trivial)) (by omega), hbE.trans (ht.below (fun D hD => by have := (hDs D hD).2.1; omega) (by omega))⟩
        obtain ⟨_, _, _, q, _, cells, hq⟩ := hi
        rw [(hkeep i (hDs i hD).2.1).trans (hDs i hD).2.2] at hq
        cases hq
theorem mass_Sets.calls (k : Nat) (A0 : Option Addr) (c0 : Nat) (l0 : List Int) (a1 : Int) (r1 : List (List Int)) (r2 : Int) (w : World) (hr0 : Kd.C (Kd.int .i64) w A0 l0.length l0) (hc0 : l0.length ≤ c0) (h : mass_Sets.f k l0 a1 = some (r1, r2)) :
    Calls Tryz.prog 17 #[.slice A0 l0.length c0, .int .i64 a1] w fun e w' => ∃ v1_ : Value, e = .returned (.tuple #[v1_, .int .i64 r2]) ∧ Kd.N (Kd.slice 3 (Kd.int .i64)) 22 w' w.heap.size (fun k_ => (w.heap.size ≤ k_)) v1_ r1 ∧ Below w.heap.size w w' := by
  refine (mass_Sets.calls_R k A0 c0 l0 a1 r1 r2 w hr0 hc0 h).mono ?_
  rintro e w' ⟨v, rfl, hv, hb⟩
  exact ⟨v, rfl, Kd.R_N (Kd.R_mono (Kd.R_bound hv) (fun _ h => h.2.1)), hb⟩
end
def ratio_one.f  : Option (List Int) := some (([1] : List Int))
set_option maxHeartbeats 8000000 in
set_option maxRecDepth 100000 in
theorem ratio_one.calls  (r : List Int) (w : World) (h : ratio_one.f  = some r) :
    Calls Tryz.prog 81 #[] w fun e w' => ∃ v0_ : Value, e = .returned (v0_) ∧ Kd.R (Kd.int .u64) 112 w' w.heap.size (fun _ => True) v0_ r ∧ Below w.heap.size w w' := by
  have HB := Aside0.mk (Below.refl w.heap.size w)
  have H : (some (([1] : List Int))) = some r := h
  clear h
  obtain ⟨y367, hy367⟩ : ∃ y_ : List Int, y_ = (([1] : List Int)) := ⟨_, rfl⟩
  replace H : (some y367) = some r := by first | (rw [hy367]; with_reducible exact H) | (have H2_ := (Option.bind_some _ _).symm.trans H; rw [hy367]; with_reducible exact H2_) | (have H2_ := (Option.bind_some _ _).symm.trans H; with_reducible exact H2_) | with_reducible exact H | (rw [hy367]; exact H) | exact H
  have Ny367 := Aside0.mk hy367
  clear hy367
  obtain rfl := Option.some.inj H
  go_enter Tryz.func81, Tryz.ntmps81
  go_wp2_with (first | ((with_reducible refine gate_dst (N := 1) rfl ?_); refine Kd.R_lit (Kd.int .u64) _ 112 ?hg (N := 1) ?hd (xs := ([1] : List Int)) (inner := [.int .u64 1]) (ok := fun _ => True) (okp := fun _ => True) ?hr ?hp (fun _ hk => hk) trivial (Below.refl _ _) (Nat.le_refl _) (by simp) ?_; (case hd => rfl); (case hg => rfl); (case hr => first | (go_simp; done) | (go_simp; rfl)); (case hp => exact (Reps.one (show Kd.M (Kd.int .u64) _ _ _ 1 [.int .u64 1] from rfl) (Reps.none _ _))); intro v368 w1 ho2 hb hg_ hnew_; clear hg_ hnew_; (first | rw [← Ny367.out] at ho2 | (simp only [Int.reduceToNat] at ho2; rw [← Ny367.out] at ho2)); have n0_ := Aside0.mk (Kd.R_lower ho2 (below_size (by repeat (first | (with_reducible first | exact HB.out | apply below_alloc | apply pw_below_drewN | apply below_drew1) | exact HB.out)))); have n1_ := Aside0.mk (below_step (by repeat (first | (with_reducible first | exact HB.out | apply below_alloc | apply pw_below_drewN | apply below_drew1) | exact HB.out)) hb); clear HB; have HO369 := n0_; have HB := n1_; clear n0_ n1_; clear hb ho2))
  go_ret
  exact ⟨_, by first | rfl | (simp [errW_none, errW_some] <;> rfl) | (simp [*, errW_none, errW_some] <;> rfl), by (with_reducible repeat (first | apply Kd.R_alloc | apply Kd.R_drewN | apply Kd.R_drew)); exact HO369.out, by repeat (first | (with_reducible first | exact HB.out | apply below_alloc | apply pw_below_drewN | apply below_drew1) | exact HB.out)⟩
def limbs_room.f (a0 : Int) : Option (List Int) := if 0 ≤ a0 ∧ a0 < 17592186044416 then some (List.replicate a0.toNat 0) else none
theorem clearU64_run (w : World) (ty : TypeId) (g off n cap : Nat) (cur : Array Value) (hg : w.heap[g]? = some (.cells cur 112 (0, 0))) (hn : 0 < n) (hl : off + n ≤ cur.size) :
    (Builtin.clear_ #[40] ty #[.slice (some ⟨g, off, none⟩) n cap]).run Tryz.prog w = .ok (.tuple #[]) (w.setRow g (cur.toList.take off ++ List.replicate n (Value.int .u64 0) ++ cur.toList.drop (off + n)).toArray) := by
  obtain ⟨m, rfl⟩ : ∃ m, n = m + 1 := ⟨n - 1, by omega⟩
  have hz : (Builtin.zeroCells (Value.int .u64 0).cells (m + 1)).toList = List.replicate (m + 1) (.int .u64 0) := by
    apply List.ext_getElem
    · simp [Builtin.zeroCells, Value.cells]
    · intro i h1 h2
      simp [Builtin.zeroCells, Value.cells, Nat.mod_one]
  have hst := run_storeCells_at Tryz.prog g off 112 (List.replicate (m + 1) (.int .u64 0)) 0 cur w hg (by simpa using hl) (by simp [Value.oneCell'])
  have hzv : ∀ W, (zeroValue 112).run Tryz.prog W = .ok (.int .u64 0) W := fun W => by kernel_rfl
  unfold Builtin.clear_
  simp only [List.getElem?_toArray, List.getElem?_cons_zero, Sem.run_bind, Sem.run_pure, Result.andThen_ok, run_underlying Tryz.underlying40, hzv, hz, hst, List.length_replicate, Nat.add_zero]
theorem wpList_clearU64 {P : Program} (hP : P = Tryz.prog) {ops : Array Oper} {rest : List Oper} {o : Oper} {a : Act} {Q : Exit → Act → World → Prop} {w : World} (hgd : o.guard = none) (s : Operand)
    (ho : o.op = .call { callee := .builtin .clear, args := #[s], argTypes := #[40] }) (g off n cap : Nat) (cur : Array Value) (hs : a.eval s = .slice (some ⟨g, off, none⟩) n cap)
    (hg : w.heap[g]? = some (.cells cur 112 (0, 0))) (hn : 0 < n) (hl : off + n ≤ cur.size)
    (h : wpList P ops Q rest (a.put o.dst (.tuple #[])) (w.setRow g (cur.toList.take off ++ List.replicate n (Value.int .u64 0) ++ cur.toList.drop (off + n)).toArray)) : wpList P ops Q (o :: rest) a w := by
  subst hP
  refine wpList_plain hgd fun K hK => ?_
  unfold Oper.wp execOp
  simp only [ho, resolve, invoke, builtin, Sem.run_bind, Sem.run_pure, Result.andThen_ok, List.map_toArray, List.map_cons, List.map_nil, hs, clearU64_run w _ g off n cap cur hg hn hl]
  exact hK _ _ h
theorem wpList_clearU64nil {P : Program} (hP : P = Tryz.prog) {ops : Array Oper} {rest : List Oper} {o : Oper} {a : Act} {Q : Exit → Act → World → Prop} {w : World} (hgd : o.guard = none) (s : Operand)
    (ho : o.op = .call { callee := .builtin .clear, args := #[s], argTypes := #[40] }) (n cap : Nat) (hs : a.eval s = .slice none n cap)
    (h : wpList P ops Q rest (a.put o.dst (.tuple #[])) w) : wpList P ops Q (o :: rest) a w := by
  subst hP
  refine wpList_plain hgd fun K hK => ?_
  have hr : (Builtin.clear_ #[40] o.type #[.slice none n cap]).run Tryz.prog w = .ok (.tuple #[]) w := by
    unfold Builtin.clear_
    simp only [List.getElem?_toArray, List.getElem?_cons_zero, Sem.run_bind, Sem.run_pure, Result.andThen_ok, run_underlying Tryz.underlying40]
  unfold Oper.wp execOp
  simp only [ho, resolve, invoke, builtin, Sem.run_bind, Sem.run_pure, Result.andThen_ok, List.map_toArray, List.map_cons, List.map_nil, hs, hr]
  exact hK _ _ h
set_option maxHeartbeats 1000000 in
theorem limbs_room.grow (n : Int) (h0 : 0 < n) (h1 : n < 17592186044416) (w : World) :
    Calls Tryz.prog 299 #[.slice none 0 0, .int .i64 n] w fun e w' => ∃ g cap cur, e = .returned (.slice (some ⟨g, 0, none⟩) 0 cap) ∧ w.heap.size ≤ g ∧ w'.heap[g]? = some (.cells cur 112 (0, 0)) ∧ n ≤ cap ∧ cap ≤ maxLen ∧ cur.size = cap ∧ Below w.heap.size w w' := by
  have HB := Aside0.mk (Below.refl w.heap.size w)
  have hz : ∀ W base, (Kd.int .u64).M W base (fun _ => False) (0 : Int) (Value.int .u64 0).cells.toList := fun W base => rfl
  have hn0 : 0 ≤ n := by omega
  go_enter Tryz.func299, Tryz.ntmps299
  go_wp2_with ((with_reducible refine gate_builtin (b := .append) (xs := #[.tmp 20, .tmp 21]) rfl ?_); at_builtin; refine Kd.R_append_zeros (Kd.int .u64) (w0 := w) w.heap.size rfl (.tmp 20) (.tmp 21) 40 3 112 (.int .u64 0) 8 rfl Tryz.underlying40 (k := .i64) Tryz.underlying3 info112 rfl (by decide) (by decide) (.slice none 0 0) [] 0 n (fun _ => True) rfl rfl (hz _ _) (fun _ _ => trivial) (Kd.R_nil _ _ _ _ _) hn0 HB.out (Nat.le_refl _) (by simp only [List.length_nil]; omega) ?_; intro v1 w1 ho hb hg hat; obtain ⟨_, inner, hx⟩ := ho; obtain ⟨hlen, hx | ⟨g, cap, cur, e1, hbg, hgg, hnc, hcm, hcs, htk⟩⟩ := hx.1; (· exfalso; have := hx.2; simp at this; omega); subst e1; have HG := Aside0.mk hgg; have HB2 := Aside0.mk hb; simp only [List.nil_append, List.length_replicate] at hnc; clear hgg hb hg hat hx HB htk hlen)
  go_ret
  exact ⟨g, cap, rfl, hbg, cur, HG.out, by omega, hcm, by simpa [Kd.int, Kd.scalar] using hcs, HB2.out⟩
set_option maxHeartbeats 1000000 in
theorem limbs_room.grow0 (w : World) :
    Calls Tryz.prog 299 #[.slice none 0 0, .int .i64 0] w fun e w' => e = .returned (.slice none 0 0) ∧ w = w' := by
  go_enter Tryz.func299, Tryz.ntmps299
  go_wp2
  go_ret
  exact ⟨rfl, rfl⟩
set_option maxHeartbeats 1000000 in
set_option maxRecDepth 100000 in
theorem limbs_room.calls (a0 : Int) (r : List Int) (w : World) (h : limbs_room.f a0 = some r) :
    Calls Tryz.prog 272 #[.int .i64 a0] w fun e w' => ∃ v0_ : Value, e = .returned (v0_) ∧ Kd.R (Kd.int .u64) 112 w' w.heap.size (fun _ => True) v0_ r ∧ Below w.heap.size w w' := by
  unfold limbs_room.f at h
  by_cases c : 0 ≤ a0 ∧ a0 < 17592186044416
  · rw [if_pos c] at h
    obtain rfl := Option.some.inj h
    obtain ⟨c1, c2⟩ := c
    clear h
    rcases Int.lt_or_eq_of_le c1 with c3 | c3
    · go_enter Tryz.func272, Tryz.ntmps272
      go_wp2_with (first | (go_at_call 299; (with_reducible refine (limbs_room.grow a0 c3 c2 _).mono ?_); rintro e w1 ⟨g, cap, cur, rfl, hbg, hg, hcap, hcm, hcs, hb⟩; have HG := Aside0.mk hg; have HB := Aside0.mk hb; have HCS := Aside0.mk hcs; clear hg hb hcs) | ((with_reducible refine gate_builtin (b := .clear) (xs := #[.tmp 8]) rfl ?_); refine wpList_clearU64 rfl rfl (.tmp 8) rfl g 0 a0.toNat cap cur rfl HG.out (by omega) (by have := HCS.out; omega) ?_))
      go_ret
      refine ⟨_, rfl, ⟨fun _ _ => trivial, nums .u64 (List.replicate a0.toNat 0), ⟨?_, .inr ⟨g, cap, _, by rw [List.length_replicate]; rfl, hbg, setRow_heap _ g cur _ _ _ HG.out, by rw [List.length_replicate]; omega, hcm, ?_, ?_⟩⟩, ?_⟩, below_setRow HB.out hbg _⟩
      · simp [nums, Kd.int, Kd.scalar]
      · have := HCS.out
        simp [Kd.int, Kd.scalar]
        omega
      · simp [nums, Kd.int, Kd.scalar]
      · refine ⟨by simp [nums, Kd.int, Kd.scalar], fun j p hj => ?_⟩
        have hl := (List.getElem?_eq_some_iff.1 hj).1
        have hp : p = 0 := by
          obtain ⟨h1, h2⟩ := List.getElem?_eq_some_iff.1 hj
          simpa using h2.symm
        subst hp
        show ((nums .u64 (List.replicate a0.toNat 0)).drop (j * 1)).take 1 = [Value.int .u64 0]
        rw [List.length_replicate] at hl
        obtain ⟨m, hm⟩ : ∃ m, a0.toNat - j = m + 1 := ⟨a0.toNat - j - 1, by omega⟩
        simp [nums, hm, List.replicate_succ]
    · subst c3
      go_enter Tryz.func272, Tryz.ntmps272
      go_wp2_with (first | (go_at_call 299; (with_reducible refine (limbs_room.grow0 _).mono ?_); rintro e w1 ⟨rfl, rfl⟩) | ((with_reducible refine gate_builtin (b := .clear) (xs := #[.tmp 8]) rfl ?_); refine wpList_clearU64nil rfl rfl (.tmp 8) rfl 0 0 rfl ?_))
      go_ret
      exact ⟨_, rfl, Kd.R_nil _ _ _ _ _, Below.refl _ _⟩
  · rw [if_neg c] at h
    cases h
def limbs_Sub.l0 : Nat → List Int → List Int → List Int → Int → Int → Option (List Int × Int)
  | 0, _, _, _, _, _ => none
  | k + 1, x0, x1, x6, x7, x8 => if x7 < (x6.length : Int) then (if 0 ≤ x7 then (if x7 < (x0.length : Int) then ((limbs_digit.f x1 x7).bind fun t179 => ((bits_Sub64.f (rd x0 x7) t179 x8).bind fun bt180 => (limbs_Sub.l0 k x0 x1 (x6.set (x7 : Int).toNat bt180.1) (wrap64 (x7 + 1)) bt180.2))) else (none)) else (none)) else ((limbs_trimmed.f k x6).bind fun t183 => ((slices_ClipNat.f t183).bind fun t186 => (some (t186, 0))))
def limbs_Sub.f (k : Nat) (l0 : List Int) (l1 : List Int) : Option (List Int × Int) := (limbs_Cmp.f l0 l1).bind fun t174 => (if t174 < 0 then (some (([] : List Int), 3)) else ((limbs_room.f (l0.length : Int)).bind fun t175 => (limbs_Sub.l0 k l0 l1 t175 0 0)))
def limbs_Sub.T7 : Bool × List (List Nat × List Nat) := (true, [([], []), ([], []), ([], []), ([], []), ([2, 3], [2, 3]), ([4], [4]), ([], []), ([], []), ([6, 7], [6, 7]), ([], []), ([5, 8, 9, 8], [5, 8, 9]), ([10], [10]), ([11], [11]), ([11], [11]), ([0, 1, 0, 1, 2, 3, 4, 5, 6, 7, 8, 9, 10, 11, 12], [0, 1]), ([14, 12, 10, 0, 1, 2, 3, 4, 5, 6, 7, 8, 9, 10, 11, 12], [12, 14]), ([13, 15, 0, 1, 2, 3, 4, 5, 6, 7, 8, 9, 10, 11, 12, 13, 14, 15], [9, 13])])
def limbs_Sub.B7 : List Nat := [0, 0, 0, 0, 12, 28, 0, 0, 192, 0, 1020, 2044, 4092, 4092, 8191, 24575, 65535]
theorem limbs_Sub.tab7 : rtab .any (opsOf Tryz.f240 7) = limbs_Sub.T7 := by kernel_rfl
theorem limbs_Sub.bits7 : waitsOk limbs_Sub.T7.2 limbs_Sub.B7 = true := by kernel_rfl
set_option maxHeartbeats 8000000 in
set_option maxRecDepth 100000 in
theorem limbs_Sub.calls (k : Nat) (A0 : Option Addr) (c0 : Nat) (l0 : List Int) (A1 : Option Addr) (c1 : Nat) (l1 : List Int) (r1 : List Int) (r2 : Int) (w : World) (hr0 : Kd.C (Kd.int .u64) w A0 l0.length l0) (hc0 : l0.length ≤ c0) (hr1 : Kd.C (Kd.int .u64) w A1 l1.length l1) (hc1 : l1.length ≤ c1) (h : limbs_Sub.f k l0 l1 = some (r1, r2)) :
    Calls Tryz.prog 240 #[.slice A0 l0.length c0, .slice A1 l1.length c1] w fun e w' => ∃ v0_ : Value, e = .returned (.tuple #[v0_, .int .i64 r2]) ∧ Kd.V (Kd.int .u64) 112 w' w.heap.size (fun k_ => (w.heap.size ≤ k_)) v0_ r1 ∧ Below w.heap.size w w' := by
  have HR0 := Aside0.mk hr0
  have HC0 := Aside0.mk hc0
  clear hr0 hc0
  have HR1 := Aside0.mk hr1
  have HC1 := Aside0.mk hc1
  clear hr1 hc1
  have HB := Aside0.mk (Below.refl w.heap.size w)
  have H : ((limbs_Cmp.f l0 l1).bind fun t174 => (if t174 < 0 then (some (([] : List Int), 3)) else ((limbs_room.f (l0.length : Int)).bind fun t175 => (limbs_Sub.l0 k l0 l1 t175 0 0)))) = some (r1, r2) := h
  clear h
  replace H := Option.bind_eq_some_iff.mp H
  obtain ⟨t174, A30, H⟩ := H
  replace H : (if t174 < 0 then (some (([] : List Int), 3)) else ((limbs_room.f (l0.length : Int)).bind fun t175 => (limbs_Sub.l0 k l0 l1 t175 0 0))) = some (r1, r2) := H
  have A3 := Aside0.mk A30
  clear A30
  by_cases c4 : t174 < 0
  · rw [if_pos c4] at H
    have c4b0 : decide (t174 < 0) = true := decide_eq_true c4
    clear c4
    simp only [Option.some.injEq, Prod.mk.injEq] at H
    obtain ⟨rfl, rfl⟩ := H
    go_enter Tryz.func240, Tryz.ntmps240
    go_wp2_with (first | ((with_reducible refine gate_callee (f := 198) rfl ?_); refine goesL_ (some 11) rfl rfl Tryz.func198 (by kernel_rfl) rfl #[.slice A0 l0.length c0, .slice A1 l1.length c1] rfl (by (try simp only [List.map_toArray, List.map_cons, List.map_nil]); first | done | rfl | (simp only [List.length_drop, List.length_take]; rfl)) ?_; (with_reducible refine (limbs_Cmp.calls _ _ l0 _ _ l1 t174 _ ?side1 ?side2 ?side3 ?side4 A3.out).mono ?_); (case side1 => repeat (first | exact HR0.out | (with_reducible refine Kd.C_alloc ?_ _) | (with_reducible refine Kd.C_drewN ?_ _) | (with_reducible refine Kd.C_drew ?_))); (case side2 => exact HC0.out); (case side3 => repeat (first | exact HR1.out | (with_reducible refine Kd.C_alloc ?_ _) | (with_reducible refine Kd.C_drewN ?_ _) | (with_reducible refine Kd.C_drew ?_))); (case side4 => exact HC1.out); rintro e w5 ⟨rfl, hb⟩; refine ⟨_, rfl, ?_⟩; have n0_ := Aside0.mk (below_step (by repeat (first | (with_reducible first | exact HB.out | apply below_alloc | apply pw_below_drewN | apply below_drew1) | exact HB.out)) hb); clear HB; have HB := n0_; clear n0_; (try clear hb); (try clear hb2); (try clear hk); (try clear hi)))
    go_ret2
    exact ⟨_, by first | rfl | (simp [errW_none, errW_some] <;> rfl) | (simp [*, errW_none, errW_some] <;> rfl), Kd.V_nil _ _ _ _ _, by repeat (first | (with_reducible first | exact HB.out | apply below_alloc | apply pw_below_drewN | apply below_drew1) | exact HB.out)⟩
  · rw [if_neg c4] at H
    have c4b0 : decide (t174 < 0) = false := decide_eq_false c4
    clear c4
    replace H := Option.bind_eq_some_iff.mp H
    obtain ⟨t175, A60, H⟩ := H
    replace H : (limbs_Sub.l0 k l0 l1 t175 0 0) = some (r1, r2) := H
    have A6 := Aside0.mk A60
    clear A60
    have H' := Aside0.mk H
    clear H
    go_enter Tryz.func240, Tryz.ntmps240
    go_wp2_with (first | ((with_reducible refine gate_callee (f := 198) rfl ?_); refine goesL_ (some 11) rfl rfl Tryz.func198 (by kernel_rfl) rfl #[.slice A0 l0.length c0, .slice A1 l1.length c1] rfl (by (try simp only [List.map_toArray, List.map_cons, List.map_nil]); first | done | rfl | (simp only [List.length_drop, List.length_take]; rfl)) ?_; (with_reducible refine (limbs_Cmp.calls _ _ l0 _ _ l1 t174 _ ?side1 ?side2 ?side3 ?side4 A3.out).mono ?_); (case side1 => repeat (first | exact HR0.out | (with_reducible refine Kd.C_alloc ?_ _) | (with_reducible refine Kd.C_drewN ?_ _) | (with_reducible refine Kd.C_drew ?_))); (case side2 => exact HC0.out); (case side3 => repeat (first | exact HR1.out | (with_reducible refine Kd.C_alloc ?_ _) | (with_reducible refine Kd.C_drewN ?_ _) | (with_reducible refine Kd.C_drew ?_))); (case side4 => exact HC1.out); rintro e w7 ⟨rfl, hb⟩; refine ⟨_, rfl, ?_⟩; have n0_ := Aside0.mk (below_step (by repeat (first | (with_reducible first | exact HB.out | apply below_alloc | apply pw_below_drewN | apply below_drew1) | exact HB.out)) hb); clear HB; have HB := n0_; clear n0_; (try clear hb); (try clear hb2); (try clear hk); (try clear hi)) | ((with_reducible refine gate_callee (f := 272) rfl ?_); refine goesL_ (some 15) rfl rfl Tryz.func272 (by kernel_rfl) rfl #[.int .i64 (l0.length : Int)] rfl (by (try simp only [List.map_toArray, List.map_cons, List.map_nil]); first | done | rfl | (simp only [List.length_drop, List.length_take]; rfl)) ?_; (with_reducible refine (limbs_room.calls (l0.length : Int) t175 _ A6.out).mono ?_); rintro e w8 ⟨v176, rfl, ho0, hb⟩; refine ⟨_, rfl, ?_⟩; have n0_ := Aside0.mk (Kd.R_lower (Kd.R_newM (M := fun k_ => (w.heap.size ≤ k_)) ho0 (below_size (by repeat (first | (with_reducible first | exact HB.out | apply below_alloc | apply pw_below_drewN | apply below_drew1) | exact HB.out))) (fun k_ h_ => h_)) (below_size (by repeat (first | (with_reducible first | exact HB.out | apply below_alloc | apply pw_below_drewN | apply below_drew1) | exact HB.out)))); have n1_ := Aside0.mk (below_step (by repeat (first | (with_reducible first | exact HB.out | apply below_alloc | apply pw_below_drewN | apply below_drew1) | exact HB.out)) hb); clear HB; have HO177 := n0_; have HB := n1_; clear n0_ n1_; (try clear hb); (try clear hb2); (try clear hk); (try clear hi); (try clear ho0)))
    go_loopg [7, 8] k (fun kq v7 v8 w' => ∃ (x6_1 : List Int) (x7_1 : Int) (x8_1 : Int), v7 = .int .i64 x7_1 ∧ v8 = .int .u64 x8_1 ∧ Aside0 (limbs_Sub.l0 kq l0 l1 x6_1 x7_1 x8_1 = some (r1, r2)) ∧ Aside0 (kq ≤ k) ∧ Aside0 (Kd.R (Kd.int .u64) 112 w' w.heap.size (fun k_ => (w.heap.size ≤ k_)) v176 x6_1) ∧ Aside0 (Below w.heap.size w w'))
    case atStart => exact ⟨(t175), (0), (0), (by first | rfl | (simp; done) | (simp [*]; done)), (by first | rfl | (simp; done) | (simp [*]; done)), H', ⟨Nat.le_refl _⟩, ⟨by (with_reducible repeat (first | apply Kd.R_alloc | apply Kd.R_drewN | apply Kd.R_drew)); exact Kd.R_mono HO177.out (fun _ hk => hk.1)⟩, ⟨by repeat (first | (with_reducible first | exact HB.out | apply below_alloc | apply pw_below_drewN | apply below_drew1) | exact HB.out)⟩⟩
    case round =>
      clear H'
      try clear c1
      try clear c2
      try clear p2
      try clear c4
      try clear c4b0
      obtain ⟨x6_1, x7_1, x8_1, rfl, rfl, HA, HK1, HO_6, HB⟩ := hrel
      cases gk with
      | zero => exact absurd HA.out (by simp [limbs_Sub.l0])
      | succ k1 =>
        have H := HA.out
        clear HA
        simp only [limbs_Sub.l0] at H
        by_cases c9 : x7_1 < (x6_1.length : Int)
        · rw [if_pos c9] at H
          have c9b0 : decide (x7_1 < (x6_1.length : Int)) = true := decide_eq_true c9
          clear c9
          by_cases c10 : 0 ≤ x7_1
          · rw [if_pos c10] at H
            have c10b0 : decide (0 ≤ x7_1) = true := decide_eq_true c10
            clear c10
            by_cases c11 : x7_1 < (l0.length : Int)
            · rw [if_pos c11] at H
              have c11b0 : decide (x7_1 < (l0.length : Int)) = true := decide_eq_true c11
              clear c11
              replace H := Option.bind_eq_some_iff.mp H
              obtain ⟨t179, A120, H⟩ := H
              replace H : ((bits_Sub64.f (rd l0 x7_1) t179 x8_1).bind fun bt180 => (limbs_Sub.l0 k1 l0 l1 (x6_1.set (x7_1 : Int).toNat bt180.1) (wrap64 (x7_1 + 1)) bt180.2)) = some (r1, r2) := H
              have A12 := Aside0.mk A120
              clear A120
              replace H := Option.bind_eq_some_iff.mp H
              obtain ⟨⟨t180, t181⟩, A130, H⟩ := H
              replace H : (limbs_Sub.l0 k1 l0 l1 (x6_1.set (x7_1 : Int).toNat t180) (wrap64 (x7_1 + 1)) t181) = some (r1, r2) := H
              have A13 := Aside0.mk A130
              clear A130
              obtain ⟨y182, hy182⟩ : ∃ y_ : List Int, y_ = (x6_1.set (x7_1 : Int).toNat t180) := ⟨_, rfl⟩
              replace H : (limbs_Sub.l0 k1 l0 l1 y182 (wrap64 (x7_1 + 1)) t181) = some (r1, r2) := by first | (rw [hy182]; with_reducible exact H) | (have H2_ := (Option.bind_some _ _).symm.trans H; rw [hy182]; with_reducible exact H2_) | (have H2_ := (Option.bind_some _ _).symm.trans H; with_reducible exact H2_) | with_reducible exact H | (rw [hy182]; exact H) | exact H
              have Ny182 := Aside0.mk hy182
              clear hy182
              have H' := Aside0.mk H
              clear H
              obtain ⟨Ao15, co15, eo15⟩ := Kd.R_slice HO_6.out
              subst eo15
              try go_wp2
              have n0_ := Aside0.mk (Kd.R_drew HO_6.out)
              have n1_ := Aside0.mk (below_drew1 HB.out)
              clear HO_6
              clear HB
              have HO_6 := n0_
              have HB := n1_
              clear n0_ n1_
              have p178 : 0 ≤ (x7_1 : Int) := of_decide_eq_true (by first | (with_reducible assumption) | assumption)
              have q178 : x7_1 < (l0.length : Int) := of_decide_eq_true (by first | (with_reducible assumption) | assumption)
              obtain ⟨ad178, e178, hx178_0⟩ := Kd.at_int HR0.out x7_1 p178 q178
              have hw178_0 := hx178_0
              cases e178
              replace hx178_0 := (HB.out.cell (World.block_lt_of_cell? w _ hx178_0)).trans hx178_0
              replace p178 := eq_true p178
              replace q178 := eq_true q178
              refine start_ (n := 17) (S := fun w' => w'.cell? (ad178.add (x7_1).toNat) = some (.int .u64 (rd l0 x7_1))) (ds := [15]) #[false, false, false, false, false, false, false, false, false, false, false, false, false, false, false, false, false] (by kernel_rfl) rfl rfl (((HB.out.cell (World.block_lt_of_cell? w _ hw178_0)).trans hw178_0)) (fun hHeld => ?_); refine with_tabW limbs_Sub.tab7 limbs_Sub.bits7 (fun HT_ HW_ => ?_)
              generalize wr.drew = w16 at HO_6 HB hx178_0 hHeld ⊢
              refine pure_ (i := 0) (N := some 23) (v := ?_) (a' := ?_) #[true, false, false, false, false, false, false, false, false, false, false, false, false, false, false, false, false] rfl rfl (any_of HT_.out (by kernel_rfl)) (fun _ _ _ h => h) (Or.inl ⟨by rfl, ?_⟩) ?_ ?_
              rotate_left
              · intro w'
                go_simp
                with_reducible rfl
              rotate_left
              · simp only [Act.put, List.setIfInBounds_toArray, List.set_cons_zero, List.set_cons_succ, i64_w, i32_w]
                rfl
              refine pure_ (i := 1) (N := some 24) (v := ?_) (a' := ?_) #[true, true, false, false, false, false, false, false, false, false, false, false, false, false, false, false, false] rfl rfl (any_of HT_.out (by kernel_rfl)) (fun _ _ _ h => h) (Or.inl ⟨by rfl, ?_⟩) ?_ ?_
              rotate_left
              · intro w'
                go_simp
                with_reducible rfl
              rotate_left
              · simp only [Act.put, List.setIfInBounds_toArray, List.set_cons_zero, List.set_cons_succ, i64_w, i32_w]
                rfl
              refine pure_ (i := 2) (N := some 25) (v := ?_) (a' := ?_) #[true, true, true, false, false, false, false, false, false, false, false, false, false, false, false, false, false] rfl rfl (any_of HT_.out (by kernel_rfl)) (fun _ _ _ h => h) (Or.inl ⟨by rfl, ?_⟩) ?_ ?_
              rotate_left
              · intro w'
                go_simp
                with_reducible rfl
              rotate_left
              · simp only [Act.put, List.setIfInBounds_toArray, List.set_cons_zero, List.set_cons_succ, i64_w, i32_w]
                rfl
              refine pure_ (i := 3) (N := some 26) (v := ?_) (a' := ?_) #[true, true, true, true, false, false, false, false, false, false, false, false, false, false, false, false, false] rfl rfl (any_of HT_.out (by kernel_rfl)) (fun _ _ _ h => h) (Or.inl ⟨by rfl, ?_⟩) ?_ ?_
              rotate_left
              · intro w'
                go_simp
                with_reducible rfl
              rotate_left
              · simp only [Act.put, List.setIfInBounds_toArray, List.set_cons_zero, List.set_cons_succ, i64_w, i32_w]
                rfl
              refine pure_ (i := 4) (N := some 27) (v := ?_) (a' := ?_) #[true, true, true, true, true, false, false, false, false, false, false, false, false, false, false, false, false] rfl rfl (any_of HT_.out (by kernel_rfl)) (fun _ _ _ h => h) (Or.inl ⟨by rfl, ?_⟩) ?_ ?_
              rotate_left
              · intro w'
                go_simp
                with_reducible rfl
              rotate_left
              · simp only [Act.put, List.setIfInBounds_toArray, List.set_cons_zero, List.set_cons_succ, i64_w, i32_w]
                rfl
              refine pure_ (i := 6) (N := some 29) (v := ?_) (a' := ?_) #[true, true, true, true, true, false, true, false, false, false, false, false, false, false, false, false, false] rfl rfl (any_of HT_.out (by kernel_rfl)) (fun _ _ _ h => h) (Or.inl ⟨by rfl, ?_⟩) ?_ ?_
              rotate_left
              · intro w'
                go_simp
                with_reducible rfl
              rotate_left
              · simp only [Act.put, List.setIfInBounds_toArray, List.set_cons_zero, List.set_cons_succ, i64_w, i32_w]
                rfl
              refine pure_ (i := 7) (N := some 30) (v := ?_) (a' := ?_) #[true, true, true, true, true, false, true, true, false, false, false, false, false, false, false, false, false] rfl rfl (any_of HT_.out (by kernel_rfl)) (fun _ _ _ h => h) (Or.inl ⟨by rfl, ?_⟩) ?_ ?_
              rotate_left
              · intro w'
                go_simp
                with_reducible rfl
              rotate_left
              · simp only [Act.put, List.setIfInBounds_toArray, List.set_cons_zero, List.set_cons_succ, i64_w, i32_w]
                rfl
              refine pure_ (i := 9) (N := some 32) (v := ?_) (a' := ?_) #[true, true, true, true, true, false, true, true, false, true, false, false, false, false, false, false, false] rfl rfl (any_of HT_.out (by kernel_rfl)) (fun _ _ _ h => h) (Or.inl ⟨by rfl, ?_⟩) ?_ ?_
              rotate_left
              · intro w'
                go_simp
                with_reducible rfl
              rotate_left
              · simp only [Act.put, List.setIfInBounds_toArray, List.set_cons_zero, List.set_cons_succ, i64_w, i32_w]
                rfl
              refine take_ (i := 5) (N := some 28) (v := ?_) (a' := ?_) #[true, true, true, true, true, true, true, true, false, true, false, false, false, false, false, false, false] rfl rfl (take_ofW HT_.out HW_.out (by kernel_rfl)) (fun _ _ _ h => h) (Or.inl ⟨by rfl, ?_⟩) hHeld ?_ ?_
              rotate_left
              · intro w' s0
                go_simp
                with_reducible rfl
              rotate_left
              · simp only [Act.put, List.setIfInBounds_toArray, List.set_cons_zero, List.set_cons_succ, i64_w, i32_w]
                rfl
              refine one_ (i := 8) (N := some 31) #[true, true, true, true, true, true, true, true, true, true, false, false, false, false, false, false, false] rfl rfl (one_of HT_.out (by kernel_rfl)) (by decide) (fun K hK => ?_)
              refine goes_ Tryz.func271 (by kernel_rfl) rfl #[.slice A1 l1.length c1, .int .i64 x7_1] (by rfl) rfl rfl (by (try simp only [List.map_toArray, List.map_cons, List.map_nil]); first | done | rfl | (simp only [List.length_drop, List.length_take]; rfl)) ?_
              with_reducible refine (limbs_digit.calls _ _ l1 x7_1 t179 _ ?side1 ?side2 A12.out).mono ?_
              (case side1 => repeat (first | exact (Kd.C_below HR1.out HB.out) | (with_reducible refine Kd.C_alloc ?_ _) | (with_reducible refine Kd.C_drewN ?_ _) | (with_reducible refine Kd.C_drew ?_)))
              (case side2 => exact HC1.out)
              rintro e w' ⟨rfl, ⟨nd, rfl⟩⟩
              refine ⟨_, rfl, ?_⟩
              refine hK.out _ _ (((HB.out.cell (World.block_lt_of_cell? w _ hw178_0)).trans hw178_0)) (fun hHeld => ?_)
              clear hK K
              refine norm_ (a' := ?_) ?_ ?_
              rotate_left
              · show Act.put _ (some 31) _ = _
                simp only [Act.put, List.setIfInBounds_toArray, List.set_cons_zero, List.set_cons_succ, i64_w, i32_w]
                rfl
              refine one_ (i := 10) (N := some 33) #[true, true, true, true, true, true, true, true, true, true, true, false, false, false, false, false, false] rfl rfl (one_of HT_.out (by kernel_rfl)) (by decide) (fun K hK => ?_)
              refine goesEd_ Tryz.func274 (by kernel_rfl) rfl #[.int .u64 (rd l0 x7_1), .int .u64 t179, .int .u64 x8_1] (by rfl) rfl rfl (by (try simp only [List.map_toArray, List.map_cons, List.map_nil]); first | done | rfl | (simp only [List.length_drop, List.length_take]; rfl)) ?_
              with_reducible refine (bits_Sub64.calls (rd l0 x7_1) t179 x8_1 t180 t181 _ A13.out).mono ?_
              rintro e w' ⟨rfl, ⟨nd, rfl⟩⟩
              refine ⟨_, rfl, ?_⟩
              have p14 : 0 ≤ (x7_1 : Int) := of_decide_eq_true (by first | (with_reducible assumption) | assumption)
              have q14 : (x7_1 : Int) < ((x6_1.length : Int) : Int) := of_decide_eq_true (by first | (with_reducible assumption) | assumption)
              obtain ⟨go14, co14, eo14, gb14, gl14, cl14, HG14⟩ := Kd.R_form HO_6.out (by omega)
              (first | cases eo14 | (injection eo14 with ea_ en_ ec_; (first | subst ea_ | (injection ea_ with ea_; subst ea_)); subst ec_; clear en_))
              have GB14 := Aside0.mk gb14
              have GG14 := Aside0.mk HG14
              clear gb14 gl14 HG14
              obtain ⟨hx14_0, hf14_0⟩ := Kd.R_celln 0 HO_6.out (x7_1 : Int) p14 q14
              replace p14 := eq_true p14
              replace q14 := eq_true q14
              have HP17 := Kd.R_putn HO_6.out (x7_1 : Int) t180
              rw [← Ny182.out] at HP17
              have HQ17 := Aside0.mk HP17
              clear HP17
              refine hK.out _ _ (((HB.out.cell (World.block_lt_of_cell? w _ hw178_0)).trans hw178_0)) (fun hHeld => ?_)
              clear hK K
              refine norm_ (a' := ?_) ?_ ?_
              rotate_left
              · show Act.put _ (some 33) _ = _
                simp only [Act.put, List.setIfInBounds_toArray, List.set_cons_zero, List.set_cons_succ, i64_w, i32_w]
                rfl
              refine pure_ (i := 11) (N := some 22) (v := ?_) (a' := ?_) #[true, true, true, true, true, true, true, true, true, true, true, true, false, false, false, false, false] rfl rfl (any_of HT_.out (by kernel_rfl)) (fun _ _ _ h => h) (Or.inl ⟨by rfl, ?_⟩) ?_ ?_
              rotate_left
              · intro w'
                go_simp
                with_reducible rfl
              rotate_left
              · simp only [Act.put, List.setIfInBounds_toArray, List.set_cons_zero, List.set_cons_succ, i64_w, i32_w]
                rfl
              refine pure_ (i := 12) (N := some 34) (v := ?_) (a' := ?_) #[true, true, true, true, true, true, true, true, true, true, true, true, true, false, false, false, false] rfl rfl (any_of HT_.out (by kernel_rfl)) (fun _ _ _ h => h) (Or.inl ⟨by rfl, ?_⟩) ?_ ?_
              rotate_left
              · intro w'
                go_simp
                with_reducible rfl
              rotate_left
              · simp only [Act.put, List.setIfInBounds_toArray, List.set_cons_zero, List.set_cons_succ, i64_w, i32_w]
                rfl
              refine pure_ (i := 13) (N := some 35) (v := ?_) (a' := ?_) #[true, true, true, true, true, true, true, true, true, true, true, true, true, true, false, false, false] rfl rfl (any_of HT_.out (by kernel_rfl)) (fun _ _ _ h => h) (Or.inl ⟨by rfl, ?_⟩) ?_ ?_
              rotate_left
              · intro w'
                go_simp
                with_reducible rfl
              rotate_left
              · simp only [Act.put, List.setIfInBounds_toArray, List.set_cons_zero, List.set_cons_succ, i64_w, i32_w]
                rfl
              refine pure_ (i := 14) (N := some 36) (v := ?_) (a' := ?_) #[true, true, true, true, true, true, true, true, true, true, true, true, true, true, true, false, false] rfl rfl (any_of HT_.out (by kernel_rfl)) (fun _ _ _ h => h) (Or.inl ⟨by rfl, ?_⟩) ?_ ?_
              rotate_left
              · intro w'
                go_simp
                with_reducible rfl
              rotate_left
              · simp only [Act.put, List.setIfInBounds_toArray, List.set_cons_zero, List.set_cons_succ, i64_w, i32_w]
                rfl
              refine last_ (i := 15) (N := none) #[true, true, true, true, true, true, true, true, true, true, true, true, true, true, true, true, false] rfl rfl (one_of HT_.out (by kernel_rfl)) (by decide) (fun K hK => ?_)
              refine skip_ (w1 := ?_) (by rfl) rfl ?_ ?_
              rotate_left
              · go_simp
                rfl
              refine hK.out _ _ ?_
              clear hK K
              refine pure_ (i := 16) (N := some 8) (v := ?_) (a' := ?_) #[true, true, true, true, true, true, true, true, true, true, true, true, true, true, true, true, true] rfl rfl (any_of HT_.out (by kernel_rfl)) (fun _ _ _ h => h) (Or.inl ⟨by rfl, ?_⟩) ?_ ?_
              rotate_left
              · intro w'
                go_simp
                with_reducible rfl
              rotate_left
              · simp only [Act.put, List.setIfInBounds_toArray, List.set_cons_zero, List.set_cons_succ, i64_w, i32_w]
                rfl
              refine done_ (done_of HT_.out (by kernel_rfl)) ?_
              try go_wp2
              go_roundg k1
              case measure => have := HK1.out; omega
              case rel => exact ⟨(y182), (wrap64 (x7_1 + 1)), (t181), (by first | rfl | (simp; done) | (simp [*]; done)), (by first | rfl | (simp; done) | (simp [*]; done)), H', ⟨by have := HK1.out; omega⟩, ⟨by (with_reducible repeat (first | apply Kd.R_alloc | apply Kd.R_drewN | apply Kd.R_drew)); exact HQ17.out⟩, ⟨by repeat (first | (with_reducible first | exact HB.out | apply below_alloc | apply pw_below_drewN | apply below_drew1 | refine below_set ?_ GB14.out) | exact HB.out)⟩⟩
            · rw [if_neg c11] at H
              exact absurd H (by simp)
          · rw [if_neg c10] at H
            exact absurd H (by simp)
        · rw [if_neg c9] at H
          have c9b0 : decide (x7_1 < (x6_1.length : Int)) = false := decide_eq_false c9
          clear c9
          replace H := Option.bind_eq_some_iff.mp H
          obtain ⟨t183, A180, H⟩ := H
          replace H : ((slices_ClipNat.f t183).bind fun t186 => (some (t186, 0))) = some (r1, r2) := H
          have A18 := Aside0.mk A180
          clear A180
          replace H := Option.bind_eq_some_iff.mp H
          obtain ⟨t186, A190, H⟩ := H
          replace H : (some (t186, 0)) = some (r1, r2) := H
          have A19 := Aside0.mk A190
          clear A190
          simp only [Option.some.injEq, Prod.mk.injEq] at H
          obtain ⟨rfl, rfl⟩ := H
          obtain ⟨Ao20, co20, eo20⟩ := Kd.R_slice HO_6.out
          subst eo20
          go_wp2_with (first | ((with_reducible refine gate_callee (f := 193) rfl ?_); refine goesL_ (some 38) rfl rfl Tryz.func193 (by kernel_rfl) rfl #[.slice Ao20 x6_1.length co20] rfl (by (try simp only [List.map_toArray, List.map_cons, List.map_nil]); first | done | rfl | (simp only [List.length_drop, List.length_take]; rfl)) ?_; (with_reducible refine (limbs_trimmed.calls k1 (fun k_ => some k_ = (.slice Ao20 x6_1.length co20 : Value).ownBlock) _ _ x6_1 t183 _ ?side1 A18.out).mono ?_); (case side1 => exact Kd.R_V (Kd.R_tight rfl (HO_6.out))); rintro e w21 ⟨v184, rfl, ho0, hb⟩; refine ⟨_, rfl, ?_⟩; have n0_ := Aside0.mk (Kd.R_below (by (with_reducible repeat (first | apply Kd.R_alloc | apply Kd.R_drewN | apply Kd.R_drew)); exact HO_6.out) hb); have n1_ := Aside0.mk (Kd.V_lower (Kd.V_mono (ok' := fun k_ => (w.heap.size ≤ k_)) ho0 (fun k_ hk_ => Or.elim hk_ (fun hs_ => ((HO_6.out).1 k_ hs_.symm)) (fun hn_ => (Nat.le_trans (below_size (by repeat (first | (with_reducible first | exact HB.out | apply below_alloc | apply pw_below_drewN | apply below_drew1) | exact HB.out))) hn_)))) (below_size (by repeat (first | (with_reducible first | exact HB.out | apply below_alloc | apply pw_below_drewN | apply below_drew1) | exact HB.out)))); have n2_ := Aside0.mk (below_step (by repeat (first | (with_reducible first | exact HB.out | apply below_alloc | apply pw_below_drewN | apply below_drew1) | exact HB.out)) hb); clear HO_6; clear HB; have HO_6 := n0_; have HO185 := n1_; have HB := n2_; clear n0_ n1_ n2_; (try clear hb); (try clear hb2); (try clear hk); (try clear hi); (try clear ho0); obtain ⟨Ao22, co22, eo22⟩ := Kd.V_slice HO185.out; subst eo22) | ((with_reducible refine gate_callee (f := 273) rfl ?_); refine goesL_ (some 39) rfl rfl Tryz.func273 (by kernel_rfl) rfl #[.slice Ao22 t183.length co22] rfl (by (try simp only [List.map_toArray, List.map_cons, List.map_nil]); first | done | rfl | (simp only [List.length_drop, List.length_take]; rfl)) ?_; (with_reducible refine (slices_ClipNat.calls (fun k_ => (w.heap.size ≤ k_)) _ _ t183 t186 _ ?side1 A19.out).mono ?_); (case side1 => exact HO185.out); rintro e w23 ⟨v187, rfl, ho0, hb⟩; refine ⟨_, rfl, ?_⟩; have n0_ := Aside0.mk (Kd.R_below (by (with_reducible repeat (first | apply Kd.R_alloc | apply Kd.R_drewN | apply Kd.R_drew)); exact HO_6.out) hb); have n1_ := Aside0.mk (Kd.V_below (by (with_reducible repeat (first | apply Kd.V_alloc | apply Kd.V_drewN | apply Kd.V_drew)); exact HO185.out) hb); have n2_ := Aside0.mk (Kd.V_lower (Kd.V_mono (ok' := fun k_ => (w.heap.size ≤ k_)) ho0 (fun k_ hk_ => Or.elim hk_ (fun hs_ => hs_) (fun hn_ => (Nat.le_trans (below_size (by repeat (first | (with_reducible first | exact HB.out | apply below_alloc | apply pw_below_drewN | apply below_drew1) | exact HB.out))) hn_)))) (below_size (by repeat (first | (with_reducible first | exact HB.out | apply below_alloc | apply pw_below_drewN | apply below_drew1) | exact HB.out)))); have n3_ := Aside0.mk (below_step (by repeat (first | (with_reducible first | exact HB.out | apply below_alloc | apply pw_below_drewN | apply below_drew1) | exact HB.out)) hb); clear HO_6; clear HO185; clear HB; have HO_6 := n0_; have HO185 := n1_; have HO188 := n2_; have HB := n3_; clear n0_ n1_ n2_ n3_; (try clear hb); (try clear hb2); (try clear hk); (try clear hi); (try clear ho0)))
          go_ret2
          exact ⟨_, by first | rfl | (simp [errW_none, errW_some] <;> rfl) | (simp [*, errW_none, errW_some] <;> rfl), by (with_reducible repeat (first | apply Kd.V_alloc | apply Kd.V_drewN | apply Kd.V_drew)); exact HO188.out, by repeat (first | (with_reducible first | exact HB.out | apply below_alloc | apply pw_below_drewN | apply below_drew1) | exact HB.out)⟩
def signed_against.f (k : Nat) (a0_0 : Bool) (l0_1 : List Int) (a1_0 : Bool) (l1_1 : List Int) : Option (Bool × List Int) := (limbs_Sub.f k l0_1 l1_1).bind fun bt616 => (if bt616.2 = 0 then ((signed_Make.f k a0_0 bt616.1).bind fun bt620 => (some (bt620.1, bt620.2))) else ((limbs_Sub.f k l1_1 l0_1).bind fun bt624 => ((signed_Make.f k a1_0 bt624.1).bind fun bt628 => (some (bt628.1, bt628.2)))))
set_option maxHeartbeats 8000000 in
set_option maxRecDepth 100000 in
theorem signed_against.calls (k : Nat) (a0_0 : Bool) (A0_1 : Option Addr) (c0_1 : Nat) (l0_1 : List Int) (a1_0 : Bool) (A1_1 : Option Addr) (c1_1 : Nat) (l1_1 : List Int) (r1 : Bool) (r2 : List Int) (w : World) (hr0_1 : Kd.C (Kd.int .u64) w A0_1 l0_1.length l0_1) (hc0_1 : l0_1.length ≤ c0_1) (hr1_1 : Kd.C (Kd.int .u64) w A1_1 l1_1.length l1_1) (hc1_1 : l1_1.length ≤ c1_1) (h : signed_against.f k a0_0 l0_1 a1_0 l1_1 = some (r1, r2)) :
    Calls Tryz.prog 204 #[.agg #[.bool a0_0, .slice A0_1 l0_1.length c0_1], .agg #[.bool a1_0, .slice A1_1 l1_1.length c1_1]] w fun e w' => ∃ v1_ : Value, e = .returned (.agg #[.bool r1, v1_]) ∧ Kd.R (Kd.int .u64) 112 w' w.heap.size (fun _ => True) v1_ r2 ∧ Below w.heap.size w w' := by
  have hu42 := Tryz.underlying42
  have HR0_1 := Aside0.mk hr0_1
  have HC0_1 := Aside0.mk hc0_1
  clear hr0_1 hc0_1
  have HR1_1 := Aside0.mk hr1_1
  have HC1_1 := Aside0.mk hc1_1
  clear hr1_1 hc1_1
  have HB := Aside0.mk (Below.refl w.heap.size w)
  have H : ((limbs_Sub.f k l0_1 l1_1).bind fun bt616 => (if bt616.2 = 0 then ((signed_Make.f k a0_0 bt616.1).bind fun bt620 => (some (bt620.1, bt620.2))) else ((limbs_Sub.f k l1_1 l0_1).bind fun bt624 => ((signed_Make.f k a1_0 bt624.1).bind fun bt628 => (some (bt628.1, bt628.2)))))) = some (r1, r2) := h
  clear h
  replace H := Option.bind_eq_some_iff.mp H
  obtain ⟨⟨t616, t619⟩, A30, H⟩ := H
  replace H : (if t619 = 0 then ((signed_Make.f k a0_0 t616).bind fun bt620 => (some (bt620.1, bt620.2))) else ((limbs_Sub.f k l1_1 l0_1).bind fun bt624 => ((signed_Make.f k a1_0 bt624.1).bind fun bt628 => (some (bt628.1, bt628.2))))) = some (r1, r2) := H
  have A3 := Aside0.mk A30
  clear A30
  by_cases c4 : t619 = 0
  · rw [if_pos c4] at H
    have c4b0 : (t619 == 0) = true := beq_iff_eq.mpr c4
    have c4b1 : (t619 != 0) = false := bne_eq_false_iff_eq.mpr c4
    clear c4
    replace H := Option.bind_eq_some_iff.mp H
    obtain ⟨⟨t620, t621⟩, A50, H⟩ := H
    replace H : (some (t620, t621)) = some (r1, r2) := H
    have A5 := Aside0.mk A50
    clear A50
    simp only [Option.some.injEq, Prod.mk.injEq] at H
    obtain ⟨rfl, rfl⟩ := H
    go_enter Tryz.func204, Tryz.ntmps204
    go_wp2_with (first | ((with_reducible refine gate_dst (N := 2) rfl ?_); refine box_event ?hg (N := 2) ?hd (cs := #[.bool a0_0, .slice A0_1 l0_1.length c0_1]) (t := 42) ?hr ?_; (case hd => rfl); (case hg => rfl); (case hr => first | (go_simp; done) | (go_simp; rfl)); intro gb613 hg w6 hbox hb; have n0_ := Aside0.mk (below_step (by repeat (first | (with_reducible first | exact HB.out | apply below_alloc | apply pw_below_drewN | apply below_drew1) | exact HB.out)) hb); have n1_ := Aside0.mk (hbox); have n2_ := Aside0.mk ((by rw [hg]; exact (below_size (by repeat (first | (with_reducible first | exact HB.out | apply below_alloc | apply pw_below_drewN | apply below_drew1) | exact HB.out))) : w.heap.size ≤ gb613)); have n3_ := Aside0.mk ((by rw [hg]; exact (below_size (by repeat (first | (with_reducible first | exact HB.out | apply below_alloc | apply pw_below_drewN | apply below_drew1) | exact HB.out))) : w.heap.size ≤ gb613)); clear HB; have HB := n0_; have BK613 := n1_; have GW613 := n2_; have GE613 := n3_; clear n0_ n1_ n2_ n3_; clear hb hbox hg) | ((with_reducible refine gate_dst (N := 3) rfl ?_); refine box_event ?hg (N := 3) ?hd (cs := #[.bool a1_0, .slice A1_1 l1_1.length c1_1]) (t := 42) ?hr ?_; (case hd => rfl); (case hg => rfl); (case hr => first | (go_simp; done) | (go_simp; rfl)); intro gb614 hg w7 hbox hb; have n0_ := Aside0.mk (blk_below (g := gb613) (o := .cells #[.bool a0_0, .slice A0_1 l0_1.length c0_1] 42 (0, 0)) (by (with_reducible repeat (first | refine blk_drewN ?_ _ | refine blk_drew ?_ | refine blk_alloc ?_ _)); exact BK613.out) hb); have n1_ := Aside0.mk (below_step (by repeat (first | (with_reducible first | exact HB.out | apply below_alloc | apply pw_below_drewN | apply below_drew1 | refine below_set ?_ GE613.out) | exact HB.out)) hb); have n2_ := Aside0.mk (hbox); have n3_ := Aside0.mk ((by rw [hg]; exact (below_size (by repeat (first | (with_reducible first | exact HB.out | apply below_alloc | apply pw_below_drewN | apply below_drew1 | refine below_set ?_ GE613.out) | exact HB.out))) : w.heap.size ≤ gb614)); have n4_ := Aside0.mk ((by rw [hg]; exact (below_size (by repeat (first | (with_reducible first | exact HB.out | apply below_alloc | apply pw_below_drewN | apply below_drew1 | refine below_set ?_ GE613.out) | exact HB.out))) : w.heap.size ≤ gb614)); have n5_ := Aside0.mk ((by rw [hg]; exact Nat.ne_of_lt (blk_lt (g := gb613) (o := .cells #[.bool a0_0, .slice A0_1 l0_1.length c0_1] 42 (0, 0)) (by (with_reducible repeat (first | refine blk_drewN ?_ _ | refine blk_drew ?_ | refine blk_alloc ?_ _)); exact BK613.out)) : gb613 ≠ gb614)); have n6_ := Aside0.mk ((by rw [hg]; exact Nat.ne_of_gt (blk_lt (g := gb613) (o := .cells #[.bool a0_0, .slice A0_1 l0_1.length c0_1] 42 (0, 0)) (by (with_reducible repeat (first | refine blk_drewN ?_ _ | refine blk_drew ?_ | refine blk_alloc ?_ _)); exact BK613.out)) : gb614 ≠ gb613)); clear BK613; clear HB; have BK613 := n0_; have HB := n1_; have BK614 := n2_; have GW614 := n3_; have GE614 := n4_; have NB613_614 := n5_; have NB614_613 := n6_; clear n0_ n1_ n2_ n3_ n4_ n5_ n6_; clear hb hbox hg) | ((with_reducible refine gate_dst (N := 4) rfl ?_); refine box_event ?hg (N := 4) ?hd (cs := #[.bool false, .slice none 0 0]) (t := 42) ?hr ?_; (case hd => rfl); (case hg => rfl); (case hr => first | (go_simp; done) | (go_simp; rfl)); intro gb615 hg w8 hbox hb; have n0_ := Aside0.mk (blk_below (g := gb613) (o := .cells #[.bool a0_0, .slice A0_1 l0_1.length c0_1] 42 (0, 0)) (by (with_reducible repeat (first | refine blk_drewN ?_ _ | refine blk_drew ?_ | refine blk_alloc ?_ _)); exact BK613.out) hb); have n1_ := Aside0.mk (blk_below (g := gb614) (o := .cells #[.bool a1_0, .slice A1_1 l1_1.length c1_1] 42 (0, 0)) (by (with_reducible repeat (first | refine blk_drewN ?_ _ | refine blk_drew ?_ | refine blk_alloc ?_ _)); exact BK614.out) hb); have n2_ := Aside0.mk (below_step (by repeat (first | (with_reducible first | exact HB.out | apply below_alloc | apply pw_below_drewN | apply below_drew1 | refine below_set ?_ GE613.out | refine below_set ?_ GE614.out) | exact HB.out)) hb); have n3_ := Aside0.mk (hbox); have n4_ := Aside0.mk ((by rw [hg]; exact (below_size (by repeat (first | (with_reducible first | exact HB.out | apply below_alloc | apply pw_below_drewN | apply below_drew1 | refine below_set ?_ GE613.out | refine below_set ?_ GE614.out) | exact HB.out))) : w.heap.size ≤ gb615)); have n5_ := Aside0.mk ((by rw [hg]; exact (below_size (by repeat (first | (with_reducible first | exact HB.out | apply below_alloc | apply pw_below_drewN | apply below_drew1 | refine below_set ?_ GE613.out | refine below_set ?_ GE614.out) | exact HB.out))) : w.heap.size ≤ gb615)); have n6_ := Aside0.mk ((by rw [hg]; exact Nat.ne_of_lt (blk_lt (g := gb613) (o := .cells #[.bool a0_0, .slice A0_1 l0_1.length c0_1] 42 (0, 0)) (by (with_reducible repeat (first | refine blk_drewN ?_ _ | refine blk_drew ?_ | refine blk_alloc ?_ _)); exact BK613.out)) : gb613 ≠ gb615)); have n7_ := Aside0.mk ((by rw [hg]; exact Nat.ne_of_gt (blk_lt (g := gb613) (o := .cells #[.bool a0_0, .slice A0_1 l0_1.length c0_1] 42 (0, 0)) (by (with_reducible repeat (first | refine blk_drewN ?_ _ | refine blk_drew ?_ | refine blk_alloc ?_ _)); exact BK613.out)) : gb615 ≠ gb613)); have n8_ := Aside0.mk ((by rw [hg]; exact Nat.ne_of_lt (blk_lt (g := gb614) (o := .cells #[.bool a1_0, .slice A1_1 l1_1.length c1_1] 42 (0, 0)) (by (with_reducible repeat (first | refine blk_drewN ?_ _ | refine blk_drew ?_ | refine blk_alloc ?_ _)); exact BK614.out)) : gb614 ≠ gb615)); have n9_ := Aside0.mk ((by rw [hg]; exact Nat.ne_of_gt (blk_lt (g := gb614) (o := .cells #[.bool a1_0, .slice A1_1 l1_1.length c1_1] 42 (0, 0)) (by (with_reducible repeat (first | refine blk_drewN ?_ _ | refine blk_drew ?_ | refine blk_alloc ?_ _)); exact BK614.out)) : gb615 ≠ gb614)); clear BK613; clear BK614; clear HB; have BK613 := n0_; have BK614 := n1_; have HB := n2_; have BK615 := n3_; have GW615 := n4_; have GE615 := n5_; have NB613_615 := n6_; have NB615_613 := n7_; have NB614_615 := n8_; have NB615_614 := n9_; clear n0_ n1_ n2_ n3_ n4_ n5_ n6_ n7_ n8_ n9_; clear hb hbox hg; have hnb9 := NB613_614.out; have hnc9 := NB614_613.out; have hnb10 := NB613_615.out; have hnc10 := NB615_613.out; have hcz11_0 : w8.cell? ⟨gb613, 0, none⟩ = some (.bool a0_0) := (blk_cell BK613.out 0).trans rfl; have hcz11_1 : w8.cell? ⟨gb613, 1, none⟩ = some (.slice A0_1 l0_1.length c0_1) := (blk_cell BK613.out 1).trans rfl; have hfz11_0 := blk_frozen BK613.out 0; have hfz11_1 := blk_frozen BK613.out 1; have hnb12 := NB614_615.out; have hnc12 := NB615_614.out; have hcz13_0 : w8.cell? ⟨gb614, 0, none⟩ = some (.bool a1_0) := (blk_cell BK614.out 0).trans rfl; have hcz13_1 : w8.cell? ⟨gb614, 1, none⟩ = some (.slice A1_1 l1_1.length c1_1) := (blk_cell BK614.out 1).trans rfl; have hfz13_0 := blk_frozen BK614.out 0; have hfz13_1 := blk_frozen BK614.out 1) | ((with_reducible refine gate_callee (f := 240) rfl ?_); refine goesL_ (some 14) rfl rfl Tryz.func240 (by kernel_rfl) rfl #[.slice A0_1 l0_1.length c0_1, .slice A1_1 l1_1.length c1_1] rfl (by (try simp only [List.map_toArray, List.map_cons, List.map_nil]); first | done | rfl | (simp only [List.length_drop, List.length_take]; rfl)) ?_; (with_reducible refine (limbs_Sub.calls k _ _ l0_1 _ _ l1_1 t616 t619 _ ?side1 ?side2 ?side3 ?side4 A3.out).mono ?_); (case side1 => repeat (first | exact (Kd.C_below HR0_1.out HB.out) | (with_reducible refine Kd.C_alloc ?_ _) | (with_reducible refine Kd.C_drewN ?_ _) | (with_reducible refine Kd.C_drew ?_))); (case side2 => exact HC0_1.out); (case side3 => repeat (first | exact (Kd.C_below HR1_1.out HB.out) | (with_reducible refine Kd.C_alloc ?_ _) | (with_reducible refine Kd.C_drewN ?_ _) | (with_reducible refine Kd.C_drew ?_))); (case side4 => exact HC1_1.out); rintro e w14 ⟨v617, rfl, ho0, hb⟩; refine ⟨_, rfl, ?_⟩; have n0_ := Aside0.mk (Kd.V_lower (Kd.V_mono (ok' := fun k_ => k_ ≠ gb613 ∧ k_ ≠ gb614 ∧ k_ ≠ gb615) ho0 (fun k_ hk_ => ⟨(Kd.freshB (g := gb613) (o := .cells #[.bool a0_0, .slice A0_1 l0_1.length c0_1] 42 (0, 0)) (by (with_reducible repeat (first | refine blk_drewN ?_ _ | refine blk_drew ?_ | refine blk_alloc ?_ _)); exact BK613.out) k_ hk_), (Kd.freshB (g := gb614) (o := .cells #[.bool a1_0, .slice A1_1 l1_1.length c1_1] 42 (0, 0)) (by (with_reducible repeat (first | refine blk_drewN ?_ _ | refine blk_drew ?_ | refine blk_alloc ?_ _)); exact BK614.out) k_ hk_), (Kd.freshB (g := gb615) (o := .cells #[.bool false, .slice none 0 0] 42 (0, 0)) (by (with_reducible repeat (first | refine blk_drewN ?_ _ | refine blk_drew ?_ | refine blk_alloc ?_ _)); exact BK615.out) k_ hk_)⟩)) (below_size (by repeat (first | (with_reducible first | exact HB.out | apply below_alloc | apply pw_below_drewN | apply below_drew1 | refine below_set ?_ GE613.out | refine below_set ?_ GE614.out | refine below_set ?_ GE615.out) | exact HB.out)))); have n1_ := Aside0.mk (blk_below (g := gb613) (o := .cells #[.bool a0_0, .slice A0_1 l0_1.length c0_1] 42 (0, 0)) (by (with_reducible repeat (first | refine blk_drewN ?_ _ | refine blk_drew ?_ | refine blk_alloc ?_ _)); exact BK613.out) hb); have n2_ := Aside0.mk (blk_below (g := gb614) (o := .cells #[.bool a1_0, .slice A1_1 l1_1.length c1_1] 42 (0, 0)) (by (with_reducible repeat (first | refine blk_drewN ?_ _ | refine blk_drew ?_ | refine blk_alloc ?_ _)); exact BK614.out) hb); have n3_ := Aside0.mk (blk_below (g := gb615) (o := .cells #[.bool false, .slice none 0 0] 42 (0, 0)) (by (with_reducible repeat (first | refine blk_drewN ?_ _ | refine blk_drew ?_ | refine blk_alloc ?_ _)); exact BK615.out) hb); have n4_ := Aside0.mk (below_step (by repeat (first | (with_reducible first | exact HB.out | apply below_alloc | apply pw_below_drewN | apply below_drew1 | refine below_set ?_ GE613.out | refine below_set ?_ GE614.out | refine below_set ?_ GE615.out) | exact HB.out)) hb); clear BK613; clear BK614; clear BK615; clear HB; have HO618 := n0_; have BK613 := n1_; have BK614 := n2_; have BK615 := n3_; have HB := n4_; clear n0_ n1_ n2_ n3_ n4_; (try clear hb); (try clear hb2); (try clear hk); (try clear hi); (try clear ho0); have hcz15_0 : w14.cell? ⟨gb613, 0, none⟩ = some (.bool a0_0) := (blk_cell BK613.out 0).trans rfl; have hcz15_1 : w14.cell? ⟨gb613, 1, none⟩ = some (.slice A0_1 l0_1.length c0_1) := (blk_cell BK613.out 1).trans rfl; have hfz15_0 := blk_frozen BK613.out 0; have hfz15_1 := blk_frozen BK613.out 1; obtain ⟨Ao16, co16, eo16⟩ := Kd.V_slice HO618.out; subst eo16) | ((with_reducible refine gate_callee (f := 69) rfl ?_); refine goesL_ (some 22) rfl rfl Tryz.func69 (by kernel_rfl) rfl #[.bool a0_0, .slice Ao16 t616.length co16] rfl (by (try simp only [List.map_toArray, List.map_cons, List.map_nil]); first | done | rfl | (simp only [List.length_drop, List.length_take]; rfl)) ?_; (with_reducible refine (signed_Make.calls k a0_0 _ _ t616 t620 t621 _ ?side1 ?side2 A5.out).mono ?_); (case side1 => repeat (first | exact (Kd.V_reads' HO618.out).2.2 | (with_reducible refine Kd.C_alloc ?_ _) | (with_reducible refine Kd.C_drewN ?_ _) | (with_reducible refine Kd.C_drew ?_))); (case side2 => exact (Kd.V_reads' HO618.out).2.1); rintro e w17 ⟨v622, rfl, ho0, hb⟩; refine ⟨_, rfl, ?_⟩; have n0_ := Aside0.mk (Kd.V_elder' (by (with_reducible repeat (first | apply Kd.V_alloc | apply Kd.V_drewN | apply Kd.V_drew)); exact HO618.out) (Kd.R_base ho0) hb); have n1_ := Aside0.mk (Kd.R_lower ho0 (below_size (by repeat (first | (with_reducible first | exact HB.out | apply below_alloc | apply pw_below_drewN | apply below_drew1 | refine below_set ?_ GE613.out | refine below_set ?_ GE614.out | refine below_set ?_ GE615.out) | exact HB.out)))); have n2_ := Aside0.mk (blk_below (g := gb613) (o := .cells #[.bool a0_0, .slice A0_1 l0_1.length c0_1] 42 (0, 0)) (by (with_reducible repeat (first | refine blk_drewN ?_ _ | refine blk_drew ?_ | refine blk_alloc ?_ _)); exact BK613.out) hb); have n3_ := Aside0.mk (blk_below (g := gb614) (o := .cells #[.bool a1_0, .slice A1_1 l1_1.length c1_1] 42 (0, 0)) (by (with_reducible repeat (first | refine blk_drewN ?_ _ | refine blk_drew ?_ | refine blk_alloc ?_ _)); exact BK614.out) hb); have n4_ := Aside0.mk (blk_below (g := gb615) (o := .cells #[.bool false, .slice none 0 0] 42 (0, 0)) (by (with_reducible repeat (first | refine blk_drewN ?_ _ | refine blk_drew ?_ | refine blk_alloc ?_ _)); exact BK615.out) hb); have n5_ := Aside0.mk (below_step (by repeat (first | (with_reducible first | exact HB.out | apply below_alloc | apply pw_below_drewN | apply below_drew1 | refine below_set ?_ GE613.out | refine below_set ?_ GE614.out | refine below_set ?_ GE615.out) | exact HB.out)) hb); clear HO618; clear BK613; clear BK614; clear BK615; clear HB; have HO618 := n0_; have HO623 := n1_; have BK613 := n2_; have BK614 := n3_; have BK615 := n4_; have HB := n5_; clear n0_ n1_ n2_ n3_ n4_ n5_; (try clear hb); (try clear hb2); (try clear hk); (try clear hi); (try clear ho0); have hcz18_0 : w17.cell? ⟨gb615, 0, none⟩ = some (.bool false) := (blk_cell BK615.out 0).trans rfl; have hcz18_1 : w17.cell? ⟨gb615, 1, none⟩ = some (.slice none 0 0) := (blk_cell BK615.out 1).trans rfl; have hfz18_0 := blk_frozen BK615.out 0; have hfz18_1 := blk_frozen BK615.out 1; obtain ⟨Ao19, co19, eo19⟩ := Kd.R_slice HO623.out; subst eo19))
    refine bodyPost_ret (results_cell_row rfl _ _ gb615 42 #[.bool t620, .slice Ao19 t621.length co19] (0, 0) _ rfl (by (with_reducible repeat (first | refine blk_drewN ?_ _ | refine blk_drew ?_ | refine blk_alloc ?_ _)); refine blk_put (cs := #[.bool t620, .slice none 0 0]) ?_ 1 _ rfl; (with_reducible repeat (first | refine blk_drewN ?_ _ | refine blk_drew ?_ | refine blk_alloc ?_ _)); refine blk_put (cs := #[.bool false, .slice none 0 0]) ?_ 0 _ rfl; (with_reducible repeat (first | refine blk_drewN ?_ _ | refine blk_drew ?_ | refine blk_alloc ?_ _)); exact BK615.out) Tryz.underlying42 rfl (by kernel_rfl)) rfl ?_
    exact ⟨_, by first | rfl | (simp [errW_none, errW_some] <;> rfl) | (simp [*, errW_none, errW_some] <;> rfl), by (with_reducible repeat (first | apply Kd.R_alloc | apply Kd.R_drewN | apply Kd.R_drew)); exact Kd.R_mono (Kd.R_far (p := ⟨gb615, 1, none⟩) (Kd.R_far (p := ⟨gb615, 0, none⟩) (Kd.R_types HO623.out BK615.out (by decide)) (fun _ hk => hk.2) (.bool t620)) (fun _ hk => hk.2) (.slice Ao19 t621.length co19)) (fun _ hk => trivial), by repeat (first | (with_reducible first | exact HB.out | apply below_alloc | apply pw_below_drewN | apply below_drew1 | refine below_set ?_ GE613.out | refine below_set ?_ GE614.out | refine below_set ?_ GE615.out) | exact HB.out)⟩
  · rw [if_neg c4] at H
    have c4b0 : (t619 == 0) = false := beq_eq_false_iff_ne.mpr c4
    have c4b1 : (t619 != 0) = true := bne_iff_ne.mpr c4
    replace H := Option.bind_eq_some_iff.mp H
    obtain ⟨⟨t624, t627⟩, A200, H⟩ := H
    replace H : ((signed_Make.f k a1_0 t624).bind fun bt628 => (some (bt628.1, bt628.2))) = some (r1, r2) := H
    have A20 := Aside0.mk A200
    clear A200
    replace H := Option.bind_eq_some_iff.mp H
    obtain ⟨⟨t628, t629⟩, A210, H⟩ := H
    replace H : (some (t628, t629)) = some (r1, r2) := H
    have A21 := Aside0.mk A210
    clear A210
    simp only [Option.some.injEq, Prod.mk.injEq] at H
    obtain ⟨rfl, rfl⟩ := H
    go_enter Tryz.func204, Tryz.ntmps204
    go_wp2_with (first | ((with_reducible refine gate_dst (N := 2) rfl ?_); refine box_event ?hg (N := 2) ?hd (cs := #[.bool a0_0, .slice A0_1 l0_1.length c0_1]) (t := 42) ?hr ?_; (case hd => rfl); (case hg => rfl); (case hr => first | (go_simp; done) | (go_simp; rfl)); intro gb613 hg w22 hbox hb; have n0_ := Aside0.mk (below_step (by repeat (first | (with_reducible first | exact HB.out | apply below_alloc | apply pw_below_drewN | apply below_drew1) | exact HB.out)) hb); have n1_ := Aside0.mk (hbox); have n2_ := Aside0.mk ((by rw [hg]; exact (below_size (by repeat (first | (with_reducible first | exact HB.out | apply below_alloc | apply pw_below_drewN | apply below_drew1) | exact HB.out))) : w.heap.size ≤ gb613)); have n3_ := Aside0.mk ((by rw [hg]; exact (below_size (by repeat (first | (with_reducible first | exact HB.out | apply below_alloc | apply pw_below_drewN | apply below_drew1) | exact HB.out))) : w.heap.size ≤ gb613)); clear HB; have HB := n0_; have BK613 := n1_; have GW613 := n2_; have GE613 := n3_; clear n0_ n1_ n2_ n3_; clear hb hbox hg) | ((with_reducible refine gate_dst (N := 3) rfl ?_); refine box_event ?hg (N := 3) ?hd (cs := #[.bool a1_0, .slice A1_1 l1_1.length c1_1]) (t := 42) ?hr ?_; (case hd => rfl); (case hg => rfl); (case hr => first | (go_simp; done) | (go_simp; rfl)); intro gb614 hg w23 hbox hb; have n0_ := Aside0.mk (blk_below (g := gb613) (o := .cells #[.bool a0_0, .slice A0_1 l0_1.length c0_1] 42 (0, 0)) (by (with_reducible repeat (first | refine blk_drewN ?_ _ | refine blk_drew ?_ | refine blk_alloc ?_ _)); exact BK613.out) hb); have n1_ := Aside0.mk (below_step (by repeat (first | (with_reducible first | exact HB.out | apply below_alloc | apply pw_below_drewN | apply below_drew1 | refine below_set ?_ GE613.out) | exact HB.out)) hb); have n2_ := Aside0.mk (hbox); have n3_ := Aside0.mk ((by rw [hg]; exact (below_size (by repeat (first | (with_reducible first | exact HB.out | apply below_alloc | apply pw_below_drewN | apply below_drew1 | refine below_set ?_ GE613.out) | exact HB.out))) : w.heap.size ≤ gb614)); have n4_ := Aside0.mk ((by rw [hg]; exact (below_size (by repeat (first | (with_reducible first | exact HB.out | apply below_alloc | apply pw_below_drewN | apply below_drew1 | refine below_set ?_ GE613.out) | exact HB.out))) : w.heap.size ≤ gb614)); have n5_ := Aside0.mk ((by rw [hg]; exact Nat.ne_of_lt (blk_lt (g := gb613) (o := .cells #[.bool a0_0, .slice A0_1 l0_1.length c0_1] 42 (0, 0)) (by (with_reducible repeat (first | refine blk_drewN ?_ _ | refine blk_drew ?_ | refine blk_alloc ?_ _)); exact BK613.out)) : gb613 ≠ gb614)); have n6_ := Aside0.mk ((by rw [hg]; exact Nat.ne_of_gt (blk_lt (g := gb613) (o := .cells #[.bool a0_0, .slice A0_1 l0_1.length c0_1] 42 (0, 0)) (by (with_reducible repeat (first | refine blk_drewN ?_ _ | refine blk_drew ?_ | refine blk_alloc ?_ _)); exact BK613.out)) : gb614 ≠ gb613)); clear BK613; clear HB; have BK613 := n0_; have HB := n1_; have BK614 := n2_; have GW614 := n3_; have GE614 := n4_; have NB613_614 := n5_; have NB614_613 := n6_; clear n0_ n1_ n2_ n3_ n4_ n5_ n6_; clear hb hbox hg) | ((with_reducible refine gate_dst (N := 4) rfl ?_); refine box_event ?hg (N := 4) ?hd (cs := #[.bool false, .slice none 0 0]) (t := 42) ?hr ?_; (case hd => rfl); (case hg => rfl); (case hr => first | (go_simp; done) | (go_simp; rfl)); intro gb615 hg w24 hbox hb; have n0_ := Aside0.mk (blk_below (g := gb613) (o := .cells #[.bool a0_0, .slice A0_1 l0_1.length c0_1] 42 (0, 0)) (by (with_reducible repeat (first | refine blk_drewN ?_ _ | refine blk_drew ?_ | refine blk_alloc ?_ _)); exact BK613.out) hb); have n1_ := Aside0.mk (blk_below (g := gb614) (o := .cells #[.bool a1_0, .slice A1_1 l1_1.length c1_1] 42 (0, 0)) (by (with_reducible repeat (first | refine blk_drewN ?_ _ | refine blk_drew ?_ | refine blk_alloc ?_ _)); exact BK614.out) hb); have n2_ := Aside0.mk (below_step (by repeat (first | (with_reducible first | exact HB.out | apply below_alloc | apply pw_below_drewN | apply below_drew1 | refine below_set ?_ GE613.out | refine below_set ?_ GE614.out) | exact HB.out)) hb); have n3_ := Aside0.mk (hbox); have n4_ := Aside0.mk ((by rw [hg]; exact (below_size (by repeat (first | (with_reducible first | exact HB.out | apply below_alloc | apply pw_below_drewN | apply below_drew1 | refine below_set ?_ GE613.out | refine below_set ?_ GE614.out) | exact HB.out))) : w.heap.size ≤ gb615)); have n5_ := Aside0.mk ((by rw [hg]; exact (below_size (by repeat (first | (with_reducible first | exact HB.out | apply below_alloc | apply pw_below_drewN | apply below_drew1 | refine below_set ?_ GE613.out | refine below_set ?_ GE614.out) | exact HB.out))) : w.heap.size ≤ gb615)); have n6_ := Aside0.mk ((by rw [hg]; exact Nat.ne_of_lt (blk_lt (g := gb613) (o := .cells #[.bool a0_0, .slice A0_1 l0_1.length c0_1] 42 (0, 0)) (by (with_reducible repeat (first | refine blk_drewN ?_ _ | refine blk_drew ?_ | refine blk_alloc ?_ _)); exact BK613.out)) : gb613 ≠ gb615)); have n7_ := Aside0.mk ((by rw [hg]; exact Nat.ne_of_gt (blk_lt (g := gb613) (o := .cells #[.bool a0_0, .slice A0_1 l0_1.length c0_1] 42 (0, 0)) (by (with_reducible repeat (first | refine blk_drewN ?_ _ | refine blk_drew ?_ | refine blk_alloc ?_ _)); exact BK613.out)) : gb615 ≠ gb613)); have n8_ := Aside0.mk ((by rw [hg]; exact Nat.ne_of_lt (blk_lt (g := gb614) (o := .cells #[.bool a1_0, .slice A1_1 l1_1.length c1_1] 42 (0, 0)) (by (with_reducible repeat (first | refine blk_drewN ?_ _ | refine blk_drew ?_ | refine blk_alloc ?_ _)); exact BK614.out)) : gb614 ≠ gb615)); have n9_ := Aside0.mk ((by rw [hg]; exact Nat.ne_of_gt (blk_lt (g := gb614) (o := .cells #[.bool a1_0, .slice A1_1 l1_1.length c1_1] 42 (0, 0)) (by (with_reducible repeat (first | refine blk_drewN ?_ _ | refine blk_drew ?_ | refine blk_alloc ?_ _)); exact BK614.out)) : gb615 ≠ gb614)); clear BK613; clear BK614; clear HB; have BK613 := n0_; have BK614 := n1_; have HB := n2_; have BK615 := n3_; have GW615 := n4_; have GE615 := n5_; have NB613_615 := n6_; have NB615_613 := n7_; have NB614_615 := n8_; have NB615_614 := n9_; clear n0_ n1_ n2_ n3_ n4_ n5_ n6_ n7_ n8_ n9_; clear hb hbox hg; have hnb25 := NB613_614.out; have hnc25 := NB614_613.out; have hnb26 := NB613_615.out; have hnc26 := NB615_613.out; have hcz27_0 : w24.cell? ⟨gb613, 0, none⟩ = some (.bool a0_0) := (blk_cell BK613.out 0).trans rfl; have hcz27_1 : w24.cell? ⟨gb613, 1, none⟩ = some (.slice A0_1 l0_1.length c0_1) := (blk_cell BK613.out 1).trans rfl; have hfz27_0 := blk_frozen BK613.out 0; have hfz27_1 := blk_frozen BK613.out 1; have hnb28 := NB614_615.out; have hnc28 := NB615_614.out; have hcz29_0 : w24.cell? ⟨gb614, 0, none⟩ = some (.bool a1_0) := (blk_cell BK614.out 0).trans rfl; have hcz29_1 : w24.cell? ⟨gb614, 1, none⟩ = some (.slice A1_1 l1_1.length c1_1) := (blk_cell BK614.out 1).trans rfl; have hfz29_0 := blk_frozen BK614.out 0; have hfz29_1 := blk_frozen BK614.out 1) | ((with_reducible refine gate_callee (f := 240) rfl ?_); refine goesL_ (some 14) rfl rfl Tryz.func240 (by kernel_rfl) rfl #[.slice A0_1 l0_1.length c0_1, .slice A1_1 l1_1.length c1_1] rfl (by (try simp only [List.map_toArray, List.map_cons, List.map_nil]); first | done | rfl | (simp only [List.length_drop, List.length_take]; rfl)) ?_; (with_reducible refine (limbs_Sub.calls k _ _ l0_1 _ _ l1_1 t616 t619 _ ?side1 ?side2 ?side3 ?side4 A3.out).mono ?_); (case side1 => repeat (first | exact (Kd.C_below HR0_1.out HB.out) | (with_reducible refine Kd.C_alloc ?_ _) | (with_reducible refine Kd.C_drewN ?_ _) | (with_reducible refine Kd.C_drew ?_))); (case side2 => exact HC0_1.out); (case side3 => repeat (first | exact (Kd.C_below HR1_1.out HB.out) | (with_reducible refine Kd.C_alloc ?_ _) | (with_reducible refine Kd.C_drewN ?_ _) | (with_reducible refine Kd.C_drew ?_))); (case side4 => exact HC1_1.out); rintro e w30 ⟨v617, rfl, ho0, hb⟩; refine ⟨_, rfl, ?_⟩; have n0_ := Aside0.mk (Kd.V_lower (Kd.V_mono (ok' := fun k_ => k_ ≠ gb613 ∧ k_ ≠ gb614 ∧ k_ ≠ gb615) ho0 (fun k_ hk_ => ⟨(Kd.freshB (g := gb613) (o := .cells #[.bool a0_0, .slice A0_1 l0_1.length c0_1] 42 (0, 0)) (by (with_reducible repeat (first | refine blk_drewN ?_ _ | refine blk_drew ?_ | refine blk_alloc ?_ _)); exact BK613.out) k_ hk_), (Kd.freshB (g := gb614) (o := .cells #[.bool a1_0, .slice A1_1 l1_1.length c1_1] 42 (0, 0)) (by (with_reducible repeat (first | refine blk_drewN ?_ _ | refine blk_drew ?_ | refine blk_alloc ?_ _)); exact BK614.out) k_ hk_), (Kd.freshB (g := gb615) (o := .cells #[.bool false, .slice none 0 0] 42 (0, 0)) (by (with_reducible repeat (first | refine blk_drewN ?_ _ | refine blk_drew ?_ | refine blk_alloc ?_ _)); exact BK615.out) k_ hk_)⟩)) (below_size (by repeat (first | (with_reducible first | exact HB.out | apply below_alloc | apply pw_below_drewN | apply below_drew1 | refine below_set ?_ GE613.out | refine below_set ?_ GE614.out | refine below_set ?_ GE615.out) | exact HB.out)))); have n1_ := Aside0.mk (blk_below (g := gb613) (o := .cells #[.bool a0_0, .slice A0_1 l0_1.length c0_1] 42 (0, 0)) (by (with_reducible repeat (first | refine blk_drewN ?_ _ | refine blk_drew ?_ | refine blk_alloc ?_ _)); exact BK613.out) hb); have n2_ := Aside0.mk (blk_below (g := gb614) (o := .cells #[.bool a1_0, .slice A1_1 l1_1.length c1_1] 42 (0, 0)) (by (with_reducible repeat (first | refine blk_drewN ?_ _ | refine blk_drew ?_ | refine blk_alloc ?_ _)); exact BK614.out) hb); have n3_ := Aside0.mk (blk_below (g := gb615) (o := .cells #[.bool false, .slice none 0 0] 42 (0, 0)) (by (with_reducible repeat (first | refine blk_drewN ?_ _ | refine blk_drew ?_ | refine blk_alloc ?_ _)); exact BK615.out) hb); have n4_ := Aside0.mk (below_step (by repeat (first | (with_reducible first | exact HB.out | apply below_alloc | apply pw_below_drewN | apply below_drew1 | refine below_set ?_ GE613.out | refine below_set ?_ GE614.out | refine below_set ?_ GE615.out) | exact HB.out)) hb); clear BK613; clear BK614; clear BK615; clear HB; have HO618 := n0_; have BK613 := n1_; have BK614 := n2_; have BK615 := n3_; have HB := n4_; clear n0_ n1_ n2_ n3_ n4_; (try clear hb); (try clear hb2); (try clear hk); (try clear hi); (try clear ho0); have hcz31_0 : w30.cell? ⟨gb614, 0, none⟩ = some (.bool a1_0) := (blk_cell BK614.out 0).trans rfl; have hcz31_1 : w30.cell? ⟨gb614, 1, none⟩ = some (.slice A1_1 l1_1.length c1_1) := (blk_cell BK614.out 1).trans rfl; have hfz31_0 := blk_frozen BK614.out 0; have hfz31_1 := blk_frozen BK614.out 1; have hcz32_0 : w30.cell? ⟨gb613, 0, none⟩ = some (.bool a0_0) := (blk_cell BK613.out 0).trans rfl; have hcz32_1 : w30.cell? ⟨gb613, 1, none⟩ = some (.slice A0_1 l0_1.length c0_1) := (blk_cell BK613.out 1).trans rfl; have hfz32_0 := blk_frozen BK613.out 0; have hfz32_1 := blk_frozen BK613.out 1) | ((with_reducible refine gate_callee (f := 240) rfl ?_); refine goesL_ (some 28) rfl rfl Tryz.func240 (by kernel_rfl) rfl #[.slice A1_1 l1_1.length c1_1, .slice A0_1 l0_1.length c0_1] rfl (by (try simp only [List.map_toArray, List.map_cons, List.map_nil]); first | done | rfl | (simp only [List.length_drop, List.length_take]; rfl)) ?_; (with_reducible refine (limbs_Sub.calls k _ _ l1_1 _ _ l0_1 t624 t627 _ ?side1 ?side2 ?side3 ?side4 A20.out).mono ?_); (case side1 => repeat (first | exact (Kd.C_below HR1_1.out HB.out) | (with_reducible refine Kd.C_alloc ?_ _) | (with_reducible refine Kd.C_drewN ?_ _) | (with_reducible refine Kd.C_drew ?_))); (case side2 => exact HC1_1.out); (case side3 => repeat (first | exact (Kd.C_below HR0_1.out HB.out) | (with_reducible refine Kd.C_alloc ?_ _) | (with_reducible refine Kd.C_drewN ?_ _) | (with_reducible refine Kd.C_drew ?_))); (case side4 => exact HC0_1.out); rintro e w33 ⟨v625, rfl, ho0, hb⟩; refine ⟨_, rfl, ?_⟩; have n0_ := Aside0.mk (Kd.V_below (by (with_reducible repeat (first | apply Kd.V_alloc | apply Kd.V_drewN | apply Kd.V_drew)); exact HO618.out) hb); have n1_ := Aside0.mk (Kd.V_lower (Kd.V_mono (ok' := fun k_ => k_ ≠ gb613 ∧ k_ ≠ gb614 ∧ k_ ≠ gb615) ho0 (fun k_ hk_ => ⟨(Kd.freshB (g := gb613) (o := .cells #[.bool a0_0, .slice A0_1 l0_1.length c0_1] 42 (0, 0)) (by (with_reducible repeat (first | refine blk_drewN ?_ _ | refine blk_drew ?_ | refine blk_alloc ?_ _)); exact BK613.out) k_ hk_), (Kd.freshB (g := gb614) (o := .cells #[.bool a1_0, .slice A1_1 l1_1.length c1_1] 42 (0, 0)) (by (with_reducible repeat (first | refine blk_drewN ?_ _ | refine blk_drew ?_ | refine blk_alloc ?_ _)); exact BK614.out) k_ hk_), (Kd.freshB (g := gb615) (o := .cells #[.bool false, .slice none 0 0] 42 (0, 0)) (by (with_reducible repeat (first | refine blk_drewN ?_ _ | refine blk_drew ?_ | refine blk_alloc ?_ _)); exact BK615.out) k_ hk_)⟩)) (below_size (by repeat (first | (with_reducible first | exact HB.out | apply below_alloc | apply pw_below_drewN | apply below_drew1 | refine below_set ?_ GE613.out | refine below_set ?_ GE614.out | refine below_set ?_ GE615.out) | exact HB.out)))); have n2_ := Aside0.mk (blk_below (g := gb613) (o := .cells #[.bool a0_0, .slice A0_1 l0_1.length c0_1] 42 (0, 0)) (by (with_reducible repeat (first | refine blk_drewN ?_ _ | refine blk_drew ?_ | refine blk_alloc ?_ _)); exact BK613.out) hb); have n3_ := Aside0.mk (blk_below (g := gb614) (o := .cells #[.bool a1_0, .slice A1_1 l1_1.length c1_1] 42 (0, 0)) (by (with_reducible repeat (first | refine blk_drewN ?_ _ | refine blk_drew ?_ | refine blk_alloc ?_ _)); exact BK614.out) hb); have n4_ := Aside0.mk (blk_below (g := gb615) (o := .cells #[.bool false, .slice none 0 0] 42 (0, 0)) (by (with_reducible repeat (first | refine blk_drewN ?_ _ | refine blk_drew ?_ | refine blk_alloc ?_ _)); exact BK615.out) hb); have n5_ := Aside0.mk (below_step (by repeat (first | (with_reducible first | exact HB.out | apply below_alloc | apply pw_below_drewN | apply below_drew1 | refine below_set ?_ GE613.out | refine below_set ?_ GE614.out | refine below_set ?_ GE615.out) | exact HB.out)) hb); clear HO618; clear BK613; clear BK614; clear BK615; clear HB; have HO618 := n0_; have HO626 := n1_; have BK613 := n2_; have BK614 := n3_; have BK615 := n4_; have HB := n5_; clear n0_ n1_ n2_ n3_ n4_ n5_; (try clear hb); (try clear hb2); (try clear hk); (try clear hi); (try clear ho0); have hcz34_0 : w33.cell? ⟨gb614, 0, none⟩ = some (.bool a1_0) := (blk_cell BK614.out 0).trans rfl; have hcz34_1 : w33.cell? ⟨gb614, 1, none⟩ = some (.slice A1_1 l1_1.length c1_1) := (blk_cell BK614.out 1).trans rfl; have hfz34_0 := blk_frozen BK614.out 0; have hfz34_1 := blk_frozen BK614.out 1; obtain ⟨Ao35, co35, eo35⟩ := Kd.V_slice HO626.out; subst eo35) | ((with_reducible refine gate_callee (f := 69) rfl ?_); refine goesL_ (some 34) rfl rfl Tryz.func69 (by kernel_rfl) rfl #[.bool a1_0, .slice Ao35 t624.length co35] rfl (by (try simp only [List.map_toArray, List.map_cons, List.map_nil]); first | done | rfl | (simp only [List.length_drop, List.length_take]; rfl)) ?_; (with_reducible refine (signed_Make.calls k a1_0 _ _ t624 t628 t629 _ ?side1 ?side2 A21.out).mono ?_); (case side1 => repeat (first | exact (Kd.V_reads' HO626.out).2.2 | (with_reducible refine Kd.C_alloc ?_ _) | (with_reducible refine Kd.C_drewN ?_ _) | (with_reducible refine Kd.C_drew ?_))); (case side2 => exact (Kd.V_reads' HO626.out).2.1); rintro e w36 ⟨v630, rfl, ho0, hb⟩; refine ⟨_, rfl, ?_⟩; have n0_ := Aside0.mk (Kd.V_elder' (by (with_reducible repeat (first | apply Kd.V_alloc | apply Kd.V_drewN | apply Kd.V_drew)); exact HO618.out) (Kd.R_base ho0) hb); have n1_ := Aside0.mk (Kd.V_elder' (by (with_reducible repeat (first | apply Kd.V_alloc | apply Kd.V_drewN | apply Kd.V_drew)); exact HO626.out) (Kd.R_base ho0) hb); have n2_ := Aside0.mk (Kd.R_lower ho0 (below_size (by repeat (first | (with_reducible first | exact HB.out | apply below_alloc | apply pw_below_drewN | apply below_drew1 | refine below_set ?_ GE613.out | refine below_set ?_ GE614.out | refine below_set ?_ GE615.out) | exact HB.out)))); have n3_ := Aside0.mk (blk_below (g := gb613) (o := .cells #[.bool a0_0, .slice A0_1 l0_1.length c0_1] 42 (0, 0)) (by (with_reducible repeat (first | refine blk_drewN ?_ _ | refine blk_drew ?_ | refine blk_alloc ?_ _)); exact BK613.out) hb); have n4_ := Aside0.mk (blk_below (g := gb614) (o := .cells #[.bool a1_0, .slice A1_1 l1_1.length c1_1] 42 (0, 0)) (by (with_reducible repeat (first | refine blk_drewN ?_ _ | refine blk_drew ?_ | refine blk_alloc ?_ _)); exact BK614.out) hb); have n5_ := Aside0.mk (blk_below (g := gb615) (o := .cells #[.bool false, .slice none 0 0] 42 (0, 0)) (by (with_reducible repeat (first | refine blk_drewN ?_ _ | refine blk_drew ?_ | refine blk_alloc ?_ _)); exact BK615.out) hb); have n6_ := Aside0.mk (below_step (by repeat (first | (with_reducible first | exact HB.out | apply below_alloc | apply pw_below_drewN | apply below_drew1 | refine below_set ?_ GE613.out | refine below_set ?_ GE614.out | refine below_set ?_ GE615.out) | exact HB.out)) hb); clear HO618; clear HO626; clear BK613; clear BK614; clear BK615; clear HB; have HO618 := n0_; have HO626 := n1_; have HO631 := n2_; have BK613 := n3_; have BK614 := n4_; have BK615 := n5_; have HB := n6_; clear n0_ n1_ n2_ n3_ n4_ n5_ n6_; (try clear hb); (try clear hb2); (try clear hk); (try clear hi); (try clear ho0); have hcz37_0 : w36.cell? ⟨gb615, 0, none⟩ = some (.bool false) := (blk_cell BK615.out 0).trans rfl; have hcz37_1 : w36.cell? ⟨gb615, 1, none⟩ = some (.slice none 0 0) := (blk_cell BK615.out 1).trans rfl; have hfz37_0 := blk_frozen BK615.out 0; have hfz37_1 := blk_frozen BK615.out 1; obtain ⟨Ao38, co38, eo38⟩ := Kd.R_slice HO631.out; subst eo38))
    refine bodyPost_ret (results_cell_row rfl _ _ gb615 42 #[.bool t628, .slice Ao38 t629.length co38] (0, 0) _ rfl (by (with_reducible repeat (first | refine blk_drewN ?_ _ | refine blk_drew ?_ | refine blk_alloc ?_ _)); refine blk_put (cs := #[.bool t628, .slice none 0 0]) ?_ 1 _ rfl; (with_reducible repeat (first | refine blk_drewN ?_ _ | refine blk_drew ?_ | refine blk_alloc ?_ _)); refine blk_put (cs := #[.bool false, .slice none 0 0]) ?_ 0 _ rfl; (with_reducible repeat (first | refine blk_drewN ?_ _ | refine blk_drew ?_ | refine blk_alloc ?_ _)); exact BK615.out) Tryz.underlying42 rfl (by kernel_rfl)) rfl ?_
    exact ⟨_, by first | rfl | (simp [errW_none, errW_some] <;> rfl) | (simp [*, errW_none, errW_some] <;> rfl), by (with_reducible repeat (first | apply Kd.R_alloc | apply Kd.R_drewN | apply Kd.R_drew)); exact Kd.R_mono (Kd.R_far (p := ⟨gb615, 1, none⟩) (Kd.R_far (p := ⟨gb615, 0, none⟩) (Kd.R_types HO631.out BK615.out (by decide)) (fun _ hk => hk.2) (.bool t628)) (fun _ hk => hk.2) (.slice Ao38 t629.length co38)) (fun _ hk => trivial), by repeat (first | (with_reducible first | exact HB.out | apply below_alloc | apply pw_below_drewN | apply below_drew1 | refine below_set ?_ GE613.out | refine below_set ?_ GE614.out | refine below_set ?_ GE615.out) | exact HB.out)⟩
def limbs_Add.l0 : Nat → List Int → List Int → List Int → Int → Int → Option (List Int)
  | 0, _, _, _, _, _ => none
  | k + 1, x0, x1, x5, x6, x7 => if x6 < (x5.length : Int) then ((limbs_digit.f x0 x6).bind fun t592 => ((limbs_digit.f x1 x6).bind fun t593 => ((bits_Add64.f t592 t593 x7).bind fun bt594 => (if 0 ≤ x6 then (limbs_Add.l0 k x0 x1 (x5.set (x6 : Int).toNat bt594.1) (wrap64 (x6 + 1)) bt594.2) else (none))))) else ((limbs_trimmed.f k x5).bind fun t597 => ((slices_ClipNat.f t597).bind fun t600 => (some t600)))
def limbs_Add.f (k : Nat) (l0 : List Int) (l1 : List Int) : Option (List Int) := (limbs_room.f (wrap64 ((mx (l0.length : Int) (l1.length : Int)) + 1))).bind fun t589 => (limbs_Add.l0 k l0 l1 t589 0 0)
set_option maxHeartbeats 8000000 in
set_option maxRecDepth 100000 in
theorem limbs_Add.calls (k : Nat) (A0 : Option Addr) (c0 : Nat) (l0 : List Int) (A1 : Option Addr) (c1 : Nat) (l1 : List Int) (r : List Int) (w : World) (hr0 : Kd.C (Kd.int .u64) w A0 l0.length l0) (hc0 : l0.length ≤ c0) (hr1 : Kd.C (Kd.int .u64) w A1 l1.length l1) (hc1 : l1.length ≤ c1) (h : limbs_Add.f k l0 l1 = some r) :
    Calls Tryz.prog 239 #[.slice A0 l0.length c0, .slice A1 l1.length c1] w fun e w' => ∃ v0_ : Value, e = .returned (v0_) ∧ Kd.V (Kd.int .u64) 112 w' w.heap.size (fun k_ => (w.heap.size ≤ k_)) v0_ r ∧ Below w.heap.size w w' := by
  have HR0 := Aside0.mk hr0
  have HC0 := Aside0.mk hc0
  clear hr0 hc0
  have HR1 := Aside0.mk hr1
  have HC1 := Aside0.mk hc1
  clear hr1 hc1
  have HB := Aside0.mk (Below.refl w.heap.size w)
  have H : ((limbs_room.f (wrap64 ((mx (l0.length : Int) (l1.length : Int)) + 1))).bind fun t589 => (limbs_Add.l0 k l0 l1 t589 0 0)) = some r := h
  clear h
  obtain ⟨ji3, hji3⟩ : ∃ j_ : Int, (mx (l0.length : Int) (l1.length : Int)) = j_ := ⟨_, rfl⟩
  replace H : ((limbs_room.f (wrap64 ((ji3) + 1))).bind fun t589 => (limbs_Add.l0 k l0 l1 t589 0 0)) = some r := by first | (rw [hji3] at H; exact H) | (simp only [hji3] at H ⊢; exact H)
  (try (have hji3l : 0 ≤ ji3 := by (rw [← hji3]; unfold mx; (repeat' split) <;> omega)))
  (try (have hji3m : 0 ≤ ji3 := by omega))
  have hji3_ : (if (l0.length : Int) < (l1.length : Int) then (l1.length : Int) else (l0.length : Int)) = ji3 := hji3
  have hji3_n : (if l0.length < l1.length then (l1.length : Int) else (l0.length : Int)) = ji3 := by rw [← hji3_]; by_cases h_ : l0.length < l1.length <;> simp [h_]
  replace H := Option.bind_eq_some_iff.mp H
  obtain ⟨t589, A40, H⟩ := H
  replace H : (limbs_Add.l0 k l0 l1 t589 0 0) = some r := H
  have A4 := Aside0.mk A40
  clear A40
  have H' := Aside0.mk H
  clear H
  go_enter Tryz.func239, Tryz.ntmps239
  go_wp2_with (first | ((with_reducible refine gate_callee (f := 272) rfl ?_); refine goesL_ (some 14) rfl rfl Tryz.func272 (by kernel_rfl) rfl #[.int .i64 (wrap64 ((ji3) + 1))] rfl (by (try simp only [List.map_toArray, List.map_cons, List.map_nil]); first | done | (simp only [hji3]; rfl) | rfl | (simp only [List.length_drop, List.length_take]; rfl)) ?_; (with_reducible refine (limbs_room.calls (wrap64 ((ji3) + 1)) t589 _ A4.out).mono ?_); rintro e w5 ⟨v590, rfl, ho0, hb⟩; refine ⟨_, rfl, ?_⟩; have n0_ := Aside0.mk (Kd.R_lower (Kd.R_newM (M := fun k_ => (w.heap.size ≤ k_)) ho0 (below_size (by repeat (first | (with_reducible first | exact HB.out | apply below_alloc | apply pw_below_drewN | apply below_drew1) | exact HB.out))) (fun k_ h_ => h_)) (below_size (by repeat (first | (with_reducible first | exact HB.out | apply below_alloc | apply pw_below_drewN | apply below_drew1) | exact HB.out)))); have n1_ := Aside0.mk (below_step (by repeat (first | (with_reducible first | exact HB.out | apply below_alloc | apply pw_below_drewN | apply below_drew1) | exact HB.out)) hb); clear HB; have HO591 := n0_; have HB := n1_; clear n0_ n1_; (try clear hb); (try clear hb2); (try clear hk); (try clear hi); (try clear ho0)))
  go_loopg [6, 7] k (fun kq v6 v7 w' => ∃ (x5_1 : List Int) (x6_1 : Int) (x7_1 : Int), v6 = .int .i64 x6_1 ∧ v7 = .int .u64 x7_1 ∧ Aside0 (limbs_Add.l0 kq l0 l1 x5_1 x6_1 x7_1 = some r) ∧ Aside0 (kq ≤ k) ∧ Aside0 (Kd.R (Kd.int .u64) 112 w' w.heap.size (fun k_ => (w.heap.size ≤ k_)) v590 x5_1) ∧ Aside0 (Below w.heap.size w w'))
  case atStart => exact ⟨(t589), (0), (0), (by first | rfl | (simp; done) | (simp [*]; done)), (by first | rfl | (simp; done) | (simp [*]; done)), H', ⟨Nat.le_refl _⟩, ⟨by (with_reducible repeat (first | apply Kd.R_alloc | apply Kd.R_drewN | apply Kd.R_drew)); exact Kd.R_mono HO591.out (fun _ hk => hk.1)⟩, ⟨by repeat (first | (with_reducible first | exact HB.out | apply below_alloc | apply pw_below_drewN | apply below_drew1) | exact HB.out)⟩⟩
  case round =>
    clear H'
    try clear c1
    try clear c2
    try clear p2
    obtain ⟨x5_1, x6_1, x7_1, rfl, rfl, HA, HK1, HO_5, HB⟩ := hrel
    cases gk with
    | zero => exact absurd HA.out (by simp [limbs_Add.l0])
    | succ k1 =>
      have H := HA.out
      clear HA
      simp only [limbs_Add.l0] at H
      by_cases c6 : x6_1 < (x5_1.length : Int)
      · rw [if_pos c6] at H
        have c6b0 : decide (x6_1 < (x5_1.length : Int)) = true := decide_eq_true c6
        clear c6
        replace H := Option.bind_eq_some_iff.mp H
        obtain ⟨t592, A70, H⟩ := H
        replace H : ((limbs_digit.f l1 x6_1).bind fun t593 => ((bits_Add64.f t592 t593 x7_1).bind fun bt594 => (if 0 ≤ x6_1 then (limbs_Add.l0 k1 l0 l1 (x5_1.set (x6_1 : Int).toNat bt594.1) (wrap64 (x6_1 + 1)) bt594.2) else (none)))) = some r := H
        have A7 := Aside0.mk A70
        clear A70
        replace H := Option.bind_eq_some_iff.mp H
        obtain ⟨t593, A80, H⟩ := H
        replace H : ((bits_Add64.f t592 t593 x7_1).bind fun bt594 => (if 0 ≤ x6_1 then (limbs_Add.l0 k1 l0 l1 (x5_1.set (x6_1 : Int).toNat bt594.1) (wrap64 (x6_1 + 1)) bt594.2) else (none))) = some r := H
        have A8 := Aside0.mk A80
        clear A80
        replace H := Option.bind_eq_some_iff.mp H
        obtain ⟨⟨t594, t595⟩, A90, H⟩ := H
        replace H : (if 0 ≤ x6_1 then (limbs_Add.l0 k1 l0 l1 (x5_1.set (x6_1 : Int).toNat t594) (wrap64 (x6_1 + 1)) t595) else (none)) = some r := H
        have A9 := Aside0.mk A90
        clear A90
        by_cases c10 : 0 ≤ x6_1
        · rw [if_pos c10] at H
          have c10b0 : decide (0 ≤ x6_1) = true := decide_eq_true c10
          clear c10
          obtain ⟨y596, hy596⟩ : ∃ y_ : List Int, y_ = (x5_1.set (x6_1 : Int).toNat t594) := ⟨_, rfl⟩
          replace H : (limbs_Add.l0 k1 l0 l1 y596 (wrap64 (x6_1 + 1)) t595) = some r := by first | (rw [hy596]; with_reducible exact H) | (have H2_ := (Option.bind_some _ _).symm.trans H; rw [hy596]; with_reducible exact H2_) | (have H2_ := (Option.bind_some _ _).symm.trans H; with_reducible exact H2_) | with_reducible exact H | (rw [hy596]; exact H) | exact H
          have Ny596 := Aside0.mk hy596
          clear hy596
          have H' := Aside0.mk H
          clear H
          obtain ⟨Ao12, co12, eo12⟩ := Kd.R_slice HO_5.out
          subst eo12
          go_wp2_with (first | ((with_reducible refine gate_callee (f := 271) rfl ?_); refine goesL_ (some 26) rfl rfl Tryz.func271 (by kernel_rfl) rfl #[.slice A0 l0.length c0, .int .i64 x6_1] rfl (by (try simp only [List.map_toArray, List.map_cons, List.map_nil]); first | done | rfl | (simp only [List.length_drop, List.length_take]; rfl)) ?_; (with_reducible refine (limbs_digit.calls _ _ l0 x6_1 t592 _ ?side1 ?side2 A7.out).mono ?_); (case side1 => repeat (first | exact (Kd.C_below HR0.out HB.out) | (with_reducible refine Kd.C_alloc ?_ _) | (with_reducible refine Kd.C_drewN ?_ _) | (with_reducible refine Kd.C_drew ?_))); (case side2 => exact HC0.out); rintro e w' ⟨rfl, ⟨nd, rfl⟩⟩; refine ⟨_, rfl, ?_⟩; (try (rw [drewN_self wr]; generalize hq_ : World.drewN wr _ = wr; have n0_ : Aside0 (Kd.R (Kd.int .u64) 112 wr w.heap.size (fun k_ => (w.heap.size ≤ k_)) (.slice Ao12 x5_1.length co12) x5_1) := ⟨by rw [← hq_]; exact (by (with_reducible repeat (first | apply Kd.R_alloc | apply Kd.R_drewN | apply Kd.R_drew)); exact HO_5.out)⟩; have n1_ : Aside0 (Below w.heap.size w wr) := ⟨by rw [← hq_]; exact (by repeat (first | (with_reducible first | exact HB.out | apply below_alloc | apply pw_below_drewN | apply below_drew1) | exact HB.out))⟩; clear HO_5 HB hq_; have HO_5 := n0_; have HB := n1_; clear n0_ n1_))) | ((with_reducible refine gate_callee (f := 271) rfl ?_); refine goesL_ (some 29) rfl rfl Tryz.func271 (by kernel_rfl) rfl #[.slice A1 l1.length c1, .int .i64 x6_1] rfl (by (try simp only [List.map_toArray, List.map_cons, List.map_nil]); first | done | rfl | (simp only [List.length_drop, List.length_take]; rfl)) ?_; (with_reducible refine (limbs_digit.calls _ _ l1 x6_1 t593 _ ?side1 ?side2 A8.out).mono ?_); (case side1 => repeat (first | exact (Kd.C_below HR1.out HB.out) | (with_reducible refine Kd.C_alloc ?_ _) | (with_reducible refine Kd.C_drewN ?_ _) | (with_reducible refine Kd.C_drew ?_))); (case side2 => exact HC1.out); rintro e w' ⟨rfl, ⟨nd, rfl⟩⟩; refine ⟨_, rfl, ?_⟩; (try (rw [drewN_self wr]; generalize hq_ : World.drewN wr _ = wr; have n0_ : Aside0 (Kd.R (Kd.int .u64) 112 wr w.heap.size (fun k_ => (w.heap.size ≤ k_)) (.slice Ao12 x5_1.length co12) x5_1) := ⟨by rw [← hq_]; exact (by (with_reducible repeat (first | apply Kd.R_alloc | apply Kd.R_drewN | apply Kd.R_drew)); exact HO_5.out)⟩; have n1_ : Aside0 (Below w.heap.size w wr) := ⟨by rw [← hq_]; exact (by repeat (first | (with_reducible first | exact HB.out | apply below_alloc | apply pw_below_drewN | apply below_drew1) | exact HB.out))⟩; clear HO_5 HB hq_; have HO_5 := n0_; have HB := n1_; clear n0_ n1_))) | ((with_reducible refine gate_callee (f := 249) rfl ?_); refine goesE_ (some 31) rfl rfl Tryz.func249 (by kernel_rfl) rfl #[.int .u64 t592, .int .u64 t593, .int .u64 x7_1] rfl (by (try simp only [List.map_toArray, List.map_cons, List.map_nil]); first | done | rfl | (simp only [List.length_drop, List.length_take]; rfl)) ?_; (with_reducible refine (bits_Add64.calls t592 t593 x7_1 t594 t595 _ A9.out).mono ?_); rintro e w' ⟨rfl, ⟨nd, rfl⟩⟩; refine ⟨_, rfl, ?_⟩; (try (rw [drewN_self wr]; generalize hq_ : World.drewN wr _ = wr; have n0_ : Aside0 (Kd.R (Kd.int .u64) 112 wr w.heap.size (fun k_ => (w.heap.size ≤ k_)) (.slice Ao12 x5_1.length co12) x5_1) := ⟨by rw [← hq_]; exact (by (with_reducible repeat (first | apply Kd.R_alloc | apply Kd.R_drewN | apply Kd.R_drew)); exact HO_5.out)⟩; have n1_ : Aside0 (Below w.heap.size w wr) := ⟨by rw [← hq_]; exact (by repeat (first | (with_reducible first | exact HB.out | apply below_alloc | apply pw_below_drewN | apply below_drew1) | exact HB.out))⟩; clear HO_5 HB hq_; have HO_5 := n0_; have HB := n1_; clear n0_ n1_)); have p11 : 0 ≤ (x6_1 : Int) := of_decide_eq_true (by first | (with_reducible assumption) | assumption); have q11 : (x6_1 : Int) < ((x5_1.length : Int) : Int) := of_decide_eq_true (by first | (with_reducible assumption) | assumption); obtain ⟨go11, co11, eo11, gb11, gl11, cl11, HG11⟩ := Kd.R_form HO_5.out (by omega); (first | cases eo11 | (injection eo11 with ea_ en_ ec_; (first | subst ea_ | (injection ea_ with ea_; subst ea_)); subst ec_; clear en_)); have GB11 := Aside0.mk gb11; have GG11 := Aside0.mk HG11; clear gb11 gl11 HG11; obtain ⟨hx11_0, hf11_0⟩ := Kd.R_celln 0 HO_5.out (x6_1 : Int) p11 q11; replace p11 := eq_true p11; replace q11 := eq_true q11; obtain ⟨hy13_, hz13_⟩ := Kd.R_celln 0 HO_5.out (x6_1 : Int) (of_decide_eq_true (by first | (with_reducible assumption) | assumption)) (of_decide_eq_true (by first | (with_reducible assumption) | assumption)); have HP13 := Kd.R_putg HO_5.out (x6_1 : Int) t594) | ((with_reducible refine gate_store (t := 112) (p := 34) rfl ?_); refine store_event (t := 112) (p := 34) (v := ?vo_w14) (w1 := (wr.setCell ⟨go11, (x6_1 : Int).toNat, none⟩ (.int .u64 t594))) ?hg ?ho ?hn ?hr ?_; (case ho => rfl); (case hg => rfl); (case hn => rfl); (case hr => first | (go_simp; done) | (go_simp; rfl)); intro w14 hw; have hg : wr.grownBy w14 (some go11) := (by rw [hw]; exact HP13.2); have hp_ : Kd.R (Kd.int .u64) 112 w14 w.heap.size (fun k_ => (w.heap.size ≤ k_)) (.slice (some ⟨go11, 0, none⟩) x5_1.length co12) y596 := (by rw [hw, Ny596.out]; exact HP13.1); clear HP13; have n0_ := Aside0.mk (hp_); have n1_ := Aside0.mk ((by rw [hw]; exact below_set (HB.out) GB11.out : Below w.heap.size w w14)); clear HO_5; clear HB; have HO_5 := n0_; have HB := n1_; clear n0_ n1_; clear hg hw hp_))
          go_roundg k1
          case measure => have := HK1.out; omega
          case rel => exact ⟨(y596), (wrap64 (x6_1 + 1)), (t595), (by first | rfl | (simp; done) | (simp [*]; done)), (by first | rfl | (simp; done) | (simp [*]; done)), H', ⟨by have := HK1.out; omega⟩, ⟨by (with_reducible repeat (first | apply Kd.R_alloc | apply Kd.R_drewN | apply Kd.R_drew)); exact HO_5.out⟩, ⟨by repeat (first | (with_reducible first | exact HB.out | apply below_alloc | apply pw_below_drewN | apply below_drew1) | exact HB.out)⟩⟩
        · rw [if_neg c10] at H
          exact absurd H (by simp)
      · rw [if_neg c6] at H
        have c6b0 : decide (x6_1 < (x5_1.length : Int)) = false := decide_eq_false c6
        clear c6
        replace H := Option.bind_eq_some_iff.mp H
        obtain ⟨t597, A150, H⟩ := H
        replace H : ((slices_ClipNat.f t597).bind fun t600 => (some t600)) = some r := H
        have A15 := Aside0.mk A150
        clear A150
        replace H := Option.bind_eq_some_iff.mp H
        obtain ⟨t600, A160, H⟩ := H
        replace H : (some t600) = some r := H
        have A16 := Aside0.mk A160
        clear A160
        obtain rfl := Option.some.inj H
        obtain ⟨Ao17, co17, eo17⟩ := Kd.R_slice HO_5.out
        subst eo17
        go_wp2_with (first | ((with_reducible refine gate_callee (f := 193) rfl ?_); refine goesL_ (some 36) rfl rfl Tryz.func193 (by kernel_rfl) rfl #[.slice Ao17 x5_1.length co17] rfl (by (try simp only [List.map_toArray, List.map_cons, List.map_nil]); first | done | rfl | (simp only [List.length_drop, List.length_take]; rfl)) ?_; (with_reducible refine (limbs_trimmed.calls k1 (fun k_ => some k_ = (.slice Ao17 x5_1.length co17 : Value).ownBlock) _ _ x5_1 t597 _ ?side1 A15.out).mono ?_); (case side1 => exact Kd.R_V (Kd.R_tight rfl (HO_5.out))); rintro e w18 ⟨v598, rfl, ho0, hb⟩; refine ⟨_, rfl, ?_⟩; have n0_ := Aside0.mk (Kd.R_below (by (with_reducible repeat (first | apply Kd.R_alloc | apply Kd.R_drewN | apply Kd.R_drew)); exact HO_5.out) hb); have n1_ := Aside0.mk (Kd.V_lower (Kd.V_mono (ok' := fun k_ => (w.heap.size ≤ k_)) ho0 (fun k_ hk_ => Or.elim hk_ (fun hs_ => ((HO_5.out).1 k_ hs_.symm)) (fun hn_ => (Nat.le_trans (below_size (by repeat (first | (with_reducible first | exact HB.out | apply below_alloc | apply pw_below_drewN | apply below_drew1) | exact HB.out))) hn_)))) (below_size (by repeat (first | (with_reducible first | exact HB.out | apply below_alloc | apply pw_below_drewN | apply below_drew1) | exact HB.out)))); have n2_ := Aside0.mk (below_step (by repeat (first | (with_reducible first | exact HB.out | apply below_alloc | apply pw_below_drewN | apply below_drew1) | exact HB.out)) hb); clear HO_5; clear HB; have HO_5 := n0_; have HO599 := n1_; have HB := n2_; clear n0_ n1_ n2_; (try clear hb); (try clear hb2); (try clear hk); (try clear hi); (try clear ho0); obtain ⟨Ao19, co19, eo19⟩ := Kd.V_slice HO599.out; subst eo19) | ((with_reducible refine gate_callee (f := 273) rfl ?_); refine goesL_ (some 37) rfl rfl Tryz.func273 (by kernel_rfl) rfl #[.slice Ao19 t597.length co19] rfl (by (try simp only [List.map_toArray, List.map_cons, List.map_nil]); first | done | rfl | (simp only [List.length_drop, List.length_take]; rfl)) ?_; (with_reducible refine (slices_ClipNat.calls (fun k_ => (w.heap.size ≤ k_)) _ _ t597 t600 _ ?side1 A16.out).mono ?_); (case side1 => exact HO599.out); rintro e w20 ⟨v601, rfl, ho0, hb⟩; refine ⟨_, rfl, ?_⟩; have n0_ := Aside0.mk (Kd.R_below (by (with_reducible repeat (first | apply Kd.R_alloc | apply Kd.R_drewN | apply Kd.R_drew)); exact HO_5.out) hb); have n1_ := Aside0.mk (Kd.V_below (by (with_reducible repeat (first | apply Kd.V_alloc | apply Kd.V_drewN | apply Kd.V_drew)); exact HO599.out) hb); have n2_ := Aside0.mk (Kd.V_lower (Kd.V_mono (ok' := fun k_ => (w.heap.size ≤ k_)) ho0 (fun k_ hk_ => Or.elim hk_ (fun hs_ => hs_) (fun hn_ => (Nat.le_trans (below_size (by repeat (first | (with_reducible first | exact HB.out | apply below_alloc | apply pw_below_drewN | apply below_drew1) | exact HB.out))) hn_)))) (below_size (by repeat (first | (with_reducible first | exact HB.out | apply below_alloc | apply pw_below_drewN | apply below_drew1) | exact HB.out)))); have n3_ := Aside0.mk (below_step (by repeat (first | (with_reducible first | exact HB.out | apply below_alloc | apply pw_below_drewN | apply below_drew1) | exact HB.out)) hb); clear HO_5; clear HO599; clear HB; have HO_5 := n0_; have HO599 := n1_; have HO602 := n2_; have HB := n3_; clear n0_ n1_ n2_ n3_; (try clear hb); (try clear hb2); (try clear hk); (try clear hi); (try clear ho0)))
        go_ret
        exact ⟨_, by first | rfl | (simp [errW_none, errW_some] <;> rfl) | (simp only [← hji3]; first | rfl | (simp [errW_none, errW_some] <;> rfl)) | (simp [*, errW_none, errW_some] <;> rfl), by (with_reducible repeat (first | apply Kd.V_alloc | apply Kd.V_drewN | apply Kd.V_drew)); exact HO602.out, by repeat (first | (with_reducible first | exact HB.out | apply below_alloc | apply pw_below_drewN | apply below_drew1) | exact HB.out)⟩
def signed_along.f (k : Nat) (a0_0 : Bool) (l0_1 : List Int) (a1_0 : Bool) (l1_1 : List Int) : Option (Bool × List Int) := (limbs_Add.f k l0_1 l1_1).bind fun t606 => ((signed_Make.f k a0_0 t606).bind fun bt609 => (some (bt609.1, bt609.2)))
def signed_along.T1 : Bool × List (List Nat × List Nat) := (true, [([], []), ([0], [0]), ([], []), ([2], [2]), ([], []), ([4], [4]), ([3, 5], [3, 5]), ([1, 6, 6], [1, 6]), ([7, 7, 0, 1, 2, 3, 4, 5, 6, 7], [7])])
def signed_along.B1 : List Nat := [0, 1, 0, 4, 0, 16, 60, 127, 255]
theorem signed_along.tab1 : rtab .any (opsOf Tryz.f203 1) = signed_along.T1 := by kernel_rfl
theorem signed_along.bits1 : waitsOk signed_along.T1.2 signed_along.B1 = true := by kernel_rfl
set_option maxHeartbeats 8000000 in
set_option maxRecDepth 100000 in
theorem signed_along.calls (k : Nat) (a0_0 : Bool) (A0_1 : Option Addr) (c0_1 : Nat) (l0_1 : List Int) (a1_0 : Bool) (A1_1 : Option Addr) (c1_1 : Nat) (l1_1 : List Int) (r1 : Bool) (r2 : List Int) (w : World) (hr0_1 : Kd.C (Kd.int .u64) w A0_1 l0_1.length l0_1) (hc0_1 : l0_1.length ≤ c0_1) (hr1_1 : Kd.C (Kd.int .u64) w A1_1 l1_1.length l1_1) (hc1_1 : l1_1.length ≤ c1_1) (h : signed_along.f k a0_0 l0_1 a1_0 l1_1 = some (r1, r2)) :
    Calls Tryz.prog 203 #[.agg #[.bool a0_0, .slice A0_1 l0_1.length c0_1], .agg #[.bool a1_0, .slice A1_1 l1_1.length c1_1]] w fun e w' => ∃ v1_ : Value, e = .returned (.agg #[.bool r1, v1_]) ∧ Kd.R (Kd.int .u64) 112 w' w.heap.size (fun _ => True) v1_ r2 ∧ Below w.heap.size w w' := by
  have hu42 := Tryz.underlying42
  have HR0_1 := Aside0.mk hr0_1
  have HC0_1 := Aside0.mk hc0_1
  clear hr0_1 hc0_1
  have HR1_1 := Aside0.mk hr1_1
  have HC1_1 := Aside0.mk hc1_1
  clear hr1_1 hc1_1
  have HB := Aside0.mk (Below.refl w.heap.size w)
  have H : ((limbs_Add.f k l0_1 l1_1).bind fun t606 => ((signed_Make.f k a0_0 t606).bind fun bt609 => (some (bt609.1, bt609.2)))) = some (r1, r2) := h
  clear h
  replace H := Option.bind_eq_some_iff.mp H
  obtain ⟨t606, A30, H⟩ := H
  replace H : ((signed_Make.f k a0_0 t606).bind fun bt609 => (some (bt609.1, bt609.2))) = some (r1, r2) := H
  have A3 := Aside0.mk A30
  clear A30
  replace H := Option.bind_eq_some_iff.mp H
  obtain ⟨⟨t609, t610⟩, A40, H⟩ := H
  replace H : (some (t609, t610)) = some (r1, r2) := H
  have A4 := Aside0.mk A40
  clear A40
  simp only [Option.some.injEq, Prod.mk.injEq] at H
  obtain ⟨rfl, rfl⟩ := H
  go_enter Tryz.func203, Tryz.ntmps203
  try go_wp2_with (first | ((with_reducible refine gate_dst (N := 2) rfl ?_); refine box_event ?hg (N := 2) ?hd (cs := #[.bool a0_0, .slice A0_1 l0_1.length c0_1]) (t := 42) ?hr ?_; (case hd => rfl); (case hg => rfl); (case hr => first | (go_simp; done) | (go_simp; rfl)); intro gb603 hg w5 hbox hb; have n0_ := Aside0.mk (below_step (by repeat (first | (with_reducible first | exact HB.out | apply below_alloc | apply pw_below_drewN | apply below_drew1) | exact HB.out)) hb); have n1_ := Aside0.mk (hbox); have n2_ := Aside0.mk ((by rw [hg]; exact (below_size (by repeat (first | (with_reducible first | exact HB.out | apply below_alloc | apply pw_below_drewN | apply below_drew1) | exact HB.out))) : w.heap.size ≤ gb603)); have n3_ := Aside0.mk ((by rw [hg]; exact (below_size (by repeat (first | (with_reducible first | exact HB.out | apply below_alloc | apply pw_below_drewN | apply below_drew1) | exact HB.out))) : w.heap.size ≤ gb603)); clear HB; have HB := n0_; have BK603 := n1_; have GW603 := n2_; have GE603 := n3_; clear n0_ n1_ n2_ n3_; clear hb hbox hg) | ((with_reducible refine gate_dst (N := 3) rfl ?_); refine box_event ?hg (N := 3) ?hd (cs := #[.bool a1_0, .slice A1_1 l1_1.length c1_1]) (t := 42) ?hr ?_; (case hd => rfl); (case hg => rfl); (case hr => first | (go_simp; done) | (go_simp; rfl)); intro gb604 hg w6 hbox hb; have n0_ := Aside0.mk (blk_below (g := gb603) (o := .cells #[.bool a0_0, .slice A0_1 l0_1.length c0_1] 42 (0, 0)) (by (with_reducible repeat (first | refine blk_drewN ?_ _ | refine blk_drew ?_ | refine blk_alloc ?_ _)); exact BK603.out) hb); have n1_ := Aside0.mk (below_step (by repeat (first | (with_reducible first | exact HB.out | apply below_alloc | apply pw_below_drewN | apply below_drew1 | refine below_set ?_ GE603.out) | exact HB.out)) hb); have n2_ := Aside0.mk (hbox); have n3_ := Aside0.mk ((by rw [hg]; exact (below_size (by repeat (first | (with_reducible first | exact HB.out | apply below_alloc | apply pw_below_drewN | apply below_drew1 | refine below_set ?_ GE603.out) | exact HB.out))) : w.heap.size ≤ gb604)); have n4_ := Aside0.mk ((by rw [hg]; exact (below_size (by repeat (first | (with_reducible first | exact HB.out | apply below_alloc | apply pw_below_drewN | apply below_drew1 | refine below_set ?_ GE603.out) | exact HB.out))) : w.heap.size ≤ gb604)); have n5_ := Aside0.mk ((by rw [hg]; exact Nat.ne_of_lt (blk_lt (g := gb603) (o := .cells #[.bool a0_0, .slice A0_1 l0_1.length c0_1] 42 (0, 0)) (by (with_reducible repeat (first | refine blk_drewN ?_ _ | refine blk_drew ?_ | refine blk_alloc ?_ _)); exact BK603.out)) : gb603 ≠ gb604)); have n6_ := Aside0.mk ((by rw [hg]; exact Nat.ne_of_gt (blk_lt (g := gb603) (o := .cells #[.bool a0_0, .slice A0_1 l0_1.length c0_1] 42 (0, 0)) (by (with_reducible repeat (first | refine blk_drewN ?_ _ | refine blk_drew ?_ | refine blk_alloc ?_ _)); exact BK603.out)) : gb604 ≠ gb603)); clear BK603; clear HB; have BK603 := n0_; have HB := n1_; have BK604 := n2_; have GW604 := n3_; have GE604 := n4_; have NB603_604 := n5_; have NB604_603 := n6_; clear n0_ n1_ n2_ n3_ n4_ n5_ n6_; clear hb hbox hg) | ((with_reducible refine gate_dst (N := 4) rfl ?_); refine box_event ?hg (N := 4) ?hd (cs := #[.bool false, .slice none 0 0]) (t := 42) ?hr ?_; (case hd => rfl); (case hg => rfl); (case hr => first | (go_simp; done) | (go_simp; rfl)); intro gb605 hg w7 hbox hb; have n0_ := Aside0.mk (blk_below (g := gb603) (o := .cells #[.bool a0_0, .slice A0_1 l0_1.length c0_1] 42 (0, 0)) (by (with_reducible repeat (first | refine blk_drewN ?_ _ | refine blk_drew ?_ | refine blk_alloc ?_ _)); exact BK603.out) hb); have n1_ := Aside0.mk (blk_below (g := gb604) (o := .cells #[.bool a1_0, .slice A1_1 l1_1.length c1_1] 42 (0, 0)) (by (with_reducible repeat (first | refine blk_drewN ?_ _ | refine blk_drew ?_ | refine blk_alloc ?_ _)); exact BK604.out) hb); have n2_ := Aside0.mk (below_step (by repeat (first | (with_reducible first | exact HB.out | apply below_alloc | apply pw_below_drewN | apply below_drew1 | refine below_set ?_ GE603.out | refine below_set ?_ GE604.out) | exact HB.out)) hb); have n3_ := Aside0.mk (hbox); have n4_ := Aside0.mk ((by rw [hg]; exact (below_size (by repeat (first | (with_reducible first | exact HB.out | apply below_alloc | apply pw_below_drewN | apply below_drew1 | refine below_set ?_ GE603.out | refine below_set ?_ GE604.out) | exact HB.out))) : w.heap.size ≤ gb605)); have n5_ := Aside0.mk ((by rw [hg]; exact (below_size (by repeat (first | (with_reducible first | exact HB.out | apply below_alloc | apply pw_below_drewN | apply below_drew1 | refine below_set ?_ GE603.out | refine below_set ?_ GE604.out) | exact HB.out))) : w.heap.size ≤ gb605)); have n6_ := Aside0.mk ((by rw [hg]; exact Nat.ne_of_lt (blk_lt (g := gb603) (o := .cells #[.bool a0_0, .slice A0_1 l0_1.length c0_1] 42 (0, 0)) (by (with_reducible repeat (first | refine blk_drewN ?_ _ | refine blk_drew ?_ | refine blk_alloc ?_ _)); exact BK603.out)) : gb603 ≠ gb605)); have n7_ := Aside0.mk ((by rw [hg]; exact Nat.ne_of_gt (blk_lt (g := gb603) (o := .cells #[.bool a0_0, .slice A0_1 l0_1.length c0_1] 42 (0, 0)) (by (with_reducible repeat (first | refine blk_drewN ?_ _ | refine blk_drew ?_ | refine blk_alloc ?_ _)); exact BK603.out)) : gb605 ≠ gb603)); have n8_ := Aside0.mk ((by rw [hg]; exact Nat.ne_of_lt (blk_lt (g := gb604) (o := .cells #[.bool a1_0, .slice A1_1 l1_1.length c1_1] 42 (0, 0)) (by (with_reducible repeat (first | refine blk_drewN ?_ _ | refine blk_drew ?_ | refine blk_alloc ?_ _)); exact BK604.out)) : gb604 ≠ gb605)); have n9_ := Aside0.mk ((by rw [hg]; exact Nat.ne_of_gt (blk_lt (g := gb604) (o := .cells #[.bool a1_0, .slice A1_1 l1_1.length c1_1] 42 (0, 0)) (by (with_reducible repeat (first | refine blk_drewN ?_ _ | refine blk_drew ?_ | refine blk_alloc ?_ _)); exact BK604.out)) : gb605 ≠ gb604)); clear BK603; clear BK604; clear HB; have BK603 := n0_; have BK604 := n1_; have HB := n2_; have BK605 := n3_; have GW605 := n4_; have GE605 := n5_; have NB603_605 := n6_; have NB605_603 := n7_; have NB604_605 := n8_; have NB605_604 := n9_; clear n0_ n1_ n2_ n3_ n4_ n5_ n6_ n7_ n8_ n9_; clear hb hbox hg))
  have n0_ := Aside0.mk (blk_drew BK603.out)
  have n1_ := Aside0.mk (blk_drew BK604.out)
  have n2_ := Aside0.mk (blk_drew BK605.out)
  have n3_ := Aside0.mk (below_drew1 HB.out)
  clear BK603
  clear BK604
  clear BK605
  clear HB
  have BK603 := n0_
  have BK604 := n1_
  have BK605 := n2_
  have HB := n3_
  clear n0_ n1_ n2_ n3_
  refine start_ (n := 9) (S := fun w' => w'.cell? ⟨gb603, 0, none⟩ = some (.bool a0_0) ∧ w'.cell? ⟨gb603, 1, none⟩ = some (.slice A0_1 l0_1.length c0_1) ∧ w'.cell? ⟨gb604, 0, none⟩ = some (.bool a1_0) ∧ w'.cell? ⟨gb604, 1, none⟩ = some (.slice A1_1 l1_1.length c1_1)) (ds := []) #[false, false, false, false, false, false, false, false, false] (by kernel_rfl) rfl rfl ⟨(blk_cell BK603.out 0).trans rfl, (blk_cell BK603.out 1).trans rfl, (blk_cell BK604.out 0).trans rfl, (blk_cell BK604.out 1).trans rfl⟩ (fun hHeld => ?_); refine with_tabW signed_along.tab1 signed_along.bits1 (fun HT_ HW_ => ?_)
  generalize w7.drew = w8 at BK603 BK604 BK605 HB hHeld ⊢
  refine pure_ (i := 0) (N := some 5) (v := ?_) (a' := ?_) #[true, false, false, false, false, false, false, false, false] rfl rfl (any_of HT_.out (by kernel_rfl)) (fun _ _ _ h => h) (Or.inl ⟨by rfl, ?_⟩) ?_ ?_
  rotate_left
  · intro w'
    go_simp
    with_reducible rfl
  rotate_left
  · simp only [Act.put, List.setIfInBounds_toArray, List.set_cons_zero, List.set_cons_succ, i64_w, i32_w]
    rfl
  refine pure_ (i := 2) (N := some 7) (v := ?_) (a' := ?_) #[true, false, true, false, false, false, false, false, false] rfl rfl (any_of HT_.out (by kernel_rfl)) (fun _ _ _ h => h) (Or.inl ⟨by rfl, ?_⟩) ?_ ?_
  rotate_left
  · intro w'
    go_simp
    with_reducible rfl
  rotate_left
  · simp only [Act.put, List.setIfInBounds_toArray, List.set_cons_zero, List.set_cons_succ, i64_w, i32_w]
    rfl
  refine pure_ (i := 4) (N := some 9) (v := ?_) (a' := ?_) #[true, false, true, false, true, false, false, false, false] rfl rfl (any_of HT_.out (by kernel_rfl)) (fun _ _ _ h => h) (Or.inl ⟨by rfl, ?_⟩) ?_ ?_
  rotate_left
  · intro w'
    go_simp
    with_reducible rfl
  rotate_left
  · simp only [Act.put, List.setIfInBounds_toArray, List.set_cons_zero, List.set_cons_succ, i64_w, i32_w]
    rfl
  refine take_ (i := 1) (N := some 6) (v := ?_) (a' := ?_) #[true, true, true, false, true, false, false, false, false] rfl rfl (take_ofW HT_.out HW_.out (by kernel_rfl)) (fun _ _ _ h => h) (Or.inl ⟨by rfl, ?_⟩) hHeld ?_ ?_
  rotate_left
  · rintro w' ⟨s0, s1, s2, s3⟩
    go_simp
    with_reducible rfl
  rotate_left
  · simp only [Act.put, List.setIfInBounds_toArray, List.set_cons_zero, List.set_cons_succ, i64_w, i32_w]
    rfl
  refine take_ (i := 3) (N := some 8) (v := ?_) (a' := ?_) #[true, true, true, true, true, false, false, false, false] rfl rfl (take_ofW HT_.out HW_.out (by kernel_rfl)) (fun _ _ _ h => h) (Or.inl ⟨by rfl, ?_⟩) hHeld ?_ ?_
  rotate_left
  · rintro w' ⟨s0, s1, s2, s3⟩
    go_simp
    with_reducible rfl
  rotate_left
  · simp only [Act.put, List.setIfInBounds_toArray, List.set_cons_zero, List.set_cons_succ, i64_w, i32_w]
    rfl
  refine take_ (i := 5) (N := some 10) (v := ?_) (a' := ?_) #[true, true, true, true, true, true, false, false, false] rfl rfl (take_ofW HT_.out HW_.out (by kernel_rfl)) (fun _ _ _ h => h) (Or.inl ⟨by rfl, ?_⟩) hHeld ?_ ?_
  rotate_left
  · rintro w' ⟨s0, s1, s2, s3⟩
    go_simp
    with_reducible rfl
  rotate_left
  · simp only [Act.put, List.setIfInBounds_toArray, List.set_cons_zero, List.set_cons_succ, i64_w, i32_w]
    rfl
  refine one_ (i := 6) (N := some 11) #[true, true, true, true, true, true, true, false, false] rfl rfl (one_of HT_.out (by kernel_rfl)) (by decide) (fun K hK => ?_)
  refine goes_ Tryz.func239 (by kernel_rfl) rfl #[.slice A0_1 l0_1.length c0_1, .slice A1_1 l1_1.length c1_1] (by rfl) rfl rfl (by (try simp only [List.map_toArray, List.map_cons, List.map_nil]); first | done | rfl | (simp only [List.length_drop, List.length_take]; rfl)) ?_
  with_reducible refine (limbs_Add.calls k _ _ l0_1 _ _ l1_1 t606 _ ?side1 ?side2 ?side3 ?side4 A3.out).mono ?_
  (case side1 => repeat (first | exact (Kd.C_below HR0_1.out HB.out) | (with_reducible refine Kd.C_alloc ?_ _) | (with_reducible refine Kd.C_drewN ?_ _) | (with_reducible refine Kd.C_drew ?_)))
  (case side2 => exact HC0_1.out)
  (case side3 => repeat (first | exact (Kd.C_below HR1_1.out HB.out) | (with_reducible refine Kd.C_alloc ?_ _) | (with_reducible refine Kd.C_drewN ?_ _) | (with_reducible refine Kd.C_drew ?_)))
  (case side4 => exact HC1_1.out)
  rintro e w9 ⟨v607, rfl, ho0, hb⟩
  refine ⟨_, rfl, ?_⟩
  have n0_ := Aside0.mk (Kd.V_lower (Kd.V_mono (ok' := fun k_ => k_ ≠ gb603 ∧ k_ ≠ gb604 ∧ k_ ≠ gb605) ho0 (fun k_ hk_ => ⟨(Kd.freshB (g := gb603) (o := .cells #[.bool a0_0, .slice A0_1 l0_1.length c0_1] 42 (0, 0)) (by (with_reducible repeat (first | refine blk_drewN ?_ _ | refine blk_drew ?_ | refine blk_alloc ?_ _)); exact BK603.out) k_ hk_), (Kd.freshB (g := gb604) (o := .cells #[.bool a1_0, .slice A1_1 l1_1.length c1_1] 42 (0, 0)) (by (with_reducible repeat (first | refine blk_drewN ?_ _ | refine blk_drew ?_ | refine blk_alloc ?_ _)); exact BK604.out) k_ hk_), (Kd.freshB (g := gb605) (o := .cells #[.bool false, .slice none 0 0] 42 (0, 0)) (by (with_reducible repeat (first | refine blk_drewN ?_ _ | refine blk_drew ?_ | refine blk_alloc ?_ _)); exact BK605.out) k_ hk_)⟩)) (below_size (by repeat (first | (with_reducible first | exact HB.out | apply below_alloc | apply pw_below_drewN | apply below_drew1 | refine below_set ?_ GE603.out | refine below_set ?_ GE604.out | refine below_set ?_ GE605.out) | exact HB.out))))
  have n1_ := Aside0.mk (blk_below (g := gb603) (o := .cells #[.bool a0_0, .slice A0_1 l0_1.length c0_1] 42 (0, 0)) (by (with_reducible repeat (first | refine blk_drewN ?_ _ | refine blk_drew ?_ | refine blk_alloc ?_ _)); exact BK603.out) hb)
  have n2_ := Aside0.mk (blk_below (g := gb604) (o := .cells #[.bool a1_0, .slice A1_1 l1_1.length c1_1] 42 (0, 0)) (by (with_reducible repeat (first | refine blk_drewN ?_ _ | refine blk_drew ?_ | refine blk_alloc ?_ _)); exact BK604.out) hb)
  have n3_ := Aside0.mk (blk_below (g := gb605) (o := .cells #[.bool false, .slice none 0 0] 42 (0, 0)) (by (with_reducible repeat (first | refine blk_drewN ?_ _ | refine blk_drew ?_ | refine blk_alloc ?_ _)); exact BK605.out) hb)
  have n4_ := Aside0.mk (below_step (by repeat (first | (with_reducible first | exact HB.out | apply below_alloc | apply pw_below_drewN | apply below_drew1 | refine below_set ?_ GE603.out | refine below_set ?_ GE604.out | refine below_set ?_ GE605.out) | exact HB.out)) hb)
  clear BK603
  clear BK604
  clear BK605
  clear HB
  have HO608 := n0_
  have BK603 := n1_
  have BK604 := n2_
  have BK605 := n3_
  have HB := n4_
  clear n0_ n1_ n2_ n3_ n4_
  (try clear hb)
  (try clear hb2)
  (try clear hk)
  (try clear hi)
  (try clear ho0)
  obtain ⟨Ao10, co10, eo10⟩ := Kd.V_slice HO608.out
  (first | subst eo10 | (injection eo10 with f1_ f2_ f3_; have f4_ := f1_.symm; have f5_ := f3_.symm; clear f1_ f2_ f3_; subst f4_; subst f5_))
  refine hK.out _ _ ⟨(blk_cell BK603.out 0).trans rfl, (blk_cell BK603.out 1).trans rfl, (blk_cell BK604.out 0).trans rfl, (blk_cell BK604.out 1).trans rfl⟩ (fun hHeld => ?_)
  clear hK K
  refine norm_ (a' := ?_) ?_ ?_
  rotate_left
  · show Act.put _ (some 11) _ = _
    simp only [Act.put, List.setIfInBounds_toArray, List.set_cons_zero, List.set_cons_succ, i64_w, i32_w]
    rfl
  refine one_ (i := 7) (N := some 12) #[true, true, true, true, true, true, true, true, false] rfl rfl (one_of HT_.out (by kernel_rfl)) (by decide) (fun K hK => ?_)
  refine goes_ Tryz.func69 (by kernel_rfl) rfl #[.bool a0_0, .slice Ao10 t606.length co10] (by rfl) rfl rfl (by (try simp only [List.map_toArray, List.map_cons, List.map_nil]); first | done | rfl | (simp only [List.length_drop, List.length_take]; rfl)) ?_
  with_reducible refine (signed_Make.calls k a0_0 _ _ t606 t609 t610 _ ?side1 ?side2 A4.out).mono ?_
  (case side1 => repeat (first | exact (Kd.V_reads' HO608.out).2.2 | (with_reducible refine Kd.C_alloc ?_ _) | (with_reducible refine Kd.C_drewN ?_ _) | (with_reducible refine Kd.C_drew ?_)))
  (case side2 => exact (Kd.V_reads' HO608.out).2.1)
  rintro e w11 ⟨v611, rfl, ho0, hb⟩
  refine ⟨_, rfl, ?_⟩
  have n0_ := Aside0.mk (Kd.V_elder' (by (with_reducible repeat (first | apply Kd.V_alloc | apply Kd.V_drewN | apply Kd.V_drew)); exact HO608.out) (Kd.R_base ho0) hb)
  have n1_ := Aside0.mk (Kd.R_lower ho0 (below_size (by repeat (first | (with_reducible first | exact HB.out | apply below_alloc | apply pw_below_drewN | apply below_drew1 | refine below_set ?_ GE603.out | refine below_set ?_ GE604.out | refine below_set ?_ GE605.out) | exact HB.out))))
  have n2_ := Aside0.mk (blk_below (g := gb603) (o := .cells #[.bool a0_0, .slice A0_1 l0_1.length c0_1] 42 (0, 0)) (by (with_reducible repeat (first | refine blk_drewN ?_ _ | refine blk_drew ?_ | refine blk_alloc ?_ _)); exact BK603.out) hb)
  have n3_ := Aside0.mk (blk_below (g := gb604) (o := .cells #[.bool a1_0, .slice A1_1 l1_1.length c1_1] 42 (0, 0)) (by (with_reducible repeat (first | refine blk_drewN ?_ _ | refine blk_drew ?_ | refine blk_alloc ?_ _)); exact BK604.out) hb)
  have n4_ := Aside0.mk (blk_below (g := gb605) (o := .cells #[.bool false, .slice none 0 0] 42 (0, 0)) (by (with_reducible repeat (first | refine blk_drewN ?_ _ | refine blk_drew ?_ | refine blk_alloc ?_ _)); exact BK605.out) hb)
  have n5_ := Aside0.mk (below_step (by repeat (first | (with_reducible first | exact HB.out | apply below_alloc | apply pw_below_drewN | apply below_drew1 | refine below_set ?_ GE603.out | refine below_set ?_ GE604.out | refine below_set ?_ GE605.out) | exact HB.out)) hb)
  clear HO608
  clear BK603
  clear BK604
  clear BK605
  clear HB
  have HO608 := n0_
  have HO612 := n1_
  have BK603 := n2_
  have BK604 := n3_
  have BK605 := n4_
  have HB := n5_
  clear n0_ n1_ n2_ n3_ n4_ n5_
  (try clear hb)
  (try clear hb2)
  (try clear hk)
  (try clear hi)
  (try clear ho0)
  obtain ⟨Ao13, co13, eo13⟩ := Kd.R_slice HO612.out
  (first | subst eo13 | (injection eo13 with f1_ f2_ f3_; have f4_ := f1_.symm; have f5_ := f3_.symm; clear f1_ f2_ f3_; subst f4_; subst f5_))
  refine hK.out _ _ ⟨(blk_cell BK603.out 0).trans rfl, (blk_cell BK603.out 1).trans rfl, (blk_cell BK604.out 0).trans rfl, (blk_cell BK604.out 1).trans rfl⟩ (fun hHeld => ?_)
  clear hK K
  refine norm_ (a' := ?_) ?_ ?_
  rotate_left
  · show Act.put _ (some 12) _ = _
    simp only [Act.put, List.setIfInBounds_toArray, List.set_cons_zero, List.set_cons_succ, i64_w, i32_w]
    rfl
  refine one_ (i := 8) (N := none) #[true, true, true, true, true, true, true, true, true] rfl rfl (one_of HT_.out (by kernel_rfl)) (by decide) (fun K hK => ?_)
  have hs12 : w11.cell? ⟨gb605, 0, none⟩ = some (.bool false) := (blk_cell BK605.out 0).trans rfl
  have hfs12 := blk_frozen BK605.out 0
  have hns12_0 := NB603_605.out
  have hns12_1 := NB604_605.out
  have hms12_0 := NB605_603.out
  have hms12_1 := NB605_604.out
  have hs14 : w11.cell? ⟨gb605, 1, none⟩ = some (.slice none 0 0) := (blk_cell BK605.out 1).trans rfl
  have hfs14 := blk_frozen BK605.out 1
  have hns14_0 := NB603_605.out
  have hns14_1 := NB604_605.out
  have hms14_0 := NB605_603.out
  have hms14_1 := NB605_604.out
  refine skip_ (w1 := ?_) (by rfl) rfl ?_ ?_
  rotate_left
  · go_simp
    rfl
  refine hK.out _ _ ⟨((cell_far (p := ⟨gb605, _, none⟩) NB603_605.out _).trans (((cell_far (p := ⟨gb605, _, none⟩) NB603_605.out _).trans (hHeld.1)))), ((cell_far (p := ⟨gb605, _, none⟩) NB603_605.out _).trans (((cell_far (p := ⟨gb605, _, none⟩) NB603_605.out _).trans (hHeld.2.1)))), ((cell_far (p := ⟨gb605, _, none⟩) NB604_605.out _).trans (((cell_far (p := ⟨gb605, _, none⟩) NB604_605.out _).trans (hHeld.2.2.1)))), ((cell_far (p := ⟨gb605, _, none⟩) NB604_605.out _).trans (((cell_far (p := ⟨gb605, _, none⟩) NB604_605.out _).trans (hHeld.2.2.2))))⟩ (fun hHeld => ?_)
  clear hK K
  refine done_ (done_of HT_.out (by kernel_rfl)) ?_
  try go_wp2
  refine bodyPost_ret (results_cell_row rfl _ _ gb605 42 #[.bool t609, .slice Ao13 t610.length co13] (0, 0) _ rfl (by (with_reducible repeat (first | refine blk_drewN ?_ _ | refine blk_drew ?_ | refine blk_alloc ?_ _)); refine blk_put (cs := #[.bool t609, .slice none 0 0]) ?_ 1 _ rfl; (with_reducible repeat (first | refine blk_drewN ?_ _ | refine blk_drew ?_ | refine blk_alloc ?_ _)); refine blk_put (cs := #[.bool false, .slice none 0 0]) ?_ 0 _ rfl; (with_reducible repeat (first | refine blk_drewN ?_ _ | refine blk_drew ?_ | refine blk_alloc ?_ _)); exact BK605.out) Tryz.underlying42 rfl (by kernel_rfl)) rfl ?_
  exact ⟨_, by first | rfl | (simp [errW_none, errW_some] <;> rfl) | (simp [*, errW_none, errW_some] <;> rfl), by (with_reducible repeat (first | apply Kd.R_alloc | apply Kd.R_drewN | apply Kd.R_drew)); exact Kd.R_mono (Kd.R_far (p := ⟨gb605, 1, none⟩) (Kd.R_far (p := ⟨gb605, 0, none⟩) (Kd.R_types HO612.out BK605.out (by decide)) (fun _ hk => hk.2) (.bool t609)) (fun _ hk => hk.2) (.slice Ao13 t610.length co13)) (fun _ hk => trivial), by repeat (first | (with_reducible first | exact HB.out | apply below_alloc | apply pw_below_drewN | apply below_drew1 | refine below_set ?_ GE603.out | refine below_set ?_ GE604.out | refine below_set ?_ GE605.out) | exact HB.out)⟩
def signed_Add.f (k : Nat) (a0_0 : Bool) (l0_1 : List Int) (a1_0 : Bool) (l1_1 : List Int) : Option (Bool × List Int) := if a0_0 = a1_0 then signed_along.f k a0_0 l0_1 a1_0 l1_1 else signed_against.f k a0_0 l0_1 a1_0 l1_1
set_option maxRecDepth 100000 in
set_option maxHeartbeats 4000000 in
theorem signed_Add.calls (k : Nat) (a0_0 : Bool) (A0_1 : Option Addr) (c0_1 : Nat) (l0_1 : List Int) (a1_0 : Bool) (A1_1 : Option Addr) (c1_1 : Nat) (l1_1 : List Int) (r1 : Bool) (r2 : List Int) (w : World) (hr0_1 : Kd.C (Kd.int .u64) w A0_1 l0_1.length l0_1) (hc0_1 : l0_1.length ≤ c0_1) (hr1_1 : Kd.C (Kd.int .u64) w A1_1 l1_1.length l1_1) (hc1_1 : l1_1.length ≤ c1_1) (h : signed_Add.f k a0_0 l0_1 a1_0 l1_1 = some (r1, r2)) :
    Calls Tryz.prog 151 #[.agg #[.bool a0_0, .slice A0_1 l0_1.length c0_1], .agg #[.bool a1_0, .slice A1_1 l1_1.length c1_1]] w fun e w' => ∃ v1_ : Value, e = .returned (.agg #[.bool r1, v1_]) ∧ Kd.R (Kd.int .u64) 112 w' w.heap.size (fun _ => True) v1_ r2 ∧ Below w.heap.size w w' := by
  have hu42 := Tryz.underlying42
  have i0 : ∀ (x0 x1 : Value) (W : World), (Instr.index 213 (.agg #[x0, x1]) (.int .i64 0)).run Tryz.prog W = .ok x0 W := fun x0 x1 W => by rfl
  have i1 : ∀ (x0 x1 : Value) (W : World), (Instr.index 213 (.agg #[x0, x1]) (.int .i64 1)).run Tryz.prog W = .ok x1 W := fun x0 x1 W => by rfl
  have HR0 := Aside0.mk hr0_1
  have HR1 := Aside0.mk hr1_1
  have HC0 := Aside0.mk hc0_1
  have HC1 := Aside0.mk hc1_1
  clear hr0_1 hr1_1 hc0_1 hc1_1
  cases a0_0 <;> cases a1_0
  · have H : Aside0 (signed_along.f k false l0_1 false l1_1 = some (r1, r2)) := ⟨h⟩
    clear h
    go_enter Tryz.func151, Tryz.ntmps151
    go_wp2
    go_region_with (go_at_call 203; (with_reducible refine (signed_along.calls k _ A0_1 c0_1 l0_1 _ A1_1 c1_1 l1_1 r1 r2 _ (by repeat (first | exact HR0.out | (with_reducible refine Kd.C_alloc ?_ _) | (with_reducible refine Kd.C_drewN ?_ _) | (with_reducible refine Kd.C_drew ?_))) HC0.out (by repeat (first | exact HR1.out | (with_reducible refine Kd.C_alloc ?_ _) | (with_reducible refine Kd.C_drewN ?_ _) | (with_reducible refine Kd.C_drew ?_))) HC1.out H.out).mono ?_); rintro e w1 ⟨v1_, rfl, hv, hb⟩; obtain ⟨Av, cv, rfl⟩ := Kd.R_slice hv; have HV := Aside0.mk hv; have hx0 := q_below (b := w.heap.size + 1 + 1) (i := 0) hb (q_drew (q_new (by simp) rfl)); have hx1 := q_below (b := w.heap.size + 1 + 1) (i := 1) hb (q_drew (q_new (by simp) rfl)); have hy0 := q_fbelow (b := w.heap.size + 1 + 1) (i := 0) hb (q_drew (q_new (by simp) rfl)) (q_fdrew (q_fnew (by simp))); have hy1 := q_fbelow (b := w.heap.size + 1 + 1) (i := 1) hb (q_drew (q_new (by simp) rfl)) (q_fdrew (q_fnew (by simp))); have HB := Aside0.mk hb; clear hv hb)
    all_goals
      have hz0 := q_setne (b := w.heap.size + 1 + 1) (i := 0) (b' := w.heap.size + 1 + 1) (i' := 1) (v := .slice Av r2.length cv) (.inr (by decide)) (q_set (v := .bool r1) hx0)
      have hz1 := q_set (v := .slice Av r2.length cv) (q_setne (b := w.heap.size + 1 + 1) (i := 1) (b' := w.heap.size + 1 + 1) (i' := 0) (v := .bool r1) (.inr (by decide)) hx1)
      go_wp2
      refine bodyPost_ret (v := .agg #[.bool r1, .slice Av r2.length cv]) (by simp [results, Tryz.f151, go_sem, hz0, hz1, hu42]) rfl ?_
      exact ⟨_, rfl, Kd.R_lower (Kd.R_mono (Kd.R_far (p := ⟨w.heap.size + 1 + 1, 1, none⟩) (Kd.R_far (p := ⟨w.heap.size + 1 + 1, 0, none⟩) (Kd.R_bound HV.out) (fun k hk => by have := hk.2.1; simp at this; show k ≠ w.heap.size + 1 + 1; omega) _) (fun k hk => by have := hk.2.1; simp at this; show k ≠ w.heap.size + 1 + 1; omega) _) (fun _ _ => trivial)) (by simp; omega), ((((below_alloc (below_alloc (below_alloc (Below.refl w.heap.size w) _) _) _).drew).trans (HB.out.mono (by simp; omega))).setCell (p := ⟨w.heap.size + 1 + 1, 0, none⟩) (by show w.heap.size ≤ w.heap.size + 1 + 1; omega) _).setCell (p := ⟨w.heap.size + 1 + 1, 1, none⟩) (by show w.heap.size ≤ w.heap.size + 1 + 1; omega) _⟩
  · have H : Aside0 (signed_against.f k false l0_1 true l1_1 = some (r1, r2)) := ⟨h⟩
    clear h
    go_enter Tryz.func151, Tryz.ntmps151
    go_wp2
    go_region_with (go_at_call 204; (with_reducible refine (signed_against.calls k _ A0_1 c0_1 l0_1 _ A1_1 c1_1 l1_1 r1 r2 _ (by repeat (first | exact HR0.out | (with_reducible refine Kd.C_alloc ?_ _) | (with_reducible refine Kd.C_drewN ?_ _) | (with_reducible refine Kd.C_drew ?_))) HC0.out (by repeat (first | exact HR1.out | (with_reducible refine Kd.C_alloc ?_ _) | (with_reducible refine Kd.C_drewN ?_ _) | (with_reducible refine Kd.C_drew ?_))) HC1.out H.out).mono ?_); rintro e w1 ⟨v1_, rfl, hv, hb⟩; obtain ⟨Av, cv, rfl⟩ := Kd.R_slice hv; have HV := Aside0.mk hv; have hx0 := q_below (b := w.heap.size + 1 + 1) (i := 0) hb (q_drew (q_new (by simp) rfl)); have hx1 := q_below (b := w.heap.size + 1 + 1) (i := 1) hb (q_drew (q_new (by simp) rfl)); have hy0 := q_fbelow (b := w.heap.size + 1 + 1) (i := 0) hb (q_drew (q_new (by simp) rfl)) (q_fdrew (q_fnew (by simp))); have hy1 := q_fbelow (b := w.heap.size + 1 + 1) (i := 1) hb (q_drew (q_new (by simp) rfl)) (q_fdrew (q_fnew (by simp))); have HB := Aside0.mk hb; clear hv hb)
    all_goals
      have hz0 := q_setne (b := w.heap.size + 1 + 1) (i := 0) (b' := w.heap.size + 1 + 1) (i' := 1) (v := .slice Av r2.length cv) (.inr (by decide)) (q_set (v := .bool r1) hx0)
      have hz1 := q_set (v := .slice Av r2.length cv) (q_setne (b := w.heap.size + 1 + 1) (i := 1) (b' := w.heap.size + 1 + 1) (i' := 0) (v := .bool r1) (.inr (by decide)) hx1)
      go_wp2
      refine bodyPost_ret (v := .agg #[.bool r1, .slice Av r2.length cv]) (by simp [results, Tryz.f151, go_sem, hz0, hz1, hu42]) rfl ?_
      exact ⟨_, rfl, Kd.R_lower (Kd.R_mono (Kd.R_far (p := ⟨w.heap.size + 1 + 1, 1, none⟩) (Kd.R_far (p := ⟨w.heap.size + 1 + 1, 0, none⟩) (Kd.R_bound HV.out) (fun k hk => by have := hk.2.1; simp at this; show k ≠ w.heap.size + 1 + 1; omega) _) (fun k hk => by have := hk.2.1; simp at this; show k ≠ w.heap.size + 1 + 1; omega) _) (fun _ _ => trivial)) (by simp; omega), ((((below_alloc (below_alloc (below_alloc (Below.refl w.heap.size w) _) _) _).drew).trans (HB.out.mono (by simp; omega))).setCell (p := ⟨w.heap.size + 1 + 1, 0, none⟩) (by show w.heap.size ≤ w.heap.size + 1 + 1; omega) _).setCell (p := ⟨w.heap.size + 1 + 1, 1, none⟩) (by show w.heap.size ≤ w.heap.size + 1 + 1; omega) _⟩
  · have H : Aside0 (signed_against.f k true l0_1 false l1_1 = some (r1, r2)) := ⟨h⟩
    clear h
    go_enter Tryz.func151, Tryz.ntmps151
    go_wp2
    go_region_with (go_at_call 204; (with_reducible refine (signed_against.calls k _ A0_1 c0_1 l0_1 _ A1_1 c1_1 l1_1 r1 r2 _ (by repeat (first | exact HR0.out | (with_reducible refine Kd.C_alloc ?_ _) | (with_reducible refine Kd.C_drewN ?_ _) | (with_reducible refine Kd.C_drew ?_))) HC0.out (by repeat (first | exact HR1.out | (with_reducible refine Kd.C_alloc ?_ _) | (with_reducible refine Kd.C_drewN ?_ _) | (with_reducible refine Kd.C_drew ?_))) HC1.out H.out).mono ?_); rintro e w1 ⟨v1_, rfl, hv, hb⟩; obtain ⟨Av, cv, rfl⟩ := Kd.R_slice hv; have HV := Aside0.mk hv; have hx0 := q_below (b := w.heap.size + 1 + 1) (i := 0) hb (q_drew (q_new (by simp) rfl)); have hx1 := q_below (b := w.heap.size + 1 + 1) (i := 1) hb (q_drew (q_new (by simp) rfl)); have hy0 := q_fbelow (b := w.heap.size + 1 + 1) (i := 0) hb (q_drew (q_new (by simp) rfl)) (q_fdrew (q_fnew (by simp))); have hy1 := q_fbelow (b := w.heap.size + 1 + 1) (i := 1) hb (q_drew (q_new (by simp) rfl)) (q_fdrew (q_fnew (by simp))); have HB := Aside0.mk hb; clear hv hb)
    all_goals
      have hz0 := q_setne (b := w.heap.size + 1 + 1) (i := 0) (b' := w.heap.size + 1 + 1) (i' := 1) (v := .slice Av r2.length cv) (.inr (by decide)) (q_set (v := .bool r1) hx0)
      have hz1 := q_set (v := .slice Av r2.length cv) (q_setne (b := w.heap.size + 1 + 1) (i := 1) (b' := w.heap.size + 1 + 1) (i' := 0) (v := .bool r1) (.inr (by decide)) hx1)
      go_wp2
      refine bodyPost_ret (v := .agg #[.bool r1, .slice Av r2.length cv]) (by simp [results, Tryz.f151, go_sem, hz0, hz1, hu42]) rfl ?_
      exact ⟨_, rfl, Kd.R_lower (Kd.R_mono (Kd.R_far (p := ⟨w.heap.size + 1 + 1, 1, none⟩) (Kd.R_far (p := ⟨w.heap.size + 1 + 1, 0, none⟩) (Kd.R_bound HV.out) (fun k hk => by have := hk.2.1; simp at this; show k ≠ w.heap.size + 1 + 1; omega) _) (fun k hk => by have := hk.2.1; simp at this; show k ≠ w.heap.size + 1 + 1; omega) _) (fun _ _ => trivial)) (by simp; omega), ((((below_alloc (below_alloc (below_alloc (Below.refl w.heap.size w) _) _) _).drew).trans (HB.out.mono (by simp; omega))).setCell (p := ⟨w.heap.size + 1 + 1, 0, none⟩) (by show w.heap.size ≤ w.heap.size + 1 + 1; omega) _).setCell (p := ⟨w.heap.size + 1 + 1, 1, none⟩) (by show w.heap.size ≤ w.heap.size + 1 + 1; omega) _⟩
  · have H : Aside0 (signed_along.f k true l0_1 true l1_1 = some (r1, r2)) := ⟨h⟩
    clear h
    go_enter Tryz.func151, Tryz.ntmps151
    go_wp2
    go_region_with (go_at_call 203; (with_reducible refine (signed_along.calls k _ A0_1 c0_1 l0_1 _ A1_1 c1_1 l1_1 r1 r2 _ (by repeat (first | exact HR0.out | (with_reducible refine Kd.C_alloc ?_ _) | (with_reducible refine Kd.C_drewN ?_ _) | (with_reducible refine Kd.C_drew ?_))) HC0.out (by repeat (first | exact HR1.out | (with_reducible refine Kd.C_alloc ?_ _) | (with_reducible refine Kd.C_drewN ?_ _) | (with_reducible refine Kd.C_drew ?_))) HC1.out H.out).mono ?_); rintro e w1 ⟨v1_, rfl, hv, hb⟩; obtain ⟨Av, cv, rfl⟩ := Kd.R_slice hv; have HV := Aside0.mk hv; have hx0 := q_below (b := w.heap.size + 1 + 1) (i := 0) hb (q_drew (q_new (by simp) rfl)); have hx1 := q_below (b := w.heap.size + 1 + 1) (i := 1) hb (q_drew (q_new (by simp) rfl)); have hy0 := q_fbelow (b := w.heap.size + 1 + 1) (i := 0) hb (q_drew (q_new (by simp) rfl)) (q_fdrew (q_fnew (by simp))); have hy1 := q_fbelow (b := w.heap.size + 1 + 1) (i := 1) hb (q_drew (q_new (by simp) rfl)) (q_fdrew (q_fnew (by simp))); have HB := Aside0.mk hb; clear hv hb)
    all_goals
      have hz0 := q_setne (b := w.heap.size + 1 + 1) (i := 0) (b' := w.heap.size + 1 + 1) (i' := 1) (v := .slice Av r2.length cv) (.inr (by decide)) (q_set (v := .bool r1) hx0)
      have hz1 := q_set (v := .slice Av r2.length cv) (q_setne (b := w.heap.size + 1 + 1) (i := 1) (b' := w.heap.size + 1 + 1) (i' := 0) (v := .bool r1) (.inr (by decide)) hx1)
      go_wp2
      refine bodyPost_ret (v := .agg #[.bool r1, .slice Av r2.length cv]) (by simp [results, Tryz.f151, go_sem, hz0, hz1, hu42]) rfl ?_
      exact ⟨_, rfl, Kd.R_lower (Kd.R_mono (Kd.R_far (p := ⟨w.heap.size + 1 + 1, 1, none⟩) (Kd.R_far (p := ⟨w.heap.size + 1 + 1, 0, none⟩) (Kd.R_bound HV.out) (fun k hk => by have := hk.2.1; simp at this; show k ≠ w.heap.size + 1 + 1; omega) _) (fun k hk => by have := hk.2.1; simp at this; show k ≠ w.heap.size + 1 + 1; omega) _) (fun _ _ => trivial)) (by simp; omega), ((((below_alloc (below_alloc (below_alloc (Below.refl w.heap.size w) _) _) _).drew).trans (HB.out.mono (by simp; omega))).setCell (p := ⟨w.heap.size + 1 + 1, 0, none⟩) (by show w.heap.size ≤ w.heap.size + 1 + 1; omega) _).setCell (p := ⟨w.heap.size + 1 + 1, 1, none⟩) (by show w.heap.size ≤ w.heap.size + 1 + 1; omega) _⟩
end Go.Proofs.YtjeepapdaciieaaGreat.X
namespace Go.Proofs
open Go.Shelf
def Tryz.lays129_ren : Go.Shelf.Ren := ⟨fun | 129 => 194 | n => n, fun | 53 => 112 | 3 => 3 | 4 => 4 | 46 => 38 | 5 => 5 | 9 => 9 | n => n, fun | n => n⟩
theorem Tryz.lays129 : Go.Proofs.Lays.n129 Tryz.prog Tryz.lays129_ren := {
  mixed := by kernel_rfl
  f129 := Tryz.func194.trans (congrArg some (by kernel_rfl))
  t3 := Tryz.underlying3
  a3 := Tryz.isAgg3
  z3 := Tryz.sizeOf3
  v3 := Tryz.zeroValue3
  t4 := Tryz.underlying4
  a4 := Tryz.isAgg4
  z4 := Tryz.sizeOf4
  v4 := Tryz.zeroValue4
  t5 := Tryz.underlying5
  a5 := Tryz.isAgg5
  z5 := Tryz.sizeOf5
  v5 := Tryz.zeroValue5
  t9 := Tryz.underlying9
  a9 := Tryz.isAgg9
  z9 := Tryz.sizeOf9
  v9 := Tryz.zeroValue9
  t46 := Tryz.underlying38
  a46 := Tryz.isAgg38
  z46 := Tryz.sizeOf38
  v46 := Tryz.zeroValue38
  t53 := Tryz.underlying112
  a53 := Tryz.isAgg112
  z53 := Tryz.sizeOf112
  v53 := Tryz.zeroValue112 }
theorem Tryz.bits_Len64 (x : Int) (w : World) (h0 : 0 ≤ x) (h1 : x ≤ 18446744073709551615) :
    Calls Tryz.prog 194 #[.int .u64 x] w fun e w' => e = .returned (.int .i64 (Lib.bitLen x.toNat)) ∧ w' = w := Any.bits_Len64 Tryz.lays129 x w h0 h1
def Tryz.lays264_ren : Go.Shelf.Ren := ⟨fun | 264 => 248 | n => n, fun | 53 => 112 | 46 => 38 | n => n, fun | n => n⟩
theorem Tryz.lays264 : Go.Proofs.Lays.n264 Tryz.prog Tryz.lays264_ren := {
  mixed := by kernel_rfl
  f264 := Tryz.func248.trans (congrArg some (by kernel_rfl))
  t46 := Tryz.underlying38
  a46 := Tryz.isAgg38
  z46 := Tryz.sizeOf38
  v46 := Tryz.zeroValue38
  t53 := Tryz.underlying112
  a53 := Tryz.isAgg112
  z53 := Tryz.sizeOf112
  v53 := Tryz.zeroValue112 }
open Go.RowKit Go.Lib in
theorem Tryz.bits_Mul64 (x y : Nat) (hx : x < 18446744073709551616) (hy : y < 18446744073709551616) (w : World) :
    Calls Tryz.prog 248 #[.int .u64 x, .int .u64 y] w fun e w' => e = .returned (.tuple #[.int .u64 ((x * y / 18446744073709551616 : Nat) : Int), .int .u64 ((x * y % 18446744073709551616 : Nat) : Int)]) ∧ w' = w := Any.bits_Mul64 Tryz.lays264 x y hx hy w
end Go.Proofs
namespace Go.Proofs.YtjeepapdaciieaaGreat.X
open Go.RowKit Go.Proofs.YtjeepapdaciieaaGreatW.PrintWords Go.Proofs.YtjeepapdaciieaaGreatW.PrintLast Go.Proofs.YtjeepapdaciieaaGreatW.PrintMore
attribute [local go_sem] max2_int min2_int max_two min_two max_three min_three max_four min_four
set_option linter.unusedVariables false
set_option linter.unusedSimpArgs false
def bits_Len64.f (a0 : Int) : Option Int := if 0 ≤ a0 ∧ a0 ≤ 18446744073709551615 then some (Lib.bitLen a0.toNat) else none
theorem bits_Len64.calls (a0 : Int) (r : Int) (w : World) (h : bits_Len64.f a0 = some r) :
    Calls Tryz.prog 194 #[.int .u64 a0] w fun e w' => e = .returned (.int .i64 r) ∧ Drawn0 w w' := by
  unfold bits_Len64.f at h
  by_cases c : 0 ≤ a0 ∧ a0 ≤ 18446744073709551615
  · rw [if_pos c] at h
    obtain rfl := Option.some.inj h
    refine (Tryz.bits_Len64 a0 w c.1 c.2).mono ?_
    rintro e w' ⟨rfl, rfl⟩
    exact ⟨rfl, drawn0_self _⟩
  · rw [if_neg c] at h
    cases h
end Go.Proofs.YtjeepapdaciieaaGreat.X
