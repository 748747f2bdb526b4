/- One law of the program and what its proof stands on, put together by a program out of the texts that print.sh and this session's own programs wrote: the words of the print, contracts of Go functions, plain lemmas, the law. Conditions: those that each theorem names. -/
import Derived.Test.YtjdlepjgniokdaaGreatDoorQvd
section

namespace Go.Proofs.YtjdlepjgniokdaaGreatDoor.PA
open Go.RowKit Go.Proofs.YtjdlepjgniokdaaGreatDoorW.PrintWords Go.Proofs.YtjdlepjgniokdaaGreatDoorW.PrintLast Go.Proofs.YtjdlepjgniokdaaGreatDoorW.PrintMore
attribute [local go_sem] max2_int min2_int max_two min_two max_three min_three max_four min_four
set_option linter.unusedVariables false
set_option linter.unusedSimpArgs false
mutual
def spec_ReadFraction.j0 : Nat → ByteArray → ByteArray → Int → Bool → Option (Int × Int × Bool)
  | 0, _, _, _, _ => none
  | k + 1, x0, x4, x5, x19 => if x19 = true then (if 1 ≤ (x0.size : Int) then (spec_ReadFraction.j1 k x0 (x0.extract 1 x0.size) (-1)) else (none)) else (spec_ReadFraction.j1 k x0 x4 x5)
def spec_ReadFraction.j1 : Nat → ByteArray → ByteArray → Int → Option (Int × Int × Bool)
  | 0, _, _, _ => none
  | k + 1, x0, x4, x5 => (spec_DecimalOf.f k x4).bind fun bt332 => (if bt332.2.2 = true then (if x0.toList = ([] : List UInt8) then (some (0, 0, false)) else ((spec_FractionText.f k (wrap64 (x5 * bt332.1)) bt332.2.1).bind fun t336 => (if t336.toList = x0.toList then (some (wrap64 (x5 * bt332.1), bt332.2.1, true)) else (some (0, 0, false))))) else ((spec_l2Digits.f k x4 0 10).bind fun bt337 => (if bt337.2 > 0 then (spec_ReadFraction.j2 k x0 x4 x5 bt337.1 bt337.2 (bt337.2 == (x4.size : Int)) bt332.1 bt332.2.1) else (spec_ReadFraction.j2 k x0 x4 x5 bt337.1 bt337.2 false bt332.1 bt332.2.1))))
def spec_ReadFraction.j2 : Nat → ByteArray → ByteArray → Int → Int → Int → Bool → Int → Int → Option (Int × Int × Bool)
  | 0, _, _, _, _, _, _, _, _ => none
  | k + 1, x0, x4, x5, x8, x9, x41, x336000, x336001 => if x41 = true then (spec_ReadFraction.j3 k x0 x4 x5 x8 x9 x8 1) else (spec_ReadFraction.j3 k x0 x4 x5 x8 x9 x336000 x336001)
def spec_ReadFraction.j3 : Nat → ByteArray → ByteArray → Int → Int → Int → Int → Int → Option (Int × Int × Bool)
  | 0, _, _, _, _, _, _, _ => none
  | k + 1, x0, x4, x5, x8, x9, x336000, x336001 => if x9 > 0 then (if x9 < (x4.size : Int) then (if 0 ≤ x9 then (spec_ReadFraction.j4 k x0 x4 x5 x8 x9 ((bt x4 x9) == 47) x336000 x336001) else (none)) else (spec_ReadFraction.j4 k x0 x4 x5 x8 x9 false x336000 x336001)) else (spec_ReadFraction.j4 k x0 x4 x5 x8 x9 false x336000 x336001)
def spec_ReadFraction.j4 : Nat → ByteArray → ByteArray → Int → Int → Int → Bool → Int → Int → Option (Int × Int × Bool)
  | 0, _, _, _, _, _, _, _, _ => none
  | k + 1, x0, x4, x5, x8, x9, x57, x336000, x336001 => if x57 = true then ((spec_l2Digits.f k x4 (wrap64 (x9 + 1)) 7).bind fun bt339 => (if bt339.2 = (x4.size : Int) then (spec_ReadFraction.j5 k x0 x5 x8 bt339.1 (decide (bt339.1 > 0)) x336000 x336001) else (spec_ReadFraction.j5 k x0 x5 x8 bt339.1 false x336000 x336001))) else (if x0.toList = ([] : List UInt8) then (some (0, 0, false)) else ((spec_FractionText.f k (wrap64 (x5 * x336000)) x336001).bind fun t343 => (if t343.toList = x0.toList then (some (wrap64 (x5 * x336000), x336001, true)) else (some (0, 0, false)))))
def spec_ReadFraction.j5 : Nat → ByteArray → Int → Int → Int → Bool → Int → Int → Option (Int × Int × Bool)
  | 0, _, _, _, _, _, _, _ => none
  | k + 1, x0, x5, x8, x10, x72, x336000, x336001 => if x72 = true then (if x0.toList = ([] : List UInt8) then (some (0, 0, false)) else ((spec_FractionText.f k (wrap64 (x5 * x8)) x10).bind fun t341 => (if t341.toList = x0.toList then (some (wrap64 (x5 * x8), x10, true)) else (some (0, 0, false))))) else (if x0.toList = ([] : List UInt8) then (some (0, 0, false)) else ((spec_FractionText.f k (wrap64 (x5 * x336000)) x336001).bind fun t342 => (if t342.toList = x0.toList then (some (wrap64 (x5 * x336000), x336001, true)) else (some (0, 0, false)))))
end
def spec_ReadFraction.f (k : Nat) (a0 : ByteArray) : Option (Int × Int × Bool) := if a0.toList = ([] : List UInt8) then (spec_ReadFraction.j0 k a0 a0 1 false) else (if 0 < (a0.size : Int) then (spec_ReadFraction.j0 k a0 a0 1 ((bt a0 0) == 45)) else (none))
set_option maxHeartbeats 8000000 in
set_option maxRecDepth 100000 in
theorem spec_ReadFraction.calls (k : Nat) (a0 : ByteArray) (r1 : Int) (r2 : Int) (r3 : Bool) (w : World) (h : spec_ReadFraction.f k a0 = some (r1, r2, r3)) :
    Calls Tryz.prog 62 #[.string a0] w fun e w' => e = .returned (.tuple #[.agg #[.int .i64 r1, .int .i64 r2], .bool r3]) ∧ Below w.heap.size w w' := by
  have hu76 := Tryz.underlying76
  have HB := Aside0.mk (Below.refl w.heap.size w)
  have H : (if a0.toList = ([] : List UInt8) then (spec_ReadFraction.j0 k a0 a0 1 false) else (if 0 < (a0.size : Int) then (spec_ReadFraction.j0 k a0 a0 1 ((bt a0 0) == 45)) else (none))) = some (r1, r2, r3) := h
  clear h
  have HC2 := Aside0.mk H
  clear H
  go_enter Tryz.func62, Tryz.ntmps62
  go_upto_region 3 with (first | ((with_reducible refine gate_dst (N := 2) rfl ?_); (try (refine gate_guard (by rfl) ?_; dsimp only)); refine box_event ?hg (N := 2) ?hd (cs := #[.int .i64 0, .int .i64 0]) (t := 76) ?hr ?_; (case hd => rfl); (case hg => rfl); (case hr => first | (go_simp; done) | (go_simp; rfl)); intro gb331 hg w3 hbox hb; have n0_ := Aside0.mk (below_step (by repeat (first | (with_reducible first | exact HB.out | apply below_alloc | apply pw_below_drewN | apply below_drew1) | exact HB.out)) hb); have n1_ := Aside0.mk (hbox); have n2_ := Aside0.mk ((by rw [hg]; exact (below_size (by repeat (first | (with_reducible first | exact HB.out | apply below_alloc | apply pw_below_drewN | apply below_drew1) | exact HB.out))) : w.heap.size ≤ gb331)); have n3_ := Aside0.mk ((by rw [hg]; exact (below_size (by repeat (first | (with_reducible first | exact HB.out | apply below_alloc | apply pw_below_drewN | apply below_drew1) | exact HB.out))) : w.heap.size ≤ gb331)); clear HB; have HB := n0_; have BK331 := n1_; have GW331 := n2_; have GE331 := n3_; clear n0_ n1_ n2_ n3_; clear hb hbox hg))
  (try simp only [Act.put, List.setIfInBounds_toArray, List.set_cons_zero, List.set_cons_succ])
  go_cut [19] (fun v19 wc => ∃ (kq : Nat) (x19_1 : Bool), v19 = .bool x19_1 ∧ Aside0 (spec_ReadFraction.j0 kq a0 a0 1 x19_1 = some (r1, r2, r3)) ∧ Aside0 (kq ≤ k) ∧ Aside0 (wc.heap[gb331]? = some (.cells #[.int .i64 0, .int .i64 0] 76 (0, 0))) ∧ Aside0 (Below w.heap.size w wc))
  case first =>
    have H := HC2.out
    clear HC2
    by_cases c4 : a0.toList = ([] : List UInt8)
    · rw [if_pos c4] at H
      have c4b0 : (a0.toList == ([] : List UInt8)) = true := beq_iff_eq.mpr c4
      have c4b1 : (a0.toList != ([] : List UInt8)) = false := bne_eq_false_iff_eq.mpr c4
      (try (have c4b2 : a0.toList.isEmpty = true := by simpa using c4))
      clear c4
      (first | rw [c4b0] | (simp only [i64_w, i32_w]; rw [c4b0]) | rw [c4b1] | rw [c4b2] | skip)
      have H' := Aside0.mk H
      clear H
      go_wp2
      go_meet
      case rel => exact ⟨_, (false), (by first | rfl | (simp; done) | (simp [*]; done)), H', ⟨by first | omega | exact Nat.le_refl _⟩, ⟨by (with_reducible repeat (first | refine blk_drewN ?_ _ | refine blk_drew ?_ | refine blk_alloc ?_ _)); exact BK331.out⟩, ⟨by repeat (first | (with_reducible first | exact HB.out | apply below_alloc | apply pw_below_drewN | apply below_drew1 | refine below_set ?_ GE331.out) | exact HB.out)⟩⟩
    · rw [if_neg c4] at H
      have c4b0 : (a0.toList == ([] : List UInt8)) = false := beq_eq_false_iff_ne.mpr c4
      have c4b1 : (a0.toList != ([] : List UInt8)) = true := bne_iff_ne.mpr c4
      (try (have c4b2 : a0.toList.isEmpty = false := by simpa using c4))
      (first | rw [c4b0] | (simp only [i64_w, i32_w]; rw [c4b0]) | rw [c4b1] | rw [c4b2] | skip)
      by_cases c5 : 0 < (a0.size : Int)
      · rw [if_pos c5] at H
        have c5b0 : decide (0 < (a0.size : Int)) = true := decide_eq_true c5
        have c5b1 : decide (0 < a0.size) = true := decide_eq_true (by omega)
        clear c5
        have H' := Aside0.mk H
        clear H
        have p6 : 0 ≤ (0 : Int) := (by omega)
        have q6 : 0 < a0.size := (by have : (0 : Int) < (a0.size : Int) := of_decide_eq_true (by first | (with_reducible assumption) | assumption); omega)
        have hx6 : ∀ h : 0 < a0.size, ((a0[0]'h).toNat : Int) = bt a0 0 := bt_at a0 0
        clear p6
        have qi6 : (0 < (a0.size : Int)) = True := eq_true (of_decide_eq_true (by first | (with_reducible assumption) | assumption))
        replace q6 := eq_true q6
        go_wp2
        go_meet
        case rel => exact ⟨_, (((bt a0 0) == 45)), (by first | rfl | (simp; done) | (simp [*]; done)), H', ⟨by first | omega | exact Nat.le_refl _⟩, ⟨by (with_reducible repeat (first | refine blk_drewN ?_ _ | refine blk_drew ?_ | refine blk_alloc ?_ _)); exact BK331.out⟩, ⟨by repeat (first | (with_reducible first | exact HB.out | apply below_alloc | apply pw_below_drewN | apply below_drew1 | refine below_set ?_ GE331.out) | exact HB.out)⟩⟩
      · rw [if_neg c5] at H
        exact absurd H (by simp)
  case rest =>
    clear HC2
    try clear p2
    try clear c4
    try clear c4b0
    try clear c4b1
    try clear c4b2
    try clear c5
    try clear c5b0
    try clear c5b1
    try clear c6
    try clear p6
    try clear q6
    try clear hx6
    try clear qi6
    try clear p6
    try clear q6
    obtain ⟨kq, x19_1, rfl, HA, HJ1, BK331, HB⟩ := hcut
    cases kq with
    | zero => exact absurd HA.out (by simp [spec_ReadFraction.j0])
    | succ kj1 =>
      have H := HA.out
      clear HA
      simp only [spec_ReadFraction.j0] at H
      have HC7 := Aside0.mk H
      clear H
      go_upto_if 19 with (fail)
      go_cut [4, 5] (fun v4 v5 wc => ∃ (kq : Nat) (x4_6 : ByteArray) (x5_6 : Int), v4 = .string x4_6 ∧ v5 = .int .i64 x5_6 ∧ Aside0 (spec_ReadFraction.j1 kq a0 x4_6 x5_6 = some (r1, r2, r3)) ∧ Aside0 (kq ≤ kj1) ∧ Aside0 (wc.heap[gb331]? = some (.cells #[.int .i64 0, .int .i64 0] 76 (0, 0))) ∧ Aside0 (Below w.heap.size w wc))
      case first =>
        have H := HC7.out
        clear HC7
        by_cases c8 : x19_1 = true
        · subst c8
          have H1 : (if 1 ≤ (a0.size : Int) then (spec_ReadFraction.j1 kj1 a0 (a0.extract 1 a0.size) (-1)) else (none)) = some (r1, r2, r3) := by rw [if_pos rfl] at H; exact H
          clear H
          have H := H1
          clear H1
          by_cases c9 : 1 ≤ (a0.size : Int)
          · rw [if_pos c9] at H
            have c9b0 := eq_true c9
            have c9b1 : decide (1 ≤ (a0.size : Int)) = true := decide_eq_true c9
            clear c9
            have H' := Aside0.mk H
            clear H
            go_wp2
            go_meet
            case rel => exact ⟨_, (a0.extract 1 a0.size), ((-1)), (by first | rfl | (simp; done) | (simp [*]; done)), (by first | rfl | (simp; done) | (simp [*]; done)), H', ⟨by have := HJ1.out; first | omega | exact Nat.le_refl _⟩, ⟨by (with_reducible repeat (first | refine blk_drewN ?_ _ | refine blk_drew ?_ | refine blk_alloc ?_ _)); exact BK331.out⟩, ⟨by repeat (first | (with_reducible first | exact HB.out | apply below_alloc | apply pw_below_drewN | apply below_drew1 | refine below_set ?_ GE331.out) | exact HB.out)⟩⟩
          · rw [if_neg c9] at H
            exact absurd H (by simp)
        · replace c8 := Bool.eq_false_iff.mpr c8
          subst c8
          have H1 : (spec_ReadFraction.j1 kj1 a0 a0 1) = some (r1, r2, r3) := by rw [if_neg (show ¬ (false = true) by decide)] at H; exact H
          clear H
          have H := H1
          clear H1
          have H' := Aside0.mk H
          clear H
          go_wp2
          go_meet
          case rel => exact ⟨_, (a0), (1), (by first | rfl | (simp; done) | (simp [*]; done)), (by first | rfl | (simp; done) | (simp [*]; done)), H', ⟨by have := HJ1.out; first | omega | exact Nat.le_refl _⟩, ⟨by (with_reducible repeat (first | refine blk_drewN ?_ _ | refine blk_drew ?_ | refine blk_alloc ?_ _)); exact BK331.out⟩, ⟨by repeat (first | (with_reducible first | exact HB.out | apply below_alloc | apply pw_below_drewN | apply below_drew1 | refine below_set ?_ GE331.out) | exact HB.out)⟩⟩
      case rest =>
        clear HC7
        try clear p2
        try clear c4
        try clear c4b0
        try clear c4b1
        try clear c4b2
        try clear c5
        try clear c5b0
        try clear c5b1
        try clear c6
        try clear p6
        try clear q6
        try clear hx6
        try clear qi6
        try clear c8
        try clear c9
        try clear c9b0
        try clear c9b1
        try clear p2
        try clear p6
        try clear q6
        obtain ⟨kq, x4_6, x5_6, rfl, rfl, HA, HJ6, BK331, HB⟩ := hcut
        cases kq with
        | zero => exact absurd HA.out (by simp [spec_ReadFraction.j1])
        | succ kj6 =>
          have H := HA.out
          clear HA
          simp only [spec_ReadFraction.j1] at H
          replace H := Option.bind_eq_some_iff.mp H
          obtain ⟨⟨t332, t333, t334⟩, A100, H⟩ := H
          replace H : (if t334 = true then (if a0.toList = ([] : List UInt8) then (some (0, 0, false)) else ((spec_FractionText.f kj6 (wrap64 (x5_6 * t332)) t333).bind fun t336 => (if t336.toList = a0.toList then (some (wrap64 (x5_6 * t332), t333, true)) else (some (0, 0, false))))) else ((spec_l2Digits.f kj6 x4_6 0 10).bind fun bt337 => (if bt337.2 > 0 then (spec_ReadFraction.j2 kj6 a0 x4_6 x5_6 bt337.1 bt337.2 (bt337.2 == (x4_6.size : Int)) t332 t333) else (spec_ReadFraction.j2 kj6 a0 x4_6 x5_6 bt337.1 bt337.2 false t332 t333)))) = some (r1, r2, r3) := H
          have A10 := Aside0.mk A100
          clear A100
          have HU_ := Aside0.mk H
          clear H
          go_upto_if 28 with (first | ((with_reducible refine gate_callee (f := 103) rfl ?_); refine goesL_ (some 24) rfl rfl Tryz.func103 (by kernel_rfl) rfl #[.string x4_6] rfl (by (try simp only [List.map_toArray, List.map_cons, List.map_nil]); first | done | rfl | (simp only [List.length_drop, List.length_take]; rfl) | (simp only [Int.mul_one, Int.one_mul, Int.add_zero, Int.zero_add, pxw]; rfl)) ?_; (with_reducible refine (spec_DecimalOf.calls kj6 x4_6 t332 t333 t334 _ A10.out).mono ?_); rintro e w11 ⟨rfl, hb⟩; refine ⟨_, rfl, ?_⟩; have n0_ := Aside0.mk (blk_below (g := gb331) (o := .cells #[.int .i64 0, .int .i64 0] 76 (0, 0)) (by (with_reducible repeat (first | refine blk_drewN ?_ _ | refine blk_drew ?_ | refine blk_alloc ?_ _)); exact BK331.out) hb); have n1_ := Aside0.mk (below_step (by repeat (first | (with_reducible first | exact HB.out | apply below_alloc | apply pw_below_drewN | apply below_drew1 | refine below_set ?_ GE331.out) | exact HB.out)) hb); clear BK331; clear HB; have BK331 := n0_; have HB := n1_; clear n0_ n1_; (try clear hb); (try clear hb2); (try clear hk); (try clear hi)) | ((with_reducible refine gate_dst (N := 6) rfl ?_); (try (refine gate_guard (by rfl) ?_; dsimp only)); refine box_event ?hg (N := 6) ?hd (cs := #[.int .i64 0, .int .i64 0]) (t := 76) ?hr ?_; (case hd => rfl); (case hg => rfl); (case hr => first | (go_simp; done) | (go_simp; rfl)); intro gb335 hg w12 hbox hb; have n0_ := Aside0.mk (blk_below (g := gb331) (o := .cells #[.int .i64 0, .int .i64 0] 76 (0, 0)) (by (with_reducible repeat (first | refine blk_drewN ?_ _ | refine blk_drew ?_ | refine blk_alloc ?_ _)); exact BK331.out) hb); have n1_ := Aside0.mk (below_step (by repeat (first | (with_reducible first | exact HB.out | apply below_alloc | apply pw_below_drewN | apply below_drew1 | refine below_set ?_ GE331.out) | exact HB.out)) hb); have n2_ := Aside0.mk (hbox); have n3_ := Aside0.mk ((by rw [hg]; exact (below_size (by repeat (first | (with_reducible first | exact HB.out | apply below_alloc | apply pw_below_drewN | apply below_drew1 | refine below_set ?_ GE331.out) | exact HB.out))) : w.heap.size ≤ gb335)); have n4_ := Aside0.mk ((by rw [hg]; exact (below_size (by repeat (first | (with_reducible first | exact HB.out | apply below_alloc | apply pw_below_drewN | apply below_drew1 | refine below_set ?_ GE331.out) | exact HB.out))) : w.heap.size ≤ gb335)); have n5_ := Aside0.mk ((by rw [hg]; exact Nat.ne_of_lt (blk_lt (g := gb331) (o := .cells #[.int .i64 0, .int .i64 0] 76 (0, 0)) (by (with_reducible repeat (first | refine blk_drewN ?_ _ | refine blk_drew ?_ | refine blk_alloc ?_ _)); exact BK331.out)) : gb331 ≠ gb335)); have n6_ := Aside0.mk ((by rw [hg]; exact Nat.ne_of_gt (blk_lt (g := gb331) (o := .cells #[.int .i64 0, .int .i64 0] 76 (0, 0)) (by (with_reducible repeat (first | refine blk_drewN ?_ _ | refine blk_drew ?_ | refine blk_alloc ?_ _)); exact BK331.out)) : gb335 ≠ gb331)); clear BK331; clear HB; have BK331 := n0_; have HB := n1_; have BK335 := n2_; have GW335 := n3_; have GE335 := n4_; have NB331_335 := n5_; have NB335_331 := n6_; clear n0_ n1_ n2_ n3_ n4_ n5_ n6_; clear hb hbox hg; have hnb13 := NB335_331.out; have hnc13 := NB331_335.out; have hcz14_0 : w12.cell? ⟨gb335, 0, none⟩ = some (.int .i64 0) := (blk_cell BK335.out 0).trans rfl; have hcz14_1 : w12.cell? ⟨gb335, 1, none⟩ = some (.int .i64 0) := (blk_cell BK335.out 1).trans rfl; have hfz14_0 := blk_frozen BK335.out 0; have hfz14_1 := blk_frozen BK335.out 1))
          (try simp only [Act.put, List.setIfInBounds_toArray, List.set_cons_zero, List.set_cons_succ])
          have H := HU_.out
          clear HU_
          by_cases c15 : t334 = true
          · subst c15
            have H1 : (if a0.toList = ([] : List UInt8) then (some (0, 0, false)) else ((spec_FractionText.f kj6 (wrap64 (x5_6 * t332)) t333).bind fun t336 => (if t336.toList = a0.toList then (some (wrap64 (x5_6 * t332), t333, true)) else (some (0, 0, false))))) = some (r1, r2, r3) := by rw [if_pos rfl] at H; exact H
            clear H
            have H := H1
            clear H1
            by_cases c16 : a0.toList = ([] : List UInt8)
            · rw [if_pos c16] at H
              have c16b0 : (a0.toList == ([] : List UInt8)) = true := beq_iff_eq.mpr c16
              have c16b1 : (a0.toList != ([] : List UInt8)) = false := bne_eq_false_iff_eq.mpr c16
              (try (have c16b2 : a0.toList.isEmpty = true := by simpa using c16))
              clear c16
              (first | rw [c16b0] | (simp only [i64_w, i32_w]; rw [c16b0]) | rw [c16b1] | rw [c16b2] | skip)
              simp only [Option.some.injEq, Prod.mk.injEq] at H
              obtain ⟨rfl, rfl, rfl⟩ := H
              have hnb17 := NB335_331.out
              have hnc17 := NB331_335.out
              have hcz18_0 : w12.cell? ⟨gb335, 0, none⟩ = some (.int .i64 0) := (blk_cell BK335.out 0).trans rfl
              have hcz18_1 : w12.cell? ⟨gb335, 1, none⟩ = some (.int .i64 0) := (blk_cell BK335.out 1).trans rfl
              have hfz18_0 := blk_frozen BK335.out 0
              have hfz18_1 := blk_frozen BK335.out 1
              have hcz19_0 : w12.cell? ⟨gb331, 0, none⟩ = some (.int .i64 0) := (blk_cell BK331.out 0).trans rfl
              have hcz19_1 : w12.cell? ⟨gb331, 1, none⟩ = some (.int .i64 0) := (blk_cell BK331.out 1).trans rfl
              have hfz19_0 := blk_frozen BK331.out 0
              have hfz19_1 := blk_frozen BK331.out 1
              go_wp2
              refine bodyPost_ret (results_ct rfl _ _ gb331 76 #[.int .i64 0, .int .i64 0] (0, 0) _ rfl (by (with_reducible repeat (first | refine blk_drewN ?_ _ | refine blk_drew ?_ | refine blk_alloc ?_ _)); refine blk_put (cs := #[.int .i64 0, .int .i64 0]) ?_ 1 _ rfl; (with_reducible repeat (first | refine blk_drewN ?_ _ | refine blk_drew ?_ | refine blk_alloc ?_ _)); refine blk_put (cs := #[.int .i64 0, .int .i64 0]) ?_ 0 _ rfl; (with_reducible repeat (first | refine blk_drewN ?_ _ | refine blk_drew ?_ | refine blk_alloc ?_ _)); refine blk_far ?_ NB331_335.out _; (with_reducible repeat (first | refine blk_drewN ?_ _ | refine blk_drew ?_ | refine blk_alloc ?_ _)); refine blk_far ?_ NB331_335.out _; (with_reducible repeat (first | refine blk_drewN ?_ _ | refine blk_drew ?_ | refine blk_alloc ?_ _)); refine blk_far ?_ NB331_335.out _; (with_reducible repeat (first | refine blk_drewN ?_ _ | refine blk_drew ?_ | refine blk_alloc ?_ _)); exact BK331.out) Tryz.underlying76 rfl (by kernel_rfl)) rfl ?_
              exact ⟨by first | rfl | (simp [errW_none, errW_some] <;> rfl) | (simp [*, errW_none, errW_some] <;> rfl), by repeat (first | (with_reducible first | exact HB.out | apply below_alloc | apply pw_below_drewN | apply below_drew1 | refine below_set ?_ GE331.out | refine below_set ?_ GE335.out) | exact HB.out)⟩
            · rw [if_neg c16] at H
              have c16b0 : (a0.toList == ([] : List UInt8)) = false := beq_eq_false_iff_ne.mpr c16
              have c16b1 : (a0.toList != ([] : List UInt8)) = true := bne_iff_ne.mpr c16
              (try (have c16b2 : a0.toList.isEmpty = false := by simpa using c16))
              (first | rw [c16b0] | (simp only [i64_w, i32_w]; rw [c16b0]) | rw [c16b1] | rw [c16b2] | skip)
              replace H := Option.bind_eq_some_iff.mp H
              obtain ⟨t336, A200, H⟩ := H
              replace H : (if t336.toList = a0.toList then (some (wrap64 (x5_6 * t332), t333, true)) else (some (0, 0, false))) = some (r1, r2, r3) := H
              have A20 := Aside0.mk A200
              clear A200
              have HU_ := Aside0.mk H
              clear H
              have hnb21 := NB335_331.out
              have hnc21 := NB331_335.out
              have hcz22_0 : w12.cell? ⟨gb335, 0, none⟩ = some (.int .i64 0) := (blk_cell BK335.out 0).trans rfl
              have hcz22_1 : w12.cell? ⟨gb335, 1, none⟩ = some (.int .i64 0) := (blk_cell BK335.out 1).trans rfl
              have hfz22_0 := blk_frozen BK335.out 0
              have hfz22_1 := blk_frozen BK335.out 1
              go_upto_if 88 with (first | (go_at_call 99; (with_reducible refine (spec_FractionText.calls kj6 (wrap64 (x5_6 * t332)) t333 t336 _ A20.out).mono ?_); rintro e w23 ⟨rfl, hb⟩; have n0_ := Aside0.mk (blk_below (g := gb331) (o := .cells #[.int .i64 0, .int .i64 0] 76 (0, 0)) (by (with_reducible repeat (first | refine blk_drewN ?_ _ | refine blk_drew ?_ | refine blk_alloc ?_ _)); refine blk_far ?_ NB331_335.out _; (with_reducible repeat (first | refine blk_drewN ?_ _ | refine blk_drew ?_ | refine blk_alloc ?_ _)); refine blk_far ?_ NB331_335.out _; (with_reducible repeat (first | refine blk_drewN ?_ _ | refine blk_drew ?_ | refine blk_alloc ?_ _)); refine blk_far ?_ NB331_335.out _; (with_reducible repeat (first | refine blk_drewN ?_ _ | refine blk_drew ?_ | refine blk_alloc ?_ _)); exact BK331.out) hb); have n1_ := Aside0.mk (blk_below (g := gb335) (o := .cells #[.int .i64 (wrap64 (x5_6 * t332)), .int .i64 t333] 76 (0, 0)) (by (with_reducible repeat (first | refine blk_drewN ?_ _ | refine blk_drew ?_ | refine blk_alloc ?_ _)); refine blk_put (cs := #[.int .i64 t332, .int .i64 t333]) ?_ 0 _ rfl; (with_reducible repeat (first | refine blk_drewN ?_ _ | refine blk_drew ?_ | refine blk_alloc ?_ _)); refine blk_put (cs := #[.int .i64 t332, .int .i64 0]) ?_ 1 _ rfl; (with_reducible repeat (first | refine blk_drewN ?_ _ | refine blk_drew ?_ | refine blk_alloc ?_ _)); refine blk_put (cs := #[.int .i64 0, .int .i64 0]) ?_ 0 _ rfl; (with_reducible repeat (first | refine blk_drewN ?_ _ | refine blk_drew ?_ | refine blk_alloc ?_ _)); exact BK335.out) hb); have n2_ := Aside0.mk (below_step (by repeat (first | (with_reducible first | exact HB.out | apply below_alloc | apply pw_below_drewN | apply below_drew1 | refine below_set ?_ GE331.out | refine below_set ?_ GE335.out) | exact HB.out)) hb); clear BK331; clear BK335; clear HB; have BK331 := n0_; have BK335 := n1_; have HB := n2_; clear n0_ n1_ n2_; (try clear hb); (try clear hb2); (try clear hk); (try clear hi)))
              (try simp only [Act.put, List.setIfInBounds_toArray, List.set_cons_zero, List.set_cons_succ])
              have H := HU_.out
              clear HU_
              by_cases c24 : t336.toList = a0.toList
              · rw [if_pos c24] at H
                have c24b0 : (t336.toList == a0.toList) = true := beq_iff_eq.mpr c24
                have c24b1 : (t336.toList != a0.toList) = false := bne_eq_false_iff_eq.mpr c24
                clear c24
                (first | rw [c24b0] | (simp only [i64_w, i32_w]; rw [c24b0]) | rw [c24b1] | skip)
                simp only [Option.some.injEq, Prod.mk.injEq] at H
                obtain ⟨rfl, rfl, rfl⟩ := H
                have hnb25 := NB335_331.out
                have hnc25 := NB331_335.out
                have hcz26_0 : w23.cell? ⟨gb335, 0, none⟩ = some (.int .i64 (wrap64 (x5_6 * t332))) := (blk_cell BK335.out 0).trans rfl
                have hcz26_1 : w23.cell? ⟨gb335, 1, none⟩ = some (.int .i64 t333) := (blk_cell BK335.out 1).trans rfl
                have hfz26_0 := blk_frozen BK335.out 0
                have hfz26_1 := blk_frozen BK335.out 1
                have hcz27_0 : w23.cell? ⟨gb331, 0, none⟩ = some (.int .i64 0) := (blk_cell BK331.out 0).trans rfl
                have hcz27_1 : w23.cell? ⟨gb331, 1, none⟩ = some (.int .i64 0) := (blk_cell BK331.out 1).trans rfl
                have hfz27_0 := blk_frozen BK331.out 0
                have hfz27_1 := blk_frozen BK331.out 1
                go_wp2
                refine bodyPost_ret (results_ct rfl _ _ gb331 76 #[.int .i64 (wrap64 (x5_6 * t332)), .int .i64 t333] (0, 0) _ rfl (by (with_reducible repeat (first | refine blk_drewN ?_ _ | refine blk_drew ?_ | refine blk_alloc ?_ _)); refine blk_put (cs := #[.int .i64 (wrap64 (x5_6 * t332)), .int .i64 0]) ?_ 1 _ rfl; (with_reducible repeat (first | refine blk_drewN ?_ _ | refine blk_drew ?_ | refine blk_alloc ?_ _)); refine blk_put (cs := #[.int .i64 0, .int .i64 0]) ?_ 0 _ rfl; (with_reducible repeat (first | refine blk_drewN ?_ _ | refine blk_drew ?_ | refine blk_alloc ?_ _)); exact BK331.out) Tryz.underlying76 rfl (by kernel_rfl)) rfl ?_
                exact ⟨by first | rfl | (simp [errW_none, errW_some] <;> rfl) | (simp [*, errW_none, errW_some] <;> rfl), by repeat (first | (with_reducible first | exact HB.out | apply below_alloc | apply pw_below_drewN | apply below_drew1 | refine below_set ?_ GE331.out | refine below_set ?_ GE335.out) | exact HB.out)⟩
              · rw [if_neg c24] at H
                have c24b0 : (t336.toList == a0.toList) = false := beq_eq_false_iff_ne.mpr c24
                have c24b1 : (t336.toList != a0.toList) = true := bne_iff_ne.mpr c24
                (first | rw [c24b0] | (simp only [i64_w, i32_w]; rw [c24b0]) | rw [c24b1] | skip)
                simp only [Option.some.injEq, Prod.mk.injEq] at H
                obtain ⟨rfl, rfl, rfl⟩ := H
                have hnb28 := NB331_335.out
                have hnc28 := NB335_331.out
                have hcz29_0 : w23.cell? ⟨gb331, 0, none⟩ = some (.int .i64 0) := (blk_cell BK331.out 0).trans rfl
                have hcz29_1 : w23.cell? ⟨gb331, 1, none⟩ = some (.int .i64 0) := (blk_cell BK331.out 1).trans rfl
                have hfz29_0 := blk_frozen BK331.out 0
                have hfz29_1 := blk_frozen BK331.out 1
                go_wp2
                refine bodyPost_ret (results_ct rfl _ _ gb331 76 #[.int .i64 0, .int .i64 0] (0, 0) _ rfl (by (with_reducible repeat (first | refine blk_drewN ?_ _ | refine blk_drew ?_ | refine blk_alloc ?_ _)); refine blk_put (cs := #[.int .i64 0, .int .i64 0]) ?_ 1 _ rfl; (with_reducible repeat (first | refine blk_drewN ?_ _ | refine blk_drew ?_ | refine blk_alloc ?_ _)); refine blk_put (cs := #[.int .i64 0, .int .i64 0]) ?_ 0 _ rfl; (with_reducible repeat (first | refine blk_drewN ?_ _ | refine blk_drew ?_ | refine blk_alloc ?_ _)); exact BK331.out) Tryz.underlying76 rfl (by kernel_rfl)) rfl ?_
                exact ⟨by first | rfl | (simp [errW_none, errW_some] <;> rfl) | (simp [*, errW_none, errW_some] <;> rfl), by repeat (first | (with_reducible first | exact HB.out | apply below_alloc | apply pw_below_drewN | apply below_drew1 | refine below_set ?_ GE331.out | refine below_set ?_ GE335.out) | exact HB.out)⟩
          · replace c15 := Bool.eq_false_iff.mpr c15
            subst c15
            have H1 : ((spec_l2Digits.f kj6 x4_6 0 10).bind fun bt337 => (if bt337.2 > 0 then (spec_ReadFraction.j2 kj6 a0 x4_6 x5_6 bt337.1 bt337.2 (bt337.2 == (x4_6.size : Int)) t332 t333) else (spec_ReadFraction.j2 kj6 a0 x4_6 x5_6 bt337.1 bt337.2 false t332 t333))) = some (r1, r2, r3) := by rw [if_neg (show ¬ (false = true) by decide)] at H; exact H
            clear H
            have H := H1
            clear H1
            replace H := Option.bind_eq_some_iff.mp H
            obtain ⟨⟨t337, t338⟩, A300, H⟩ := H
            replace H : (if t338 > 0 then (spec_ReadFraction.j2 kj6 a0 x4_6 x5_6 t337 t338 (t338 == (x4_6.size : Int)) t332 t333) else (spec_ReadFraction.j2 kj6 a0 x4_6 x5_6 t337 t338 false t332 t333)) = some (r1, r2, r3) := H
            have A30 := Aside0.mk A300
            clear A300
            have HC31 := Aside0.mk H
            clear H
            go_upto_region 9 with (first | ((with_reducible refine gate_callee (f := 104) rfl ?_); refine goesL_ (some 31) rfl rfl Tryz.func104 (by kernel_rfl) rfl #[.string x4_6, .int .i64 0, .int .i64 10] rfl (by (try simp only [List.map_toArray, List.map_cons, List.map_nil]); first | done | rfl | (simp only [List.length_drop, List.length_take]; rfl) | (simp only [Int.mul_one, Int.one_mul, Int.add_zero, Int.zero_add, pxw]; rfl)) ?_; (with_reducible refine (spec_l2Digits.calls kj6 x4_6 0 10 t337 t338 _ A30.out).mono ?_); rintro e w' ⟨rfl, ⟨nd, rfl⟩⟩; refine ⟨_, rfl, ?_⟩))
            (try simp only [Act.put, List.setIfInBounds_toArray, List.set_cons_zero, List.set_cons_succ])
            go_cut [41] (fun v41 wc => ∃ (kq : Nat) (x41_30 : Bool), v41 = .bool x41_30 ∧ Aside0 (spec_ReadFraction.j2 kq a0 x4_6 x5_6 t337 t338 x41_30 t332 t333 = some (r1, r2, r3)) ∧ Aside0 (kq ≤ kj6) ∧ Aside0 (wc.heap[gb331]? = some (.cells #[.int .i64 0, .int .i64 0] 76 (0, 0))) ∧ Aside0 (wc.heap[gb335]? = some (.cells #[.int .i64 t332, .int .i64 t333] 76 (0, 0))) ∧ Aside0 (Below w.heap.size w wc))
            case first =>
              have H := HC31.out
              clear HC31
              by_cases c32 : t338 > 0
              · rw [if_pos c32] at H
                have c32b0 : decide (0 < t338) = true := decide_eq_true c32
                clear c32
                (first | rw [c32b0] | (simp only [i64_w, i32_w]; rw [c32b0]) | skip)
                have H' := Aside0.mk H
                clear H
                go_wp2
                go_meet
                case rel => exact ⟨_, ((t338 == (x4_6.size : Int))), (by first | rfl | (simp; done) | (simp [*]; done)), H', ⟨by have := HJ1.out; have := HJ6.out; first | omega | exact Nat.le_refl _⟩, ⟨by (with_reducible repeat (first | refine blk_drewN ?_ _ | refine blk_drew ?_ | refine blk_alloc ?_ _)); refine blk_far ?_ NB331_335.out _; (with_reducible repeat (first | refine blk_drewN ?_ _ | refine blk_drew ?_ | refine blk_alloc ?_ _)); refine blk_far ?_ NB331_335.out _; (with_reducible repeat (first | refine blk_drewN ?_ _ | refine blk_drew ?_ | refine blk_alloc ?_ _)); exact BK331.out⟩, ⟨by (with_reducible repeat (first | refine blk_drewN ?_ _ | refine blk_drew ?_ | refine blk_alloc ?_ _)); refine blk_put (cs := #[.int .i64 t332, .int .i64 0]) ?_ 1 _ rfl; (with_reducible repeat (first | refine blk_drewN ?_ _ | refine blk_drew ?_ | refine blk_alloc ?_ _)); refine blk_put (cs := #[.int .i64 0, .int .i64 0]) ?_ 0 _ rfl; (with_reducible repeat (first | refine blk_drewN ?_ _ | refine blk_drew ?_ | refine blk_alloc ?_ _)); exact BK335.out⟩, ⟨by repeat (first | (with_reducible first | exact HB.out | apply below_alloc | apply pw_below_drewN | apply below_drew1 | refine below_set ?_ GE331.out | refine below_set ?_ GE335.out) | exact HB.out)⟩⟩
              · rw [if_neg c32] at H
                have c32b0 : decide (0 < t338) = false := decide_eq_false c32
                clear c32
                (first | rw [c32b0] | (simp only [i64_w, i32_w]; rw [c32b0]) | skip)
                have H' := Aside0.mk H
                clear H
                go_wp2
                go_meet
                case rel => exact ⟨_, (false), (by first | rfl | (simp; done) | (simp [*]; done)), H', ⟨by have := HJ1.out; have := HJ6.out; first | omega | exact Nat.le_refl _⟩, ⟨by (with_reducible repeat (first | refine blk_drewN ?_ _ | refine blk_drew ?_ | refine blk_alloc ?_ _)); refine blk_far ?_ NB331_335.out _; (with_reducible repeat (first | refine blk_drewN ?_ _ | refine blk_drew ?_ | refine blk_alloc ?_ _)); refine blk_far ?_ NB331_335.out _; (with_reducible repeat (first | refine blk_drewN ?_ _ | refine blk_drew ?_ | refine blk_alloc ?_ _)); exact BK331.out⟩, ⟨by (with_reducible repeat (first | refine blk_drewN ?_ _ | refine blk_drew ?_ | refine blk_alloc ?_ _)); refine blk_put (cs := #[.int .i64 t332, .int .i64 0]) ?_ 1 _ rfl; (with_reducible repeat (first | refine blk_drewN ?_ _ | refine blk_drew ?_ | refine blk_alloc ?_ _)); refine blk_put (cs := #[.int .i64 0, .int .i64 0]) ?_ 0 _ rfl; (with_reducible repeat (first | refine blk_drewN ?_ _ | refine blk_drew ?_ | refine blk_alloc ?_ _)); exact BK335.out⟩, ⟨by repeat (first | (with_reducible first | exact HB.out | apply below_alloc | apply pw_below_drewN | apply below_drew1 | refine below_set ?_ GE331.out | refine below_set ?_ GE335.out) | exact HB.out)⟩⟩
            case rest =>
              clear HC31
              try clear c1
              try clear c2
              try clear p2
              try clear c3
              try clear c4
              try clear c4b0
              try clear c4b1
              try clear c4b2
              try clear c5
              try clear c5b0
              try clear c5b1
              try clear c6
              try clear p6
              try clear q6
              try clear hx6
              try clear qi6
              try clear c8
              try clear c9
              try clear c9b0
              try clear c9b1
              try clear c10
              try clear c13
              try clear c15
              try clear c16
              try clear c16b0
              try clear c16b1
              try clear c16b2
              try clear c17
              try clear c21
              try clear c24
              try clear c24b0
              try clear c24b1
              try clear c25
              try clear c28
              try clear c32
              try clear c32b0
              try clear hcz14_0
              try clear hcz14_1
              try clear hcz18_0
              try clear hcz18_1
              try clear hcz19_0
              try clear hcz19_1
              try clear hcz22_0
              try clear hcz22_1
              try clear hcz26_0
              try clear hcz26_1
              try clear hcz27_0
              try clear hcz27_1
              try clear hcz29_0
              try clear hcz29_1
              try clear hfz14_0
              try clear hfz14_1
              try clear hfz18_0
              try clear hfz18_1
              try clear hfz19_0
              try clear hfz19_1
              try clear hfz22_0
              try clear hfz22_1
              try clear hfz26_0
              try clear hfz26_1
              try clear hfz27_0
              try clear hfz27_1
              try clear hfz29_0
              try clear hfz29_1
              try clear p2
              try clear p6
              try clear q6
              obtain ⟨kq, x41_30, rfl, HA, HJ30, BK331, BK335, HB⟩ := hcut
              cases kq with
              | zero => exact absurd HA.out (by simp [spec_ReadFraction.j2])
              | succ kj30 =>
                have H := HA.out
                clear HA
                simp only [spec_ReadFraction.j2] at H
                have HC33 := Aside0.mk H
                clear H
                go_upto_if 41 with (fail)
                go_cut [] (fun wc => ∃ (kq : Nat) (x336000_32 : Int) (x336001_32 : Int), Aside0 (spec_ReadFraction.j3 kq a0 x4_6 x5_6 t337 t338 x336000_32 x336001_32 = some (r1, r2, r3)) ∧ Aside0 (kq ≤ kj30) ∧ Aside0 (wc.heap[gb331]? = some (.cells #[.int .i64 0, .int .i64 0] 76 (0, 0))) ∧ Aside0 (wc.heap[gb335]? = some (.cells #[.int .i64 x336000_32, .int .i64 x336001_32] 76 (0, 0))) ∧ Aside0 (Below w.heap.size w wc))
                case first =>
                  have H := HC33.out
                  clear HC33
                  by_cases c34 : x41_30 = true
                  · subst c34
                    have H1 : (spec_ReadFraction.j3 kj30 a0 x4_6 x5_6 t337 t338 t337 1) = some (r1, r2, r3) := by rw [if_pos rfl] at H; exact H
                    clear H
                    have H := H1
                    clear H1
                    have H' := Aside0.mk H
                    clear H
                    have hnb35 := NB335_331.out
                    have hnc35 := NB331_335.out
                    have hcz36_0 : wc.cell? ⟨gb335, 0, none⟩ = some (.int .i64 t332) := (blk_cell BK335.out 0).trans rfl
                    have hcz36_1 : wc.cell? ⟨gb335, 1, none⟩ = some (.int .i64 t333) := (blk_cell BK335.out 1).trans rfl
                    have hfz36_0 := blk_frozen BK335.out 0
                    have hfz36_1 := blk_frozen BK335.out 1
                    go_wp2
                    go_meet
                    case rel => exact ⟨_, (t337), (1), H', ⟨by have := HJ1.out; have := HJ6.out; have := HJ30.out; first | omega | exact Nat.le_refl _⟩, ⟨by (with_reducible repeat (first | refine blk_drewN ?_ _ | refine blk_drew ?_ | refine blk_alloc ?_ _)); refine blk_far ?_ NB331_335.out _; (with_reducible repeat (first | refine blk_drewN ?_ _ | refine blk_drew ?_ | refine blk_alloc ?_ _)); refine blk_far ?_ NB331_335.out _; (with_reducible repeat (first | refine blk_drewN ?_ _ | refine blk_drew ?_ | refine blk_alloc ?_ _)); exact BK331.out⟩, ⟨by (with_reducible repeat (first | refine blk_drewN ?_ _ | refine blk_drew ?_ | refine blk_alloc ?_ _)); refine blk_put (cs := #[.int .i64 t337, .int .i64 t333]) ?_ 1 _ rfl; (with_reducible repeat (first | refine blk_drewN ?_ _ | refine blk_drew ?_ | refine blk_alloc ?_ _)); refine blk_put (cs := #[.int .i64 t332, .int .i64 t333]) ?_ 0 _ rfl; (with_reducible repeat (first | refine blk_drewN ?_ _ | refine blk_drew ?_ | refine blk_alloc ?_ _)); exact BK335.out⟩, ⟨by repeat (first | (with_reducible first | exact HB.out | apply below_alloc | apply pw_below_drewN | apply below_drew1 | refine below_set ?_ GE331.out | refine below_set ?_ GE335.out) | exact HB.out)⟩⟩
                  · replace c34 := Bool.eq_false_iff.mpr c34
                    subst c34
                    have H1 : (spec_ReadFraction.j3 kj30 a0 x4_6 x5_6 t337 t338 t332 t333) = some (r1, r2, r3) := by rw [if_neg (show ¬ (false = true) by decide)] at H; exact H
                    clear H
                    have H := H1
                    clear H1
                    have H' := Aside0.mk H
                    clear H
                    go_wp2
                    go_meet
                    case rel => exact ⟨_, (t332), (t333), H', ⟨by have := HJ1.out; have := HJ6.out; have := HJ30.out; first | omega | exact Nat.le_refl _⟩, ⟨by (with_reducible repeat (first | refine blk_drewN ?_ _ | refine blk_drew ?_ | refine blk_alloc ?_ _)); exact BK331.out⟩, ⟨by (with_reducible repeat (first | refine blk_drewN ?_ _ | refine blk_drew ?_ | refine blk_alloc ?_ _)); exact BK335.out⟩, ⟨by repeat (first | (with_reducible first | exact HB.out | apply below_alloc | apply pw_below_drewN | apply below_drew1 | refine below_set ?_ GE331.out | refine below_set ?_ GE335.out) | exact HB.out)⟩⟩
                case rest =>
                  clear HC33
                  try clear c1
                  try clear c2
                  try clear p2
                  try clear c3
                  try clear c4
                  try clear c4b0
                  try clear c4b1
                  try clear c4b2
                  try clear c5
                  try clear c5b0
                  try clear c5b1
                  try clear c6
                  try clear p6
                  try clear q6
                  try clear hx6
                  try clear qi6
                  try clear c8
                  try clear c9
                  try clear c9b0
                  try clear c9b1
                  try clear c10
                  try clear c13
                  try clear c15
                  try clear c16
                  try clear c16b0
                  try clear c16b1
                  try clear c16b2
                  try clear c17
                  try clear c21
                  try clear c24
                  try clear c24b0
                  try clear c24b1
                  try clear c25
                  try clear c28
                  try clear c32
                  try clear c32b0
                  try clear c34
                  try clear c35
                  try clear hcz14_0
                  try clear hcz14_1
                  try clear hcz18_0
                  try clear hcz18_1
                  try clear hcz19_0
                  try clear hcz19_1
                  try clear hcz22_0
                  try clear hcz22_1
                  try clear hcz26_0
                  try clear hcz26_1
                  try clear hcz27_0
                  try clear hcz27_1
                  try clear hcz29_0
                  try clear hcz29_1
                  try clear hcz36_0
                  try clear hcz36_1
                  try clear hfz14_0
                  try clear hfz14_1
                  try clear hfz18_0
                  try clear hfz18_1
                  try clear hfz19_0
                  try clear hfz19_1
                  try clear hfz22_0
                  try clear hfz22_1
                  try clear hfz26_0
                  try clear hfz26_1
                  try clear hfz27_0
                  try clear hfz27_1
                  try clear hfz29_0
                  try clear hfz29_1
                  try clear hfz36_0
                  try clear hfz36_1
                  try clear p2
                  try clear p6
                  try clear q6
                  obtain ⟨kq, x336000_32, x336001_32, HA, HJ32, BK331, BK335, HB⟩ := hcut
                  cases kq with
                  | zero => exact absurd HA.out (by simp [spec_ReadFraction.j3])
                  | succ kj32 =>
                    have H := HA.out
                    clear HA
                    simp only [spec_ReadFraction.j3] at H
                    have HC37 := Aside0.mk H
                    clear H
                    go_upto_region 11 with (fail)
                    go_cut [57] (fun v57 wc => ∃ (kq : Nat) (x57_36 : Bool), v57 = .bool x57_36 ∧ Aside0 (spec_ReadFraction.j4 kq a0 x4_6 x5_6 t337 t338 x57_36 x336000_32 x336001_32 = some (r1, r2, r3)) ∧ Aside0 (kq ≤ kj32) ∧ Aside0 (wc.heap[gb331]? = some (.cells #[.int .i64 0, .int .i64 0] 76 (0, 0))) ∧ Aside0 (wc.heap[gb335]? = some (.cells #[.int .i64 x336000_32, .int .i64 x336001_32] 76 (0, 0))) ∧ Aside0 (Below w.heap.size w wc))
                    case first =>
                      have H := HC37.out
                      clear HC37
                      by_cases c38 : t338 > 0
                      · rw [if_pos c38] at H
                        have c38b0 : decide (0 < t338) = true := decide_eq_true c38
                        clear c38
                        (first | rw [c38b0] | (simp only [i64_w, i32_w]; rw [c38b0]) | skip)
                        by_cases c39 : t338 < (x4_6.size : Int)
                        · rw [if_pos c39] at H
                          have c39b0 : decide (t338 < (x4_6.size : Int)) = true := decide_eq_true c39
                          clear c39
                          by_cases c40 : 0 ≤ t338
                          · rw [if_pos c40] at H
                            have c40b0 : decide (0 ≤ t338) = true := decide_eq_true c40
                            clear c40
                            have H' := Aside0.mk H
                            clear H
                            have p41 : 0 ≤ (t338 : Int) := of_decide_eq_true (by first | (with_reducible assumption) | assumption)
                            have q41 : t338 < (x4_6.size : Int) := of_decide_eq_true (by first | (with_reducible assumption) | assumption)
                            have hx41 := bt_at x4_6 t338
                            replace p41 := eq_true p41
                            replace q41 := eq_true q41
                            go_wp2
                            go_meet
                            case rel => exact ⟨_, (((bt x4_6 t338) == 47)), (by first | rfl | (simp; done) | (simp [*]; done)), H', ⟨by have := HJ1.out; have := HJ6.out; have := HJ30.out; have := HJ32.out; first | omega | exact Nat.le_refl _⟩, ⟨by (with_reducible repeat (first | refine blk_drewN ?_ _ | refine blk_drew ?_ | refine blk_alloc ?_ _)); exact BK331.out⟩, ⟨by (with_reducible repeat (first | refine blk_drewN ?_ _ | refine blk_drew ?_ | refine blk_alloc ?_ _)); exact BK335.out⟩, ⟨by repeat (first | (with_reducible first | exact HB.out | apply below_alloc | apply pw_below_drewN | apply below_drew1 | refine below_set ?_ GE331.out | refine below_set ?_ GE335.out) | exact HB.out)⟩⟩
                          · rw [if_neg c40] at H
                            exact absurd H (by simp)
                        · rw [if_neg c39] at H
                          have c39b0 : decide (t338 < (x4_6.size : Int)) = false := decide_eq_false c39
                          clear c39
                          have H' := Aside0.mk H
                          clear H
                          go_wp2
                          go_meet
                          case rel => exact ⟨_, (false), (by first | rfl | (simp; done) | (simp [*]; done)), H', ⟨by have := HJ1.out; have := HJ6.out; have := HJ30.out; have := HJ32.out; first | omega | exact Nat.le_refl _⟩, ⟨by (with_reducible repeat (first | refine blk_drewN ?_ _ | refine blk_drew ?_ | refine blk_alloc ?_ _)); exact BK331.out⟩, ⟨by (with_reducible repeat (first | refine blk_drewN ?_ _ | refine blk_drew ?_ | refine blk_alloc ?_ _)); exact BK335.out⟩, ⟨by repeat (first | (with_reducible first | exact HB.out | apply below_alloc | apply pw_below_drewN | apply below_drew1 | refine below_set ?_ GE331.out | refine below_set ?_ GE335.out) | exact HB.out)⟩⟩
                      · rw [if_neg c38] at H
                        have c38b0 : decide (0 < t338) = false := decide_eq_false c38
                        clear c38
                        (first | rw [c38b0] | (simp only [i64_w, i32_w]; rw [c38b0]) | skip)
                        have H' := Aside0.mk H
                        clear H
                        go_wp2
                        go_meet
                        case rel => exact ⟨_, (false), (by first | rfl | (simp; done) | (simp [*]; done)), H', ⟨by have := HJ1.out; have := HJ6.out; have := HJ30.out; have := HJ32.out; first | omega | exact Nat.le_refl _⟩, ⟨by (with_reducible repeat (first | refine blk_drewN ?_ _ | refine blk_drew ?_ | refine blk_alloc ?_ _)); exact BK331.out⟩, ⟨by (with_reducible repeat (first | refine blk_drewN ?_ _ | refine blk_drew ?_ | refine blk_alloc ?_ _)); exact BK335.out⟩, ⟨by repeat (first | (with_reducible first | exact HB.out | apply below_alloc | apply pw_below_drewN | apply below_drew1 | refine below_set ?_ GE331.out | refine below_set ?_ GE335.out) | exact HB.out)⟩⟩
                    case rest =>
                      clear HC37
                      try clear c1
                      try clear c2
                      try clear p2
                      try clear c3
                      try clear c4
                      try clear c4b0
                      try clear c4b1
                      try clear c4b2
                      try clear p4
                      try clear q4
                      try clear hx4
                      try clear c5
                      try clear c5b0
                      try clear c5b1
                      try clear c6
                      try clear p6
                      try clear q6
                      try clear hx6
                      try clear qi6
                      try clear c8
                      try clear c9
                      try clear c9b0
                      try clear c9b1
                      try clear c10
                      try clear c13
                      try clear c15
                      try clear c16
                      try clear c16b0
                      try clear c16b1
                      try clear c16b2
                      try clear c17
                      try clear c21
                      try clear c24
                      try clear c24b0
                      try clear c24b1
                      try clear c25
                      try clear c28
                      try clear c32
                      try clear c32b0
                      try clear c34
                      try clear c35
                      try clear c38
                      try clear c38b0
                      try clear c39
                      try clear c39b0
                      try clear c40
                      try clear c40b0
                      try clear p41
                      try clear q41
                      try clear hx41
                      try clear hcz14_0
                      try clear hcz14_1
                      try clear hcz18_0
                      try clear hcz18_1
                      try clear hcz19_0
                      try clear hcz19_1
                      try clear hcz22_0
                      try clear hcz22_1
                      try clear hcz26_0
                      try clear hcz26_1
                      try clear hcz27_0
                      try clear hcz27_1
                      try clear hcz29_0
                      try clear hcz29_1
                      try clear hcz36_0
                      try clear hcz36_1
                      try clear hfz14_0
                      try clear hfz14_1
                      try clear hfz18_0
                      try clear hfz18_1
                      try clear hfz19_0
                      try clear hfz19_1
                      try clear hfz22_0
                      try clear hfz22_1
                      try clear hfz26_0
                      try clear hfz26_1
                      try clear hfz27_0
                      try clear hfz27_1
                      try clear hfz29_0
                      try clear hfz29_1
                      try clear hfz36_0
                      try clear hfz36_1
                      try clear p2
                      try clear p41
                      try clear p6
                      try clear q41
                      try clear q6
                      obtain ⟨kq, x57_36, rfl, HA, HJ36, BK331, BK335, HB⟩ := hcut
                      cases kq with
                      | zero => exact absurd HA.out (by simp [spec_ReadFraction.j4])
                      | succ kj36 =>
                        have H := HA.out
                        clear HA
                        simp only [spec_ReadFraction.j4] at H
                        by_cases c42 : x57_36 = true
                        · subst c42
                          have H1 : ((spec_l2Digits.f kj36 x4_6 (wrap64 (t338 + 1)) 7).bind fun bt339 => (if bt339.2 = (x4_6.size : Int) then (spec_ReadFraction.j5 kj36 a0 x5_6 t337 bt339.1 (decide (bt339.1 > 0)) x336000_32 x336001_32) else (spec_ReadFraction.j5 kj36 a0 x5_6 t337 bt339.1 false x336000_32 x336001_32))) = some (r1, r2, r3) := by rw [if_pos rfl] at H; exact H
                          clear H
                          have H := H1
                          clear H1
                          replace H := Option.bind_eq_some_iff.mp H
                          obtain ⟨⟨t339, t340⟩, A430, H⟩ := H
                          replace H : (if t340 = (x4_6.size : Int) then (spec_ReadFraction.j5 kj36 a0 x5_6 t337 t339 (decide (t339 > 0)) x336000_32 x336001_32) else (spec_ReadFraction.j5 kj36 a0 x5_6 t337 t339 false x336000_32 x336001_32)) = some (r1, r2, r3) := H
                          have A43 := Aside0.mk A430
                          clear A430
                          have HC44 := Aside0.mk H
                          clear H
                          go_upto_region 13 with (first | ((with_reducible refine gate_callee (f := 104) rfl ?_); refine goesL_ (some 62) rfl rfl Tryz.func104 (by kernel_rfl) rfl #[.string x4_6, .int .i64 (wrap64 (t338 + 1)), .int .i64 7] rfl (by (try simp only [List.map_toArray, List.map_cons, List.map_nil]); first | done | rfl | (simp only [List.length_drop, List.length_take]; rfl) | (simp only [Int.mul_one, Int.one_mul, Int.add_zero, Int.zero_add, pxw]; rfl)) ?_; (with_reducible refine (spec_l2Digits.calls kj36 x4_6 (wrap64 (t338 + 1)) 7 t339 t340 _ A43.out).mono ?_); rintro e w' ⟨rfl, ⟨nd, rfl⟩⟩; refine ⟨_, rfl, ?_⟩))
                          (try simp only [Act.put, List.setIfInBounds_toArray, List.set_cons_zero, List.set_cons_succ])
                          go_cut [72] (fun v72 wc => ∃ (kq : Nat) (x72_43 : Bool), v72 = .bool x72_43 ∧ Aside0 (spec_ReadFraction.j5 kq a0 x5_6 t337 t339 x72_43 x336000_32 x336001_32 = some (r1, r2, r3)) ∧ Aside0 (kq ≤ kj36) ∧ Aside0 (wc.heap[gb331]? = some (.cells #[.int .i64 0, .int .i64 0] 76 (0, 0))) ∧ Aside0 (wc.heap[gb335]? = some (.cells #[.int .i64 x336000_32, .int .i64 x336001_32] 76 (0, 0))) ∧ Aside0 (Below w.heap.size w wc))
                          case first =>
                            have H := HC44.out
                            clear HC44
                            by_cases c45 : t340 = (x4_6.size : Int)
                            · rw [if_pos c45] at H
                              have c45b0 : (t340 == (x4_6.size : Int)) = true := beq_iff_eq.mpr c45
                              have c45b1 : (t340 != (x4_6.size : Int)) = false := bne_eq_false_iff_eq.mpr c45
                              clear c45
                              (first | rw [c45b0] | (simp only [i64_w, i32_w]; rw [c45b0]) | rw [c45b1] | skip)
                              have H' := Aside0.mk H
                              clear H
                              go_wp2
                              go_meet
                              case rel => exact ⟨_, (decide (t339 > 0)), (by first | rfl | (simp; done) | (simp [*]; done)), H', ⟨by have := HJ1.out; have := HJ6.out; have := HJ30.out; have := HJ32.out; have := HJ36.out; first | omega | exact Nat.le_refl _⟩, ⟨by (with_reducible repeat (first | refine blk_drewN ?_ _ | refine blk_drew ?_ | refine blk_alloc ?_ _)); exact BK331.out⟩, ⟨by (with_reducible repeat (first | refine blk_drewN ?_ _ | refine blk_drew ?_ | refine blk_alloc ?_ _)); exact BK335.out⟩, ⟨by repeat (first | (with_reducible first | exact HB.out | apply below_alloc | apply pw_below_drewN | apply below_drew1 | refine below_set ?_ GE331.out | refine below_set ?_ GE335.out) | exact HB.out)⟩⟩
                            · rw [if_neg c45] at H
                              have c45b0 : (t340 == (x4_6.size : Int)) = false := beq_eq_false_iff_ne.mpr c45
                              have c45b1 : (t340 != (x4_6.size : Int)) = true := bne_iff_ne.mpr c45
                              (first | rw [c45b0] | (simp only [i64_w, i32_w]; rw [c45b0]) | rw [c45b1] | skip)
                              have H' := Aside0.mk H
                              clear H
                              go_wp2
                              go_meet
                              case rel => exact ⟨_, (false), (by first | rfl | (simp; done) | (simp [*]; done)), H', ⟨by have := HJ1.out; have := HJ6.out; have := HJ30.out; have := HJ32.out; have := HJ36.out; first | omega | exact Nat.le_refl _⟩, ⟨by (with_reducible repeat (first | refine blk_drewN ?_ _ | refine blk_drew ?_ | refine blk_alloc ?_ _)); exact BK331.out⟩, ⟨by (with_reducible repeat (first | refine blk_drewN ?_ _ | refine blk_drew ?_ | refine blk_alloc ?_ _)); exact BK335.out⟩, ⟨by repeat (first | (with_reducible first | exact HB.out | apply below_alloc | apply pw_below_drewN | apply below_drew1 | refine below_set ?_ GE331.out | refine below_set ?_ GE335.out) | exact HB.out)⟩⟩
                          case rest =>
                            clear HC44
                            try clear c1
                            try clear c2
                            try clear p2
                            try clear c3
                            try clear c4
                            try clear c4b0
                            try clear c4b1
                            try clear c4b2
                            try clear p4
                            try clear q4
                            try clear hx4
                            try clear c5
                            try clear c5b0
                            try clear c5b1
                            try clear c6
                            try clear p6
                            try clear q6
                            try clear hx6
                            try clear qi6
                            try clear c8
                            try clear c9
                            try clear c9b0
                            try clear c9b1
                            try clear c10
                            try clear c13
                            try clear c15
                            try clear c16
                            try clear c16b0
                            try clear c16b1
                            try clear c16b2
                            try clear c17
                            try clear c21
                            try clear c24
                            try clear c24b0
                            try clear c24b1
                            try clear c25
                            try clear c28
                            try clear c32
                            try clear c32b0
                            try clear c34
                            try clear c35
                            try clear c38
                            try clear c38b0
                            try clear c39
                            try clear c39b0
                            try clear c40
                            try clear c40b0
                            try clear p41
                            try clear q41
                            try clear hx41
                            try clear c42
                            try clear c45
                            try clear c45b0
                            try clear c45b1
                            try clear hcz14_0
                            try clear hcz14_1
                            try clear hcz18_0
                            try clear hcz18_1
                            try clear hcz19_0
                            try clear hcz19_1
                            try clear hcz22_0
                            try clear hcz22_1
                            try clear hcz26_0
                            try clear hcz26_1
                            try clear hcz27_0
                            try clear hcz27_1
                            try clear hcz29_0
                            try clear hcz29_1
                            try clear hcz36_0
                            try clear hcz36_1
                            try clear hfz14_0
                            try clear hfz14_1
                            try clear hfz18_0
                            try clear hfz18_1
                            try clear hfz19_0
                            try clear hfz19_1
                            try clear hfz22_0
                            try clear hfz22_1
                            try clear hfz26_0
                            try clear hfz26_1
                            try clear hfz27_0
                            try clear hfz27_1
                            try clear hfz29_0
                            try clear hfz29_1
                            try clear hfz36_0
                            try clear hfz36_1
                            try clear p2
                            try clear p4
                            try clear p41
                            try clear p6
                            try clear q4
                            try clear q41
                            try clear q6
                            obtain ⟨kq, x72_43, rfl, HA, HJ43, BK331, BK335, HB⟩ := hcut
                            cases kq with
                            | zero => exact absurd HA.out (by simp [spec_ReadFraction.j5])
                            | succ kj43 =>
                              have H := HA.out
                              clear HA
                              simp only [spec_ReadFraction.j5] at H
                              by_cases c46 : x72_43 = true
                              · subst c46
                                have H1 : (if a0.toList = ([] : List UInt8) then (some (0, 0, false)) else ((spec_FractionText.f kj43 (wrap64 (x5_6 * t337)) t339).bind fun t341 => (if t341.toList = a0.toList then (some (wrap64 (x5_6 * t337), t339, true)) else (some (0, 0, false))))) = some (r1, r2, r3) := by rw [if_pos rfl] at H; exact H
                                clear H
                                have H := H1
                                clear H1
                                by_cases c47 : a0.toList = ([] : List UInt8)
                                · rw [if_pos c47] at H
                                  have c47b0 : (a0.toList == ([] : List UInt8)) = true := beq_iff_eq.mpr c47
                                  have c47b1 : (a0.toList != ([] : List UInt8)) = false := bne_eq_false_iff_eq.mpr c47
                                  (try (have c47b2 : a0.toList.isEmpty = true := by simpa using c47))
                                  clear c47
                                  simp only [Option.some.injEq, Prod.mk.injEq] at H
                                  obtain ⟨rfl, rfl, rfl⟩ := H
                                  have hnb48 := NB335_331.out
                                  have hnc48 := NB331_335.out
                                  have hcz49_0 : wc.cell? ⟨gb335, 0, none⟩ = some (.int .i64 x336000_32) := (blk_cell BK335.out 0).trans rfl
                                  have hcz49_1 : wc.cell? ⟨gb335, 1, none⟩ = some (.int .i64 x336001_32) := (blk_cell BK335.out 1).trans rfl
                                  have hfz49_0 := blk_frozen BK335.out 0
                                  have hfz49_1 := blk_frozen BK335.out 1
                                  have hcz50_0 : wc.cell? ⟨gb331, 0, none⟩ = some (.int .i64 0) := (blk_cell BK331.out 0).trans rfl
                                  have hcz50_1 : wc.cell? ⟨gb331, 1, none⟩ = some (.int .i64 0) := (blk_cell BK331.out 1).trans rfl
                                  have hfz50_0 := blk_frozen BK331.out 0
                                  have hfz50_1 := blk_frozen BK331.out 1
                                  go_wp2
                                  refine bodyPost_ret (results_ct rfl _ _ gb331 76 #[.int .i64 0, .int .i64 0] (0, 0) _ rfl (by (with_reducible repeat (first | refine blk_drewN ?_ _ | refine blk_drew ?_ | refine blk_alloc ?_ _)); refine blk_put (cs := #[.int .i64 0, .int .i64 0]) ?_ 1 _ rfl; (with_reducible repeat (first | refine blk_drewN ?_ _ | refine blk_drew ?_ | refine blk_alloc ?_ _)); refine blk_put (cs := #[.int .i64 0, .int .i64 0]) ?_ 0 _ rfl; (with_reducible repeat (first | refine blk_drewN ?_ _ | refine blk_drew ?_ | refine blk_alloc ?_ _)); refine blk_far ?_ NB331_335.out _; (with_reducible repeat (first | refine blk_drewN ?_ _ | refine blk_drew ?_ | refine blk_alloc ?_ _)); refine blk_far ?_ NB331_335.out _; (with_reducible repeat (first | refine blk_drewN ?_ _ | refine blk_drew ?_ | refine blk_alloc ?_ _)); refine blk_far ?_ NB331_335.out _; (with_reducible repeat (first | refine blk_drewN ?_ _ | refine blk_drew ?_ | refine blk_alloc ?_ _)); exact BK331.out) Tryz.underlying76 rfl (by kernel_rfl)) rfl ?_
                                  exact ⟨by first | rfl | (simp [errW_none, errW_some] <;> rfl) | (simp [*, errW_none, errW_some] <;> rfl), by repeat (first | (with_reducible first | exact HB.out | apply below_alloc | apply pw_below_drewN | apply below_drew1 | refine below_set ?_ GE331.out | refine below_set ?_ GE335.out) | exact HB.out)⟩
                                · rw [if_neg c47] at H
                                  have c47b0 : (a0.toList == ([] : List UInt8)) = false := beq_eq_false_iff_ne.mpr c47
                                  have c47b1 : (a0.toList != ([] : List UInt8)) = true := bne_iff_ne.mpr c47
                                  (try (have c47b2 : a0.toList.isEmpty = false := by simpa using c47))
                                  replace H := Option.bind_eq_some_iff.mp H
                                  obtain ⟨t341, A510, H⟩ := H
                                  replace H : (if t341.toList = a0.toList then (some (wrap64 (x5_6 * t337), t339, true)) else (some (0, 0, false))) = some (r1, r2, r3) := H
                                  have A51 := Aside0.mk A510
                                  clear A510
                                  have HU_ := Aside0.mk H
                                  clear H
                                  have hnb52 := NB335_331.out
                                  have hnc52 := NB331_335.out
                                  have hcz53_0 : wc.cell? ⟨gb335, 0, none⟩ = some (.int .i64 x336000_32) := (blk_cell BK335.out 0).trans rfl
                                  have hcz53_1 : wc.cell? ⟨gb335, 1, none⟩ = some (.int .i64 x336001_32) := (blk_cell BK335.out 1).trans rfl
                                  have hfz53_0 := blk_frozen BK335.out 0
                                  have hfz53_1 := blk_frozen BK335.out 1
                                  go_upto_if 88 with (first | (go_at_call 99; (with_reducible refine (spec_FractionText.calls kj43 (wrap64 (x5_6 * t337)) t339 t341 _ A51.out).mono ?_); rintro e w54 ⟨rfl, hb⟩; have n0_ := Aside0.mk (blk_below (g := gb331) (o := .cells #[.int .i64 0, .int .i64 0] 76 (0, 0)) (by (with_reducible repeat (first | refine blk_drewN ?_ _ | refine blk_drew ?_ | refine blk_alloc ?_ _)); refine blk_far ?_ NB331_335.out _; (with_reducible repeat (first | refine blk_drewN ?_ _ | refine blk_drew ?_ | refine blk_alloc ?_ _)); refine blk_far ?_ NB331_335.out _; (with_reducible repeat (first | refine blk_drewN ?_ _ | refine blk_drew ?_ | refine blk_alloc ?_ _)); refine blk_far ?_ NB331_335.out _; (with_reducible repeat (first | refine blk_drewN ?_ _ | refine blk_drew ?_ | refine blk_alloc ?_ _)); exact BK331.out) hb); have n1_ := Aside0.mk (blk_below (g := gb335) (o := .cells #[.int .i64 (wrap64 (x5_6 * t337)), .int .i64 t339] 76 (0, 0)) (by (with_reducible repeat (first | refine blk_drewN ?_ _ | refine blk_drew ?_ | refine blk_alloc ?_ _)); refine blk_put (cs := #[.int .i64 t337, .int .i64 t339]) ?_ 0 _ rfl; (with_reducible repeat (first | refine blk_drewN ?_ _ | refine blk_drew ?_ | refine blk_alloc ?_ _)); refine blk_put (cs := #[.int .i64 t337, .int .i64 x336001_32]) ?_ 1 _ rfl; (with_reducible repeat (first | refine blk_drewN ?_ _ | refine blk_drew ?_ | refine blk_alloc ?_ _)); refine blk_put (cs := #[.int .i64 x336000_32, .int .i64 x336001_32]) ?_ 0 _ rfl; (with_reducible repeat (first | refine blk_drewN ?_ _ | refine blk_drew ?_ | refine blk_alloc ?_ _)); exact BK335.out) hb); have n2_ := Aside0.mk (below_step (by repeat (first | (with_reducible first | exact HB.out | apply below_alloc | apply pw_below_drewN | apply below_drew1 | refine below_set ?_ GE331.out | refine below_set ?_ GE335.out) | exact HB.out)) hb); clear BK331; clear BK335; clear HB; have BK331 := n0_; have BK335 := n1_; have HB := n2_; clear n0_ n1_ n2_; (try clear hb); (try clear hb2); (try clear hk); (try clear hi)))
                                  (try simp only [Act.put, List.setIfInBounds_toArray, List.set_cons_zero, List.set_cons_succ])
                                  have H := HU_.out
                                  clear HU_
                                  by_cases c55 : t341.toList = a0.toList
                                  · rw [if_pos c55] at H
                                    have c55b0 : (t341.toList == a0.toList) = true := beq_iff_eq.mpr c55
                                    have c55b1 : (t341.toList != a0.toList) = false := bne_eq_false_iff_eq.mpr c55
                                    clear c55
                                    (first | rw [c55b0] | (simp only [i64_w, i32_w]; rw [c55b0]) | rw [c55b1] | skip)
                                    simp only [Option.some.injEq, Prod.mk.injEq] at H
                                    obtain ⟨rfl, rfl, rfl⟩ := H
                                    have hnb56 := NB335_331.out
                                    have hnc56 := NB331_335.out
                                    have hcz57_0 : w54.cell? ⟨gb335, 0, none⟩ = some (.int .i64 (wrap64 (x5_6 * t337))) := (blk_cell BK335.out 0).trans rfl
                                    have hcz57_1 : w54.cell? ⟨gb335, 1, none⟩ = some (.int .i64 t339) := (blk_cell BK335.out 1).trans rfl
                                    have hfz57_0 := blk_frozen BK335.out 0
                                    have hfz57_1 := blk_frozen BK335.out 1
                                    have hcz58_0 : w54.cell? ⟨gb331, 0, none⟩ = some (.int .i64 0) := (blk_cell BK331.out 0).trans rfl
                                    have hcz58_1 : w54.cell? ⟨gb331, 1, none⟩ = some (.int .i64 0) := (blk_cell BK331.out 1).trans rfl
                                    have hfz58_0 := blk_frozen BK331.out 0
                                    have hfz58_1 := blk_frozen BK331.out 1
                                    go_wp2
                                    refine bodyPost_ret (results_ct rfl _ _ gb331 76 #[.int .i64 (wrap64 (x5_6 * t337)), .int .i64 t339] (0, 0) _ rfl (by (with_reducible repeat (first | refine blk_drewN ?_ _ | refine blk_drew ?_ | refine blk_alloc ?_ _)); refine blk_put (cs := #[.int .i64 (wrap64 (x5_6 * t337)), .int .i64 0]) ?_ 1 _ rfl; (with_reducible repeat (first | refine blk_drewN ?_ _ | refine blk_drew ?_ | refine blk_alloc ?_ _)); refine blk_put (cs := #[.int .i64 0, .int .i64 0]) ?_ 0 _ rfl; (with_reducible repeat (first | refine blk_drewN ?_ _ | refine blk_drew ?_ | refine blk_alloc ?_ _)); exact BK331.out) Tryz.underlying76 rfl (by kernel_rfl)) rfl ?_
                                    exact ⟨by first | rfl | (simp [errW_none, errW_some] <;> rfl) | (simp [*, errW_none, errW_some] <;> rfl), by repeat (first | (with_reducible first | exact HB.out | apply below_alloc | apply pw_below_drewN | apply below_drew1 | refine below_set ?_ GE331.out | refine below_set ?_ GE335.out) | exact HB.out)⟩
                                  · rw [if_neg c55] at H
                                    have c55b0 : (t341.toList == a0.toList) = false := beq_eq_false_iff_ne.mpr c55
                                    have c55b1 : (t341.toList != a0.toList) = true := bne_iff_ne.mpr c55
                                    (first | rw [c55b0] | (simp only [i64_w, i32_w]; rw [c55b0]) | rw [c55b1] | skip)
                                    simp only [Option.some.injEq, Prod.mk.injEq] at H
                                    obtain ⟨rfl, rfl, rfl⟩ := H
                                    have hnb59 := NB331_335.out
                                    have hnc59 := NB335_331.out
                                    have hcz60_0 : w54.cell? ⟨gb331, 0, none⟩ = some (.int .i64 0) := (blk_cell BK331.out 0).trans rfl
                                    have hcz60_1 : w54.cell? ⟨gb331, 1, none⟩ = some (.int .i64 0) := (blk_cell BK331.out 1).trans rfl
                                    have hfz60_0 := blk_frozen BK331.out 0
                                    have hfz60_1 := blk_frozen BK331.out 1
                                    go_wp2
                                    refine bodyPost_ret (results_ct rfl _ _ gb331 76 #[.int .i64 0, .int .i64 0] (0, 0) _ rfl (by (with_reducible repeat (first | refine blk_drewN ?_ _ | refine blk_drew ?_ | refine blk_alloc ?_ _)); refine blk_put (cs := #[.int .i64 0, .int .i64 0]) ?_ 1 _ rfl; (with_reducible repeat (first | refine blk_drewN ?_ _ | refine blk_drew ?_ | refine blk_alloc ?_ _)); refine blk_put (cs := #[.int .i64 0, .int .i64 0]) ?_ 0 _ rfl; (with_reducible repeat (first | refine blk_drewN ?_ _ | refine blk_drew ?_ | refine blk_alloc ?_ _)); exact BK331.out) Tryz.underlying76 rfl (by kernel_rfl)) rfl ?_
                                    exact ⟨by first | rfl | (simp [errW_none, errW_some] <;> rfl) | (simp [*, errW_none, errW_some] <;> rfl), by repeat (first | (with_reducible first | exact HB.out | apply below_alloc | apply pw_below_drewN | apply below_drew1 | refine below_set ?_ GE331.out | refine below_set ?_ GE335.out) | exact HB.out)⟩
                              · replace c46 := Bool.eq_false_iff.mpr c46
                                subst c46
                                have H1 : (if a0.toList = ([] : List UInt8) then (some (0, 0, false)) else ((spec_FractionText.f kj43 (wrap64 (x5_6 * x336000_32)) x336001_32).bind fun t342 => (if t342.toList = a0.toList then (some (wrap64 (x5_6 * x336000_32), x336001_32, true)) else (some (0, 0, false))))) = some (r1, r2, r3) := by rw [if_neg (show ¬ (false = true) by decide)] at H; exact H
                                clear H
                                have H := H1
                                clear H1
                                by_cases c61 : a0.toList = ([] : List UInt8)
                                · rw [if_pos c61] at H
                                  have c61b0 : (a0.toList == ([] : List UInt8)) = true := beq_iff_eq.mpr c61
                                  have c61b1 : (a0.toList != ([] : List UInt8)) = false := bne_eq_false_iff_eq.mpr c61
                                  (try (have c61b2 : a0.toList.isEmpty = true := by simpa using c61))
                                  clear c61
                                  simp only [Option.some.injEq, Prod.mk.injEq] at H
                                  obtain ⟨rfl, rfl, rfl⟩ := H
                                  have hnb62 := NB335_331.out
                                  have hnc62 := NB331_335.out
                                  have hcz63_0 : wc.cell? ⟨gb335, 0, none⟩ = some (.int .i64 x336000_32) := (blk_cell BK335.out 0).trans rfl
                                  have hcz63_1 : wc.cell? ⟨gb335, 1, none⟩ = some (.int .i64 x336001_32) := (blk_cell BK335.out 1).trans rfl
                                  have hfz63_0 := blk_frozen BK335.out 0
                                  have hfz63_1 := blk_frozen BK335.out 1
                                  have hcz64_0 : wc.cell? ⟨gb331, 0, none⟩ = some (.int .i64 0) := (blk_cell BK331.out 0).trans rfl
                                  have hcz64_1 : wc.cell? ⟨gb331, 1, none⟩ = some (.int .i64 0) := (blk_cell BK331.out 1).trans rfl
                                  have hfz64_0 := blk_frozen BK331.out 0
                                  have hfz64_1 := blk_frozen BK331.out 1
                                  go_wp2
                                  refine bodyPost_ret (results_ct rfl _ _ gb331 76 #[.int .i64 0, .int .i64 0] (0, 0) _ rfl (by (with_reducible repeat (first | refine blk_drewN ?_ _ | refine blk_drew ?_ | refine blk_alloc ?_ _)); refine blk_put (cs := #[.int .i64 0, .int .i64 0]) ?_ 1 _ rfl; (with_reducible repeat (first | refine blk_drewN ?_ _ | refine blk_drew ?_ | refine blk_alloc ?_ _)); refine blk_put (cs := #[.int .i64 0, .int .i64 0]) ?_ 0 _ rfl; (with_reducible repeat (first | refine blk_drewN ?_ _ | refine blk_drew ?_ | refine blk_alloc ?_ _)); refine blk_far ?_ NB331_335.out _; (with_reducible repeat (first | refine blk_drewN ?_ _ | refine blk_drew ?_ | refine blk_alloc ?_ _)); exact BK331.out) Tryz.underlying76 rfl (by kernel_rfl)) rfl ?_
                                  exact ⟨by first | rfl | (simp [errW_none, errW_some] <;> rfl) | (simp [*, errW_none, errW_some] <;> rfl), by repeat (first | (with_reducible first | exact HB.out | apply below_alloc | apply pw_below_drewN | apply below_drew1 | refine below_set ?_ GE331.out | refine below_set ?_ GE335.out) | exact HB.out)⟩
                                · rw [if_neg c61] at H
                                  have c61b0 : (a0.toList == ([] : List UInt8)) = false := beq_eq_false_iff_ne.mpr c61
                                  have c61b1 : (a0.toList != ([] : List UInt8)) = true := bne_iff_ne.mpr c61
                                  (try (have c61b2 : a0.toList.isEmpty = false := by simpa using c61))
                                  replace H := Option.bind_eq_some_iff.mp H
                                  obtain ⟨t342, A650, H⟩ := H
                                  replace H : (if t342.toList = a0.toList then (some (wrap64 (x5_6 * x336000_32), x336001_32, true)) else (some (0, 0, false))) = some (r1, r2, r3) := H
                                  have A65 := Aside0.mk A650
                                  clear A650
                                  have HU_ := Aside0.mk H
                                  clear H
                                  have hnb66 := NB335_331.out
                                  have hnc66 := NB331_335.out
                                  have hcz67_0 : wc.cell? ⟨gb335, 0, none⟩ = some (.int .i64 x336000_32) := (blk_cell BK335.out 0).trans rfl
                                  have hcz67_1 : wc.cell? ⟨gb335, 1, none⟩ = some (.int .i64 x336001_32) := (blk_cell BK335.out 1).trans rfl
                                  have hfz67_0 := blk_frozen BK335.out 0
                                  have hfz67_1 := blk_frozen BK335.out 1
                                  go_upto_if 88 with (first | (go_at_call 99; (with_reducible refine (spec_FractionText.calls kj43 (wrap64 (x5_6 * x336000_32)) x336001_32 t342 _ A65.out).mono ?_); rintro e w68 ⟨rfl, hb⟩; have n0_ := Aside0.mk (blk_below (g := gb331) (o := .cells #[.int .i64 0, .int .i64 0] 76 (0, 0)) (by (with_reducible repeat (first | refine blk_drewN ?_ _ | refine blk_drew ?_ | refine blk_alloc ?_ _)); refine blk_far ?_ NB331_335.out _; (with_reducible repeat (first | refine blk_drewN ?_ _ | refine blk_drew ?_ | refine blk_alloc ?_ _)); exact BK331.out) hb); have n1_ := Aside0.mk (blk_below (g := gb335) (o := .cells #[.int .i64 (wrap64 (x5_6 * x336000_32)), .int .i64 x336001_32] 76 (0, 0)) (by (with_reducible repeat (first | refine blk_drewN ?_ _ | refine blk_drew ?_ | refine blk_alloc ?_ _)); refine blk_put (cs := #[.int .i64 x336000_32, .int .i64 x336001_32]) ?_ 0 _ rfl; (with_reducible repeat (first | refine blk_drewN ?_ _ | refine blk_drew ?_ | refine blk_alloc ?_ _)); exact BK335.out) hb); have n2_ := Aside0.mk (below_step (by repeat (first | (with_reducible first | exact HB.out | apply below_alloc | apply pw_below_drewN | apply below_drew1 | refine below_set ?_ GE331.out | refine below_set ?_ GE335.out) | exact HB.out)) hb); clear BK331; clear BK335; clear HB; have BK331 := n0_; have BK335 := n1_; have HB := n2_; clear n0_ n1_ n2_; (try clear hb); (try clear hb2); (try clear hk); (try clear hi)))
                                  (try simp only [Act.put, List.setIfInBounds_toArray, List.set_cons_zero, List.set_cons_succ])
                                  have H := HU_.out
                                  clear HU_
                                  by_cases c69 : t342.toList = a0.toList
                                  · rw [if_pos c69] at H
                                    have c69b0 : (t342.toList == a0.toList) = true := beq_iff_eq.mpr c69
                                    have c69b1 : (t342.toList != a0.toList) = false := bne_eq_false_iff_eq.mpr c69
                                    clear c69
                                    (first | rw [c69b0] | (simp only [i64_w, i32_w]; rw [c69b0]) | rw [c69b1] | skip)
                                    simp only [Option.some.injEq, Prod.mk.injEq] at H
                                    obtain ⟨rfl, rfl, rfl⟩ := H
                                    have hnb70 := NB335_331.out
                                    have hnc70 := NB331_335.out
                                    have hcz71_0 : w68.cell? ⟨gb335, 0, none⟩ = some (.int .i64 (wrap64 (x5_6 * x336000_32))) := (blk_cell BK335.out 0).trans rfl
                                    have hcz71_1 : w68.cell? ⟨gb335, 1, none⟩ = some (.int .i64 x336001_32) := (blk_cell BK335.out 1).trans rfl
                                    have hfz71_0 := blk_frozen BK335.out 0
                                    have hfz71_1 := blk_frozen BK335.out 1
                                    have hcz72_0 : w68.cell? ⟨gb331, 0, none⟩ = some (.int .i64 0) := (blk_cell BK331.out 0).trans rfl
                                    have hcz72_1 : w68.cell? ⟨gb331, 1, none⟩ = some (.int .i64 0) := (blk_cell BK331.out 1).trans rfl
                                    have hfz72_0 := blk_frozen BK331.out 0
                                    have hfz72_1 := blk_frozen BK331.out 1
                                    go_wp2
                                    refine bodyPost_ret (results_ct rfl _ _ gb331 76 #[.int .i64 (wrap64 (x5_6 * x336000_32)), .int .i64 x336001_32] (0, 0) _ rfl (by (with_reducible repeat (first | refine blk_drewN ?_ _ | refine blk_drew ?_ | refine blk_alloc ?_ _)); refine blk_put (cs := #[.int .i64 (wrap64 (x5_6 * x336000_32)), .int .i64 0]) ?_ 1 _ rfl; (with_reducible repeat (first | refine blk_drewN ?_ _ | refine blk_drew ?_ | refine blk_alloc ?_ _)); refine blk_put (cs := #[.int .i64 0, .int .i64 0]) ?_ 0 _ rfl; (with_reducible repeat (first | refine blk_drewN ?_ _ | refine blk_drew ?_ | refine blk_alloc ?_ _)); exact BK331.out) Tryz.underlying76 rfl (by kernel_rfl)) rfl ?_
                                    exact ⟨by first | rfl | (simp [errW_none, errW_some] <;> rfl) | (simp [*, errW_none, errW_some] <;> rfl), by repeat (first | (with_reducible first | exact HB.out | apply below_alloc | apply pw_below_drewN | apply below_drew1 | refine below_set ?_ GE331.out | refine below_set ?_ GE335.out) | exact HB.out)⟩
                                  · rw [if_neg c69] at H
                                    have c69b0 : (t342.toList == a0.toList) = false := beq_eq_false_iff_ne.mpr c69
                                    have c69b1 : (t342.toList != a0.toList) = true := bne_iff_ne.mpr c69
                                    (first | rw [c69b0] | (simp only [i64_w, i32_w]; rw [c69b0]) | rw [c69b1] | skip)
                                    simp only [Option.some.injEq, Prod.mk.injEq] at H
                                    obtain ⟨rfl, rfl, rfl⟩ := H
                                    have hnb73 := NB331_335.out
                                    have hnc73 := NB335_331.out
                                    have hcz74_0 : w68.cell? ⟨gb331, 0, none⟩ = some (.int .i64 0) := (blk_cell BK331.out 0).trans rfl
                                    have hcz74_1 : w68.cell? ⟨gb331, 1, none⟩ = some (.int .i64 0) := (blk_cell BK331.out 1).trans rfl
                                    have hfz74_0 := blk_frozen BK331.out 0
                                    have hfz74_1 := blk_frozen BK331.out 1
                                    go_wp2
                                    refine bodyPost_ret (results_ct rfl _ _ gb331 76 #[.int .i64 0, .int .i64 0] (0, 0) _ rfl (by (with_reducible repeat (first | refine blk_drewN ?_ _ | refine blk_drew ?_ | refine blk_alloc ?_ _)); refine blk_put (cs := #[.int .i64 0, .int .i64 0]) ?_ 1 _ rfl; (with_reducible repeat (first | refine blk_drewN ?_ _ | refine blk_drew ?_ | refine blk_alloc ?_ _)); refine blk_put (cs := #[.int .i64 0, .int .i64 0]) ?_ 0 _ rfl; (with_reducible repeat (first | refine blk_drewN ?_ _ | refine blk_drew ?_ | refine blk_alloc ?_ _)); exact BK331.out) Tryz.underlying76 rfl (by kernel_rfl)) rfl ?_
                                    exact ⟨by first | rfl | (simp [errW_none, errW_some] <;> rfl) | (simp [*, errW_none, errW_some] <;> rfl), by repeat (first | (with_reducible first | exact HB.out | apply below_alloc | apply pw_below_drewN | apply below_drew1 | refine below_set ?_ GE331.out | refine below_set ?_ GE335.out) | exact HB.out)⟩
                        · replace c42 := Bool.eq_false_iff.mpr c42
                          subst c42
                          have H1 : (if a0.toList = ([] : List UInt8) then (some (0, 0, false)) else ((spec_FractionText.f kj36 (wrap64 (x5_6 * x336000_32)) x336001_32).bind fun t343 => (if t343.toList = a0.toList then (some (wrap64 (x5_6 * x336000_32), x336001_32, true)) else (some (0, 0, false))))) = some (r1, r2, r3) := by rw [if_neg (show ¬ (false = true) by decide)] at H; exact H
                          clear H
                          have H := H1
                          clear H1
                          by_cases c75 : a0.toList = ([] : List UInt8)
                          · rw [if_pos c75] at H
                            have c75b0 : (a0.toList == ([] : List UInt8)) = true := beq_iff_eq.mpr c75
                            have c75b1 : (a0.toList != ([] : List UInt8)) = false := bne_eq_false_iff_eq.mpr c75
                            (try (have c75b2 : a0.toList.isEmpty = true := by simpa using c75))
                            clear c75
                            simp only [Option.some.injEq, Prod.mk.injEq] at H
                            obtain ⟨rfl, rfl, rfl⟩ := H
                            have hnb76 := NB335_331.out
                            have hnc76 := NB331_335.out
                            have hcz77_0 : wc.cell? ⟨gb335, 0, none⟩ = some (.int .i64 x336000_32) := (blk_cell BK335.out 0).trans rfl
                            have hcz77_1 : wc.cell? ⟨gb335, 1, none⟩ = some (.int .i64 x336001_32) := (blk_cell BK335.out 1).trans rfl
                            have hfz77_0 := blk_frozen BK335.out 0
                            have hfz77_1 := blk_frozen BK335.out 1
                            have hcz78_0 : wc.cell? ⟨gb331, 0, none⟩ = some (.int .i64 0) := (blk_cell BK331.out 0).trans rfl
                            have hcz78_1 : wc.cell? ⟨gb331, 1, none⟩ = some (.int .i64 0) := (blk_cell BK331.out 1).trans rfl
                            have hfz78_0 := blk_frozen BK331.out 0
                            have hfz78_1 := blk_frozen BK331.out 1
                            go_wp2
                            refine bodyPost_ret (results_ct rfl _ _ gb331 76 #[.int .i64 0, .int .i64 0] (0, 0) _ rfl (by (with_reducible repeat (first | refine blk_drewN ?_ _ | refine blk_drew ?_ | refine blk_alloc ?_ _)); refine blk_put (cs := #[.int .i64 0, .int .i64 0]) ?_ 1 _ rfl; (with_reducible repeat (first | refine blk_drewN ?_ _ | refine blk_drew ?_ | refine blk_alloc ?_ _)); refine blk_put (cs := #[.int .i64 0, .int .i64 0]) ?_ 0 _ rfl; (with_reducible repeat (first | refine blk_drewN ?_ _ | refine blk_drew ?_ | refine blk_alloc ?_ _)); refine blk_far ?_ NB331_335.out _; (with_reducible repeat (first | refine blk_drewN ?_ _ | refine blk_drew ?_ | refine blk_alloc ?_ _)); exact BK331.out) Tryz.underlying76 rfl (by kernel_rfl)) rfl ?_
                            exact ⟨by first | rfl | (simp [errW_none, errW_some] <;> rfl) | (simp [*, errW_none, errW_some] <;> rfl), by repeat (first | (with_reducible first | exact HB.out | apply below_alloc | apply pw_below_drewN | apply below_drew1 | refine below_set ?_ GE331.out | refine below_set ?_ GE335.out) | exact HB.out)⟩
                          · rw [if_neg c75] at H
                            have c75b0 : (a0.toList == ([] : List UInt8)) = false := beq_eq_false_iff_ne.mpr c75
                            have c75b1 : (a0.toList != ([] : List UInt8)) = true := bne_iff_ne.mpr c75
                            (try (have c75b2 : a0.toList.isEmpty = false := by simpa using c75))
                            replace H := Option.bind_eq_some_iff.mp H
                            obtain ⟨t343, A790, H⟩ := H
                            replace H : (if t343.toList = a0.toList then (some (wrap64 (x5_6 * x336000_32), x336001_32, true)) else (some (0, 0, false))) = some (r1, r2, r3) := H
                            have A79 := Aside0.mk A790
                            clear A790
                            have HU_ := Aside0.mk H
                            clear H
                            have hnb80 := NB335_331.out
                            have hnc80 := NB331_335.out
                            have hcz81_0 : wc.cell? ⟨gb335, 0, none⟩ = some (.int .i64 x336000_32) := (blk_cell BK335.out 0).trans rfl
                            have hcz81_1 : wc.cell? ⟨gb335, 1, none⟩ = some (.int .i64 x336001_32) := (blk_cell BK335.out 1).trans rfl
                            have hfz81_0 := blk_frozen BK335.out 0
                            have hfz81_1 := blk_frozen BK335.out 1
                            go_upto_if 88 with (first | (go_at_call 99; (with_reducible refine (spec_FractionText.calls kj36 (wrap64 (x5_6 * x336000_32)) x336001_32 t343 _ A79.out).mono ?_); rintro e w82 ⟨rfl, hb⟩; have n0_ := Aside0.mk (blk_below (g := gb331) (o := .cells #[.int .i64 0, .int .i64 0] 76 (0, 0)) (by (with_reducible repeat (first | refine blk_drewN ?_ _ | refine blk_drew ?_ | refine blk_alloc ?_ _)); refine blk_far ?_ NB331_335.out _; (with_reducible repeat (first | refine blk_drewN ?_ _ | refine blk_drew ?_ | refine blk_alloc ?_ _)); exact BK331.out) hb); have n1_ := Aside0.mk (blk_below (g := gb335) (o := .cells #[.int .i64 (wrap64 (x5_6 * x336000_32)), .int .i64 x336001_32] 76 (0, 0)) (by (with_reducible repeat (first | refine blk_drewN ?_ _ | refine blk_drew ?_ | refine blk_alloc ?_ _)); refine blk_put (cs := #[.int .i64 x336000_32, .int .i64 x336001_32]) ?_ 0 _ rfl; (with_reducible repeat (first | refine blk_drewN ?_ _ | refine blk_drew ?_ | refine blk_alloc ?_ _)); exact BK335.out) hb); have n2_ := Aside0.mk (below_step (by repeat (first | (with_reducible first | exact HB.out | apply below_alloc | apply pw_below_drewN | apply below_drew1 | refine below_set ?_ GE331.out | refine below_set ?_ GE335.out) | exact HB.out)) hb); clear BK331; clear BK335; clear HB; have BK331 := n0_; have BK335 := n1_; have HB := n2_; clear n0_ n1_ n2_; (try clear hb); (try clear hb2); (try clear hk); (try clear hi)))
                            (try simp only [Act.put, List.setIfInBounds_toArray, List.set_cons_zero, List.set_cons_succ])
                            have H := HU_.out
                            clear HU_
                            by_cases c83 : t343.toList = a0.toList
                            · rw [if_pos c83] at H
                              have c83b0 : (t343.toList == a0.toList) = true := beq_iff_eq.mpr c83
                              have c83b1 : (t343.toList != a0.toList) = false := bne_eq_false_iff_eq.mpr c83
                              clear c83
                              (first | rw [c83b0] | (simp only [i64_w, i32_w]; rw [c83b0]) | rw [c83b1] | skip)
                              simp only [Option.some.injEq, Prod.mk.injEq] at H
                              obtain ⟨rfl, rfl, rfl⟩ := H
                              have hnb84 := NB335_331.out
                              have hnc84 := NB331_335.out
                              have hcz85_0 : w82.cell? ⟨gb335, 0, none⟩ = some (.int .i64 (wrap64 (x5_6 * x336000_32))) := (blk_cell BK335.out 0).trans rfl
                              have hcz85_1 : w82.cell? ⟨gb335, 1, none⟩ = some (.int .i64 x336001_32) := (blk_cell BK335.out 1).trans rfl
                              have hfz85_0 := blk_frozen BK335.out 0
                              have hfz85_1 := blk_frozen BK335.out 1
                              have hcz86_0 : w82.cell? ⟨gb331, 0, none⟩ = some (.int .i64 0) := (blk_cell BK331.out 0).trans rfl
                              have hcz86_1 : w82.cell? ⟨gb331, 1, none⟩ = some (.int .i64 0) := (blk_cell BK331.out 1).trans rfl
                              have hfz86_0 := blk_frozen BK331.out 0
                              have hfz86_1 := blk_frozen BK331.out 1
                              go_wp2
                              refine bodyPost_ret (results_ct rfl _ _ gb331 76 #[.int .i64 (wrap64 (x5_6 * x336000_32)), .int .i64 x336001_32] (0, 0) _ rfl (by (with_reducible repeat (first | refine blk_drewN ?_ _ | refine blk_drew ?_ | refine blk_alloc ?_ _)); refine blk_put (cs := #[.int .i64 (wrap64 (x5_6 * x336000_32)), .int .i64 0]) ?_ 1 _ rfl; (with_reducible repeat (first | refine blk_drewN ?_ _ | refine blk_drew ?_ | refine blk_alloc ?_ _)); refine blk_put (cs := #[.int .i64 0, .int .i64 0]) ?_ 0 _ rfl; (with_reducible repeat (first | refine blk_drewN ?_ _ | refine blk_drew ?_ | refine blk_alloc ?_ _)); exact BK331.out) Tryz.underlying76 rfl (by kernel_rfl)) rfl ?_
                              exact ⟨by first | rfl | (simp [errW_none, errW_some] <;> rfl) | (simp [*, errW_none, errW_some] <;> rfl), by repeat (first | (with_reducible first | exact HB.out | apply below_alloc | apply pw_below_drewN | apply below_drew1 | refine below_set ?_ GE331.out | refine below_set ?_ GE335.out) | exact HB.out)⟩
                            · rw [if_neg c83] at H
                              have c83b0 : (t343.toList == a0.toList) = false := beq_eq_false_iff_ne.mpr c83
                              have c83b1 : (t343.toList != a0.toList) = true := bne_iff_ne.mpr c83
                              (first | rw [c83b0] | (simp only [i64_w, i32_w]; rw [c83b0]) | rw [c83b1] | skip)
                              simp only [Option.some.injEq, Prod.mk.injEq] at H
                              obtain ⟨rfl, rfl, rfl⟩ := H
                              have hnb87 := NB331_335.out
                              have hnc87 := NB335_331.out
                              have hcz88_0 : w82.cell? ⟨gb331, 0, none⟩ = some (.int .i64 0) := (blk_cell BK331.out 0).trans rfl
                              have hcz88_1 : w82.cell? ⟨gb331, 1, none⟩ = some (.int .i64 0) := (blk_cell BK331.out 1).trans rfl
                              have hfz88_0 := blk_frozen BK331.out 0
                              have hfz88_1 := blk_frozen BK331.out 1
                              go_wp2
                              refine bodyPost_ret (results_ct rfl _ _ gb331 76 #[.int .i64 0, .int .i64 0] (0, 0) _ rfl (by (with_reducible repeat (first | refine blk_drewN ?_ _ | refine blk_drew ?_ | refine blk_alloc ?_ _)); refine blk_put (cs := #[.int .i64 0, .int .i64 0]) ?_ 1 _ rfl; (with_reducible repeat (first | refine blk_drewN ?_ _ | refine blk_drew ?_ | refine blk_alloc ?_ _)); refine blk_put (cs := #[.int .i64 0, .int .i64 0]) ?_ 0 _ rfl; (with_reducible repeat (first | refine blk_drewN ?_ _ | refine blk_drew ?_ | refine blk_alloc ?_ _)); exact BK331.out) Tryz.underlying76 rfl (by kernel_rfl)) rfl ?_
                              exact ⟨by first | rfl | (simp [errW_none, errW_some] <;> rfl) | (simp [*, errW_none, errW_some] <;> rfl), by repeat (first | (with_reducible first | exact HB.out | apply below_alloc | apply pw_below_drewN | apply below_drew1 | refine below_set ?_ GE331.out | refine below_set ?_ GE335.out) | exact HB.out)⟩
end Go.Proofs.YtjdlepjgniokdaaGreatDoor.PA

end
section

namespace Go.Proofs.YtjdlepjgniokdaaGreatDoor.PA
open Go.RowKit Go.Proofs.YtjdlepjgniokdaaGreatDoorW.PrintWords Go.Proofs.YtjdlepjgniokdaaGreatDoorW.PrintLast Go.Proofs.YtjdlepjgniokdaaGreatDoorW.PrintMore
attribute [local go_sem] max2_int min2_int max_two min_two max_three min_three max_four min_four
set_option linter.unusedVariables false
set_option linter.unusedSimpArgs false
def spec_l3Letter.f (a0 : Int) : Option (Bool) := if a0 ≥ 97 then (some (decide (a0 ≤ 122))) else (some false)
set_option maxHeartbeats 8000000 in
set_option maxRecDepth 100000 in
theorem spec_l3Letter.calls (a0 : Int) (r : Bool) (w : World) (h : spec_l3Letter.f a0 = some r) :
    Calls Tryz.prog 107 #[.int .u8 a0] w fun e w' => e = .returned (.bool r) ∧ Drawn0 w w' := by
  have H : (if a0 ≥ 97 then (some (decide (a0 ≤ 122))) else (some false)) = some r := h
  clear h
  by_cases c2 : a0 ≥ 97
  · rw [if_pos c2] at H
    have c2b0 : decide (97 ≤ a0) = true := decide_eq_true c2
    clear c2
    obtain rfl := Option.some.inj H
    go_enter Tryz.func107, Tryz.ntmps107
    go_wp2
    go_ret
    exact ⟨by first | rfl | (simp; done) | (simp [*]; done), by repeat (first | exact Drawn0.refl _ | apply Drawn0.step)⟩
  · rw [if_neg c2] at H
    have c2b0 : decide (97 ≤ a0) = false := decide_eq_false c2
    clear c2
    obtain rfl := Option.some.inj H
    go_enter Tryz.func107, Tryz.ntmps107
    go_wp2
    go_ret
    exact ⟨by first | rfl | (simp; done) | (simp [*]; done), by repeat (first | exact Drawn0.refl _ | apply Drawn0.step)⟩
def spec_l3Digit.f (a0 : Int) : Option (Bool) := if a0 ≥ 48 then (some (decide (a0 ≤ 57))) else (some false)
set_option maxHeartbeats 8000000 in
set_option maxRecDepth 100000 in
theorem spec_l3Digit.calls (a0 : Int) (r : Bool) (w : World) (h : spec_l3Digit.f a0 = some r) :
    Calls Tryz.prog 108 #[.int .u8 a0] w fun e w' => e = .returned (.bool r) ∧ Drawn0 w w' := by
  have H : (if a0 ≥ 48 then (some (decide (a0 ≤ 57))) else (some false)) = some r := h
  clear h
  by_cases c2 : a0 ≥ 48
  · rw [if_pos c2] at H
    have c2b0 : decide (48 ≤ a0) = true := decide_eq_true c2
    clear c2
    obtain rfl := Option.some.inj H
    go_enter Tryz.func108, Tryz.ntmps108
    go_wp2
    go_ret
    exact ⟨by first | rfl | (simp; done) | (simp [*]; done), by repeat (first | exact Drawn0.refl _ | apply Drawn0.step)⟩
  · rw [if_neg c2] at H
    have c2b0 : decide (48 ≤ a0) = false := decide_eq_false c2
    clear c2
    obtain rfl := Option.some.inj H
    go_enter Tryz.func108, Tryz.ntmps108
    go_wp2
    go_ret
    exact ⟨by first | rfl | (simp; done) | (simp [*]; done), by repeat (first | exact Drawn0.refl _ | apply Drawn0.step)⟩
end Go.Proofs.YtjdlepjgniokdaaGreatDoor.PA

end
section

namespace Go.Proofs.YtjdlepjgniokdaaGreatDoor.PA
open Go.RowKit Go.Proofs.YtjdlepjgniokdaaGreatDoorW.PrintWords Go.Proofs.YtjdlepjgniokdaaGreatDoorW.PrintLast Go.Proofs.YtjdlepjgniokdaaGreatDoorW.PrintMore
attribute [local go_sem] max2_int min2_int max_two min_two max_three min_three max_four min_four
set_option linter.unusedVariables false
set_option linter.unusedSimpArgs false
mutual
def spec_NameValid.l0 : Nat → ByteArray → Int → Int → Option (Bool)
  | 0, _, _, _ => none
  | k + 1, x0, x3, x4 => if x4 < (x0.size : Int) then (if 0 ≤ x4 then (if (bt x0 x4) = 46 then (spec_NameValid.j1 k x0 x3 x4 (decide (x3 > 0))) else (spec_NameValid.j1 k x0 x3 x4 false)) else (none)) else (if x3 > 0 then (if x0.toList = ([116, 114, 117, 101] : List UInt8) then (some false) else (some (x0.toList != ([102, 97, 108, 115, 101] : List UInt8)))) else (some false))
def spec_NameValid.j1 : Nat → ByteArray → Int → Int → Bool → Option (Bool)
  | 0, _, _, _, _ => none
  | k + 1, x0, x3, x4, x18 => if x18 = true then (spec_NameValid.l0 k x0 0 (wrap64 (x4 + 1))) else (if 0 ≤ x4 then (if x4 < (x0.size : Int) then ((spec_l3Letter.f (bt x0 x4)).bind fun t344 => (if t344 = true then (spec_NameValid.j2 k x0 x3 x4 false) else (if x3 = 0 then (spec_NameValid.j2 k x0 x3 x4 true) else ((spec_l3Digit.f (bt x0 x4)).bind fun t345 => (if t345 = true then (spec_NameValid.j2 k x0 x3 x4 false) else (spec_NameValid.j2 k x0 x3 x4 ((bt x0 x4) != 95))))))) else (none)) else (none))
def spec_NameValid.j2 : Nat → ByteArray → Int → Int → Bool → Option (Bool)
  | 0, _, _, _, _ => none
  | k + 1, x0, x3, x4, x40 => if x40 = true then (some false) else (if (wrap64 (x3 + 1)) > 12 then (some false) else (spec_NameValid.l0 k x0 (wrap64 (x3 + 1)) (wrap64 (x4 + 1))))
end
def spec_NameValid.f (k : Nat) (a0 : ByteArray) : Option (Bool) := spec_NameValid.l0 k a0 0 0
set_option maxHeartbeats 8000000 in
set_option maxRecDepth 100000 in
theorem spec_NameValid.calls (k : Nat) (a0 : ByteArray) (r : Bool) (w : World) (h : spec_NameValid.f k a0 = some r) :
    Calls Tryz.prog 66 #[.string a0] w fun e w' => e = .returned (.bool r) ∧ Drawn0 w w' := by
  have H : (spec_NameValid.l0 k a0 0 0) = some r := h
  clear h
  have H' := Aside0.mk H
  clear H
  go_enter Tryz.func66, Tryz.ntmps66
  go_wp2
  go_loopg [3, 4] k (fun kq v3 v4 w' => ∃ (x3_1 : Int) (x4_1 : Int), v3 = .int .i64 x3_1 ∧ v4 = .int .i64 x4_1 ∧ Aside0 (spec_NameValid.l0 kq a0 x3_1 x4_1 = some r) ∧ Aside0 (kq ≤ k) ∧ Drawn0 w w')
  case atStart => exact ⟨(0), (0), (by first | rfl | simp [*]), (by first | rfl | simp [*]), H', ⟨Nat.le_refl _⟩, by repeat (first | exact Drawn0.refl _ | apply Drawn0.step)⟩
  case round =>
    clear H'
    obtain ⟨x3_1, x4_1, rfl, rfl, HA, HK1, ⟨m1, rfl⟩⟩ := hrel
    cases gk with
    | zero => exact absurd HA.out (by simp [spec_NameValid.l0])
    | succ k1 =>
      have H := HA.out
      clear HA
      simp only [spec_NameValid.l0] at H
      by_cases c2 : x4_1 < (a0.size : Int)
      · rw [if_pos c2] at H
        have c2b0 : decide (x4_1 < (a0.size : Int)) = true := decide_eq_true c2
        clear c2
        have HC3 := Aside0.mk H
        clear H
        go_upto_region 5 with (fail)
        go_cut [18] (fun v18 wc => ∃ (kq : Nat) (x18_2 : Bool), v18 = .bool x18_2 ∧ Aside0 (spec_NameValid.j1 kq a0 x3_1 x4_1 x18_2 = some r) ∧ Aside0 (kq ≤ k1) ∧ Drawn0 w wc)
        case first =>
          have H := HC3.out
          clear HC3
          by_cases c4 : 0 ≤ x4_1
          · rw [if_pos c4] at H
            have c4b0 : decide (0 ≤ x4_1) = true := decide_eq_true c4
            clear c4
            (first | rw [c4b0] | (simp only [i64_w, i32_w]; rw [c4b0]) | skip)
            by_cases c6 : (bt a0 x4_1) = 46
            · rw [if_pos c6] at H
              have c6b0 : ((bt a0 x4_1) == 46) = true := beq_iff_eq.mpr c6
              have c6b1 : ((bt a0 x4_1) != 46) = false := bne_eq_false_iff_eq.mpr c6
              clear c6
              have H' := Aside0.mk H
              clear H
              have p5 : 0 ≤ (x4_1 : Int) := of_decide_eq_true (by assumption)
              have q5 : x4_1 < (a0.size : Int) := of_decide_eq_true (by assumption)
              have hx5 := bt_at a0 x4_1
              replace p5 := eq_true p5
              replace q5 := eq_true q5
              go_wp2
              go_meet
              case rel => exact ⟨_, (decide (x3_1 > 0)), (by first | rfl | simp [*]), H', ⟨by have := HK1.out; first | omega | exact Nat.le_refl _⟩, by repeat (first | exact Drawn0.refl _ | apply Drawn0.step)⟩
            · rw [if_neg c6] at H
              have c6b0 : ((bt a0 x4_1) == 46) = false := beq_eq_false_iff_ne.mpr c6
              have c6b1 : ((bt a0 x4_1) != 46) = true := bne_iff_ne.mpr c6
              have H' := Aside0.mk H
              clear H
              have p5 : 0 ≤ (x4_1 : Int) := of_decide_eq_true (by assumption)
              have q5 : x4_1 < (a0.size : Int) := of_decide_eq_true (by assumption)
              have hx5 := bt_at a0 x4_1
              replace p5 := eq_true p5
              replace q5 := eq_true q5
              go_wp2
              go_meet
              case rel => exact ⟨_, (false), (by first | rfl | simp [*]), H', ⟨by have := HK1.out; first | omega | exact Nat.le_refl _⟩, by repeat (first | exact Drawn0.refl _ | apply Drawn0.step)⟩
          · rw [if_neg c4] at H
            exact absurd H (by simp)
        case rest =>
          clear HC3
          try clear c2
          try clear c2b0
          try clear p2
          try clear c4
          try clear c4b0
          try clear p5
          try clear q5
          try clear hx5
          try clear c6
          try clear c6b0
          try clear c6b1
          try clear p5
          try clear q5
          obtain ⟨kq, x18_2, rfl, HA, HJ2, ⟨mc2, rfl⟩⟩ := hcut
          cases kq with
          | zero => exact absurd HA.out (by simp [spec_NameValid.j1])
          | succ kj2 =>
            have H := HA.out
            clear HA
            simp only [spec_NameValid.j1] at H
            by_cases c7 : x18_2 = true
            · subst c7
              have H1 : (spec_NameValid.l0 kj2 a0 0 (wrap64 (x4_1 + 1))) = some r := by rw [if_pos rfl] at H; exact H
              clear H
              have H := H1
              clear H1
              have H' := Aside0.mk H
              clear H
              go_wp2
              go_roundg kj2
              case measure => have := HK1.out; have := HJ2.out; omega
              case rel => exact ⟨(0), (wrap64 (x4_1 + 1)), (by first | rfl | simp [*]), (by first | rfl | simp [*]), H', ⟨by have := HK1.out; have := HJ2.out; omega⟩, by repeat (first | exact Drawn0.refl _ | apply Drawn0.step)⟩
            · replace c7 := Bool.eq_false_iff.mpr c7
              subst c7
              have H1 : (if 0 ≤ x4_1 then (if x4_1 < (a0.size : Int) then ((spec_l3Letter.f (bt a0 x4_1)).bind fun t344 => (if t344 = true then (spec_NameValid.j2 kj2 a0 x3_1 x4_1 false) else (if x3_1 = 0 then (spec_NameValid.j2 kj2 a0 x3_1 x4_1 true) else ((spec_l3Digit.f (bt a0 x4_1)).bind fun t345 => (if t345 = true then (spec_NameValid.j2 kj2 a0 x3_1 x4_1 false) else (spec_NameValid.j2 kj2 a0 x3_1 x4_1 ((bt a0 x4_1) != 95))))))) else (none)) else (none)) = some r := by rw [if_neg (show ¬ (false = true) by decide)] at H; exact H
              clear H
              have H := H1
              clear H1
              have HC8 := Aside0.mk H
              clear H
              go_upto_region 7 with (fail)
              go_cut [40] (fun v40 wc => ∃ (kq : Nat) (x40_7 : Bool), v40 = .bool x40_7 ∧ Aside0 (spec_NameValid.j2 kq a0 x3_1 x4_1 x40_7 = some r) ∧ Aside0 (kq ≤ kj2) ∧ Drawn0 w wc)
              case first =>
                have H := HC8.out
                clear HC8
                by_cases c9 : 0 ≤ x4_1
                · rw [if_pos c9] at H
                  have c9b0 : decide (0 ≤ x4_1) = true := decide_eq_true c9
                  clear c9
                  (first | rw [c9b0] | (simp only [i64_w, i32_w]; rw [c9b0]) | skip)
                  by_cases c10 : x4_1 < (a0.size : Int)
                  · rw [if_pos c10] at H
                    have c10b0 : decide (x4_1 < (a0.size : Int)) = true := decide_eq_true c10
                    clear c10
                    replace H := Option.bind_eq_some_iff.mp H
                    obtain ⟨t344, A120, H⟩ := H
                    replace H : (if t344 = true then (spec_NameValid.j2 kj2 a0 x3_1 x4_1 false) else (if x3_1 = 0 then (spec_NameValid.j2 kj2 a0 x3_1 x4_1 true) else ((spec_l3Digit.f (bt a0 x4_1)).bind fun t345 => (if t345 = true then (spec_NameValid.j2 kj2 a0 x3_1 x4_1 false) else (spec_NameValid.j2 kj2 a0 x3_1 x4_1 ((bt a0 x4_1) != 95)))))) = some r := H
                    have A12 := Aside0.mk A120
                    clear A120
                    by_cases c13 : t344 = true
                    · subst c13
                      have H1 : (spec_NameValid.j2 kj2 a0 x3_1 x4_1 false) = some r := by rw [if_pos rfl] at H; exact H
                      clear H
                      have H := H1
                      clear H1
                      have H' := Aside0.mk H
                      clear H
                      have p11 : 0 ≤ (x4_1 : Int) := of_decide_eq_true (by assumption)
                      have q11 : x4_1 < (a0.size : Int) := of_decide_eq_true (by assumption)
                      have hx11 := bt_at a0 x4_1
                      replace p11 := eq_true p11
                      replace q11 := eq_true q11
                      go_wp2_with (first | ((with_reducible refine gate_callee (f := 107) rfl ?_); refine goesL_ (some 22) rfl rfl Tryz.func107 (by kernel_rfl) rfl #[.int .u8 (bt a0 x4_1)] rfl (by (try simp only [List.map_toArray, List.map_cons, List.map_nil]); first | done | rfl | (simp only [List.length_drop, List.length_take]; rfl) | (simp only [Int.mul_one, Int.one_mul, Int.add_zero, Int.zero_add, pxw]; rfl)) ?_; (with_reducible refine (spec_l3Letter.calls (bt a0 x4_1) true _ A12.out).mono ?_); rintro e w' ⟨rfl, ⟨nd, rfl⟩⟩; refine ⟨_, rfl, ?_⟩))
                      go_meet
                      case rel => exact ⟨_, (false), (by first | rfl | simp [*]), H', ⟨by have := HK1.out; have := HJ2.out; first | omega | exact Nat.le_refl _⟩, by repeat (first | exact Drawn0.refl _ | apply Drawn0.step)⟩
                    · replace c13 := Bool.eq_false_iff.mpr c13
                      subst c13
                      have H1 : (if x3_1 = 0 then (spec_NameValid.j2 kj2 a0 x3_1 x4_1 true) else ((spec_l3Digit.f (bt a0 x4_1)).bind fun t345 => (if t345 = true then (spec_NameValid.j2 kj2 a0 x3_1 x4_1 false) else (spec_NameValid.j2 kj2 a0 x3_1 x4_1 ((bt a0 x4_1) != 95))))) = some r := by rw [if_neg (show ¬ (false = true) by decide)] at H; exact H
                      clear H
                      have H := H1
                      clear H1
                      by_cases c14 : x3_1 = 0
                      · rw [if_pos c14] at H
                        have c14b0 : (x3_1 == 0) = true := beq_iff_eq.mpr c14
                        have c14b1 : (x3_1 != 0) = false := bne_eq_false_iff_eq.mpr c14
                        clear c14
                        have H' := Aside0.mk H
                        clear H
                        have p11 : 0 ≤ (x4_1 : Int) := of_decide_eq_true (by assumption)
                        have q11 : x4_1 < (a0.size : Int) := of_decide_eq_true (by assumption)
                        have hx11 := bt_at a0 x4_1
                        replace p11 := eq_true p11
                        replace q11 := eq_true q11
                        go_wp2_with (first | ((with_reducible refine gate_callee (f := 107) rfl ?_); refine goesL_ (some 22) rfl rfl Tryz.func107 (by kernel_rfl) rfl #[.int .u8 (bt a0 x4_1)] rfl (by (try simp only [List.map_toArray, List.map_cons, List.map_nil]); first | done | rfl | (simp only [List.length_drop, List.length_take]; rfl) | (simp only [Int.mul_one, Int.one_mul, Int.add_zero, Int.zero_add, pxw]; rfl)) ?_; (with_reducible refine (spec_l3Letter.calls (bt a0 x4_1) false _ A12.out).mono ?_); rintro e w' ⟨rfl, ⟨nd, rfl⟩⟩; refine ⟨_, rfl, ?_⟩))
                        go_meet
                        case rel => exact ⟨_, (true), (by first | rfl | simp [*]), H', ⟨by have := HK1.out; have := HJ2.out; first | omega | exact Nat.le_refl _⟩, by repeat (first | exact Drawn0.refl _ | apply Drawn0.step)⟩
                      · rw [if_neg c14] at H
                        have c14b0 : (x3_1 == 0) = false := beq_eq_false_iff_ne.mpr c14
                        have c14b1 : (x3_1 != 0) = true := bne_iff_ne.mpr c14
                        replace H := Option.bind_eq_some_iff.mp H
                        obtain ⟨t345, A160, H⟩ := H
                        replace H : (if t345 = true then (spec_NameValid.j2 kj2 a0 x3_1 x4_1 false) else (spec_NameValid.j2 kj2 a0 x3_1 x4_1 ((bt a0 x4_1) != 95))) = some r := H
                        have A16 := Aside0.mk A160
                        clear A160
                        by_cases c17 : t345 = true
                        · subst c17
                          have H1 : (spec_NameValid.j2 kj2 a0 x3_1 x4_1 false) = some r := by rw [if_pos rfl] at H; exact H
                          clear H
                          have H := H1
                          clear H1
                          have H' := Aside0.mk H
                          clear H
                          have p11 : 0 ≤ (x4_1 : Int) := of_decide_eq_true (by assumption)
                          have q11 : x4_1 < (a0.size : Int) := of_decide_eq_true (by assumption)
                          have hx11 := bt_at a0 x4_1
                          replace p11 := eq_true p11
                          replace q11 := eq_true q11
                          go_wp2_with (first | ((with_reducible refine gate_callee (f := 107) rfl ?_); refine goesL_ (some 22) rfl rfl Tryz.func107 (by kernel_rfl) rfl #[.int .u8 (bt a0 x4_1)] rfl (by (try simp only [List.map_toArray, List.map_cons, List.map_nil]); first | done | rfl | (simp only [List.length_drop, List.length_take]; rfl) | (simp only [Int.mul_one, Int.one_mul, Int.add_zero, Int.zero_add, pxw]; rfl)) ?_; (with_reducible refine (spec_l3Letter.calls (bt a0 x4_1) false _ A12.out).mono ?_); rintro e w' ⟨rfl, ⟨nd, rfl⟩⟩; refine ⟨_, rfl, ?_⟩; have p15 : 0 ≤ (x4_1 : Int) := of_decide_eq_true (by assumption); have q15 : x4_1 < (a0.size : Int) := of_decide_eq_true (by assumption); have hx15 := bt_at a0 x4_1; replace p15 := eq_true p15; replace q15 := eq_true q15) | (go_at_call 108; (with_reducible refine (spec_l3Digit.calls (bt a0 x4_1) true _ A16.out).mono ?_); rintro e w' ⟨rfl, ⟨nd, rfl⟩⟩))
                          go_meet
                          case rel => exact ⟨_, (false), (by first | rfl | simp [*]), H', ⟨by have := HK1.out; have := HJ2.out; first | omega | exact Nat.le_refl _⟩, by repeat (first | exact Drawn0.refl _ | apply Drawn0.step)⟩
                        · replace c17 := Bool.eq_false_iff.mpr c17
                          subst c17
                          have H1 : (spec_NameValid.j2 kj2 a0 x3_1 x4_1 ((bt a0 x4_1) != 95)) = some r := by rw [if_neg (show ¬ (false = true) by decide)] at H; exact H
                          clear H
                          have H := H1
                          clear H1
                          have H' := Aside0.mk H
                          clear H
                          have p11 : 0 ≤ (x4_1 : Int) := of_decide_eq_true (by assumption)
                          have q11 : x4_1 < (a0.size : Int) := of_decide_eq_true (by assumption)
                          have hx11 := bt_at a0 x4_1
                          replace p11 := eq_true p11
                          replace q11 := eq_true q11
                          go_wp2_with (first | ((with_reducible refine gate_callee (f := 107) rfl ?_); refine goesL_ (some 22) rfl rfl Tryz.func107 (by kernel_rfl) rfl #[.int .u8 (bt a0 x4_1)] rfl (by (try simp only [List.map_toArray, List.map_cons, List.map_nil]); first | done | rfl | (simp only [List.length_drop, List.length_take]; rfl) | (simp only [Int.mul_one, Int.one_mul, Int.add_zero, Int.zero_add, pxw]; rfl)) ?_; (with_reducible refine (spec_l3Letter.calls (bt a0 x4_1) false _ A12.out).mono ?_); rintro e w' ⟨rfl, ⟨nd, rfl⟩⟩; refine ⟨_, rfl, ?_⟩; have p15 : 0 ≤ (x4_1 : Int) := of_decide_eq_true (by assumption); have q15 : x4_1 < (a0.size : Int) := of_decide_eq_true (by assumption); have hx15 := bt_at a0 x4_1; replace p15 := eq_true p15; replace q15 := eq_true q15) | (go_at_call 108; (with_reducible refine (spec_l3Digit.calls (bt a0 x4_1) false _ A16.out).mono ?_); rintro e w' ⟨rfl, ⟨nd, rfl⟩⟩; have p18 : 0 ≤ (x4_1 : Int) := of_decide_eq_true (by assumption); have q18 : x4_1 < (a0.size : Int) := of_decide_eq_true (by assumption); have hx18 := bt_at a0 x4_1; replace p18 := eq_true p18; replace q18 := eq_true q18))
                          go_meet
                          case rel => exact ⟨_, (((bt a0 x4_1) != 95)), (by first | rfl | simp [*]), H', ⟨by have := HK1.out; have := HJ2.out; first | omega | exact Nat.le_refl _⟩, by repeat (first | exact Drawn0.refl _ | apply Drawn0.step)⟩
                  · rw [if_neg c10] at H
                    exact absurd H (by simp)
                · rw [if_neg c9] at H
                  exact absurd H (by simp)
              case rest =>
                clear HC8
                try clear c1
                try clear p1
                try clear q1
                try clear hx1
                try clear c2
                try clear c2b0
                try clear p2
                try clear c4
                try clear c4b0
                try clear p5
                try clear q5
                try clear hx5
                try clear c6
                try clear c6b0
                try clear c6b1
                try clear p6
                try clear c7
                try clear c9
                try clear c9b0
                try clear c10
                try clear c10b0
                try clear p11
                try clear q11
                try clear hx11
                try clear c13
                try clear c14
                try clear c14b0
                try clear c14b1
                try clear p15
                try clear q15
                try clear hx15
                try clear c17
                try clear p18
                try clear q18
                try clear hx18
                try clear p11
                try clear p15
                try clear p18
                try clear p2
                try clear p5
                try clear q11
                try clear q15
                try clear q18
                try clear q5
                obtain ⟨kq, x40_7, rfl, HA, HJ7, ⟨mc7, rfl⟩⟩ := hcut
                cases kq with
                | zero => exact absurd HA.out (by simp [spec_NameValid.j2])
                | succ kj7 =>
                  have H := HA.out
                  clear HA
                  simp only [spec_NameValid.j2] at H
                  by_cases c19 : x40_7 = true
                  · subst c19
                    have H1 : (some false) = some r := by rw [if_pos rfl] at H; exact H
                    clear H
                    have H := H1
                    clear H1
                    obtain rfl := Option.some.inj H
                    go_wp2
                    go_ret
                    exact ⟨by first | rfl | (simp; done) | (simp [*]; done), by repeat (first | exact Drawn0.refl _ | apply Drawn0.step)⟩
                  · replace c19 := Bool.eq_false_iff.mpr c19
                    subst c19
                    have H1 : (if (wrap64 (x3_1 + 1)) > 12 then (some false) else (spec_NameValid.l0 kj7 a0 (wrap64 (x3_1 + 1)) (wrap64 (x4_1 + 1)))) = some r := by rw [if_neg (show ¬ (false = true) by decide)] at H; exact H
                    clear H
                    have H := H1
                    clear H1
                    by_cases c20 : (wrap64 (x3_1 + 1)) > 12
                    · rw [if_pos c20] at H
                      have c20b0 : decide (12 < (wrap64 (x3_1 + 1))) = true := decide_eq_true c20
                      clear c20
                      obtain rfl := Option.some.inj H
                      go_wp2
                      go_ret
                      exact ⟨by first | rfl | (simp; done) | (simp [*]; done), by repeat (first | exact Drawn0.refl _ | apply Drawn0.step)⟩
                    · rw [if_neg c20] at H
                      have c20b0 : decide (12 < (wrap64 (x3_1 + 1))) = false := decide_eq_false c20
                      clear c20
                      have H' := Aside0.mk H
                      clear H
                      go_wp2
                      go_roundg kj7
                      case measure => have := HK1.out; have := HJ2.out; have := HJ7.out; omega
                      case rel => exact ⟨(wrap64 (x3_1 + 1)), (wrap64 (x4_1 + 1)), (by first | rfl | simp [*]), (by first | rfl | simp [*]), H', ⟨by have := HK1.out; have := HJ2.out; have := HJ7.out; omega⟩, by repeat (first | exact Drawn0.refl _ | apply Drawn0.step)⟩
      · rw [if_neg c2] at H
        have c2b0 : decide (x4_1 < (a0.size : Int)) = false := decide_eq_false c2
        clear c2
        by_cases c21 : x3_1 > 0
        · rw [if_pos c21] at H
          have c21b0 : decide (0 < x3_1) = true := decide_eq_true c21
          clear c21
          by_cases c22 : a0.toList = ([116, 114, 117, 101] : List UInt8)
          · rw [if_pos c22] at H
            have c22b0 : (a0.toList == ([116, 114, 117, 101] : List UInt8)) = true := beq_iff_eq.mpr c22
            have c22b1 : (a0.toList != ([116, 114, 117, 101] : List UInt8)) = false := bne_eq_false_iff_eq.mpr c22
            clear c22
            obtain rfl := Option.some.inj H
            go_wp2
            go_ret
            exact ⟨by first | rfl | (simp; done) | (simp [*]; done), by repeat (first | exact Drawn0.refl _ | apply Drawn0.step)⟩
          · rw [if_neg c22] at H
            have c22b0 : (a0.toList == ([116, 114, 117, 101] : List UInt8)) = false := beq_eq_false_iff_ne.mpr c22
            have c22b1 : (a0.toList != ([116, 114, 117, 101] : List UInt8)) = true := bne_iff_ne.mpr c22
            obtain rfl := Option.some.inj H
            go_wp2
            go_ret
            exact ⟨by first | rfl | (simp; done) | (simp [*]; done), by repeat (first | exact Drawn0.refl _ | apply Drawn0.step)⟩
        · rw [if_neg c21] at H
          have c21b0 : decide (0 < x3_1) = false := decide_eq_false c21
          clear c21
          obtain rfl := Option.some.inj H
          go_wp2
          go_ret
          exact ⟨by first | rfl | (simp; done) | (simp [*]; done), by repeat (first | exact Drawn0.refl _ | apply Drawn0.step)⟩
end Go.Proofs.YtjdlepjgniokdaaGreatDoor.PA

end
section

namespace Go.Proofs.YtjdlepjgniokdaaGreatDoor.PA
open Go.RowKit Go.Proofs.YtjdlepjgniokdaaGreatDoorW.PrintWords Go.Proofs.YtjdlepjgniokdaaGreatDoorW.PrintLast Go.Proofs.YtjdlepjgniokdaaGreatDoorW.PrintMore
attribute [local go_sem] max2_int min2_int max_two min_two max_three min_three max_four min_four
set_option linter.unusedVariables false
set_option linter.unusedSimpArgs false
def spec_TextValid.l0 : Nat → ByteArray → Int → Option (Bool)
  | 0, _, _ => none
  | k + 1, x0, x3 => if x3 < (x0.size : Int) then (if 0 ≤ x3 then (if (bt x0 x3) = 10 then (spec_TextValid.l0 k x0 (wrap64 (x3 + 1))) else ((spec_l1In.f (wrap64 (bt x0 x3)) 32 126).bind fun t346 => (if t346 = true then (spec_TextValid.l0 k x0 (wrap64 (x3 + 1))) else (some false)))) else (none)) else (some (decide ((x0.size : Int) ≤ 20000)))
def spec_TextValid.f (k : Nat) (a0 : ByteArray) : Option (Bool) := spec_TextValid.l0 k a0 0
set_option maxHeartbeats 8000000 in
set_option maxRecDepth 100000 in
theorem spec_TextValid.calls (k : Nat) (a0 : ByteArray) (r : Bool) (w : World) (h : spec_TextValid.f k a0 = some r) :
    Calls Tryz.prog 110 #[.string a0] w fun e w' => e = .returned (.bool r) ∧ Drawn0 w w' := by
  have H : (spec_TextValid.l0 k a0 0) = some r := h
  clear h
  have H' := Aside0.mk H
  clear H
  go_enter Tryz.func110, Tryz.ntmps110
  go_wp2
  go_loopg [3] k (fun kq v3 w' => ∃ (x3_1 : Int), v3 = .int .i64 x3_1 ∧ Aside0 (spec_TextValid.l0 kq a0 x3_1 = some r) ∧ Aside0 (kq ≤ k) ∧ Drawn0 w w')
  case atStart => exact ⟨(0), (by first | rfl | simp [*]), H', ⟨Nat.le_refl _⟩, by repeat (first | exact Drawn0.refl _ | apply Drawn0.step)⟩
  case round =>
    clear H'
    try clear c1
    obtain ⟨x3_1, rfl, HA, HK1, ⟨m1, rfl⟩⟩ := hrel
    cases gk with
    | zero => exact absurd HA.out (by simp [spec_TextValid.l0])
    | succ k1 =>
      have H := HA.out
      clear HA
      simp only [spec_TextValid.l0] at H
      by_cases c2 : x3_1 < (a0.size : Int)
      · rw [if_pos c2] at H
        have c2b0 : decide (x3_1 < (a0.size : Int)) = true := decide_eq_true c2
        clear c2
        by_cases c3 : 0 ≤ x3_1
        · rw [if_pos c3] at H
          have c3b0 : decide (0 ≤ x3_1) = true := decide_eq_true c3
          clear c3
          by_cases c5 : (bt a0 x3_1) = 10
          · rw [if_pos c5] at H
            have c5b0 : ((bt a0 x3_1) == 10) = true := beq_iff_eq.mpr c5
            have c5b1 : ((bt a0 x3_1) != 10) = false := bne_eq_false_iff_eq.mpr c5
            clear c5
            have H' := Aside0.mk H
            clear H
            have p4 : 0 ≤ (x3_1 : Int) := of_decide_eq_true (by assumption)
            have q4 : x3_1 < (a0.size : Int) := of_decide_eq_true (by assumption)
            have hx4 := bt_at a0 x3_1
            replace p4 := eq_true p4
            replace q4 := eq_true q4
            go_wp2
            go_roundg k1
            case measure => have := HK1.out; omega
            case rel => exact ⟨(wrap64 (x3_1 + 1)), (by first | rfl | simp [*]), H', ⟨by have := HK1.out; omega⟩, by repeat (first | exact Drawn0.refl _ | apply Drawn0.step)⟩
          · rw [if_neg c5] at H
            have c5b0 : ((bt a0 x3_1) == 10) = false := beq_eq_false_iff_ne.mpr c5
            have c5b1 : ((bt a0 x3_1) != 10) = true := bne_iff_ne.mpr c5
            replace H := Option.bind_eq_some_iff.mp H
            obtain ⟨t346, A70, H⟩ := H
            replace H : (if t346 = true then (spec_TextValid.l0 k1 a0 (wrap64 (x3_1 + 1))) else (some false)) = some r := H
            have A7 := Aside0.mk A70
            clear A70
            have HU_ := Aside0.mk H
            clear H
            have p4 : 0 ≤ (x3_1 : Int) := of_decide_eq_true (by assumption)
            have q4 : x3_1 < (a0.size : Int) := of_decide_eq_true (by assumption)
            have hx4 := bt_at a0 x3_1
            replace p4 := eq_true p4
            replace q4 := eq_true q4
            have p6 : 0 ≤ (x3_1 : Int) := of_decide_eq_true (by assumption)
            have q6 : x3_1 < (a0.size : Int) := of_decide_eq_true (by assumption)
            have hx6 := bt_at a0 x3_1
            replace p6 := eq_true p6
            replace q6 := eq_true q6
            go_upto_if 21 with (first | (go_at_call 70; (with_reducible refine (spec_l1In.calls (wrap64 (bt a0 x3_1)) 32 126 t346 _ A7.out).mono ?_); rintro e w' ⟨rfl, ⟨nd, rfl⟩⟩))
            (try simp only [Act.put, List.setIfInBounds_toArray, List.set_cons_zero, List.set_cons_succ])
            have H := HU_.out
            clear HU_
            by_cases c8 : t346 = true
            · subst c8
              have H1 : (spec_TextValid.l0 k1 a0 (wrap64 (x3_1 + 1))) = some r := by rw [if_pos rfl] at H; exact H
              clear H
              have H := H1
              clear H1
              have H' := Aside0.mk H
              clear H
              go_wp2
              go_roundg k1
              case measure => have := HK1.out; omega
              case rel => exact ⟨(wrap64 (x3_1 + 1)), (by first | rfl | simp [*]), H', ⟨by have := HK1.out; omega⟩, by repeat (first | exact Drawn0.refl _ | apply Drawn0.step)⟩
            · replace c8 := Bool.eq_false_iff.mpr c8
              subst c8
              have H1 : (some false) = some r := by rw [if_neg (show ¬ (false = true) by decide)] at H; exact H
              clear H
              have H := H1
              clear H1
              obtain rfl := Option.some.inj H
              go_wp2
              go_ret
              exact ⟨by first | rfl | (simp; done) | (simp [*]; done), by repeat (first | exact Drawn0.refl _ | apply Drawn0.step)⟩
        · rw [if_neg c3] at H
          exact absurd H (by simp)
      · rw [if_neg c2] at H
        have c2b0 : decide (x3_1 < (a0.size : Int)) = false := decide_eq_false c2
        clear c2
        obtain rfl := Option.some.inj H
        go_wp2
        go_ret
        exact ⟨by first | rfl | (simp; done) | (simp [*]; done), by repeat (first | exact Drawn0.refl _ | apply Drawn0.step)⟩
def spec_l1Has.l0 : Nat → ByteArray → Int → Int → Option (Bool)
  | 0, _, _, _ => none
  | k + 1, x0, x1, x5 => if x5 < (x0.size : Int) then (if 0 ≤ x5 then (if (bt x0 x5) = x1 then (some true) else (spec_l1Has.l0 k x0 x1 (wrap64 (x5 + 1)))) else (none)) else (some false)
def spec_l1Has.f (k : Nat) (a0 : ByteArray) (a1 : Int) : Option (Bool) := spec_l1Has.l0 k a0 a1 0
set_option maxHeartbeats 8000000 in
set_option maxRecDepth 100000 in
theorem spec_l1Has.calls (k : Nat) (a0 : ByteArray) (a1 : Int) (r : Bool) (w : World) (h : spec_l1Has.f k a0 a1 = some r) :
    Calls Tryz.prog 111 #[.string a0, .int .u8 a1] w fun e w' => e = .returned (.bool r) ∧ Drawn0 w w' := by
  have H : (spec_l1Has.l0 k a0 a1 0) = some r := h
  clear h
  have H' := Aside0.mk H
  clear H
  go_enter Tryz.func111, Tryz.ntmps111
  go_wp2
  go_loopg [5] k (fun kq v5 w' => ∃ (x5_1 : Int), v5 = .int .i64 x5_1 ∧ Aside0 (spec_l1Has.l0 kq a0 a1 x5_1 = some r) ∧ Aside0 (kq ≤ k) ∧ Drawn0 w w')
  case atStart => exact ⟨(0), (by first | rfl | simp [*]), H', ⟨Nat.le_refl _⟩, by repeat (first | exact Drawn0.refl _ | apply Drawn0.step)⟩
  case round =>
    clear H'
    try clear c1
    try clear p2
    obtain ⟨x5_1, rfl, HA, HK1, ⟨m1, rfl⟩⟩ := hrel
    cases gk with
    | zero => exact absurd HA.out (by simp [spec_l1Has.l0])
    | succ k1 =>
      have H := HA.out
      clear HA
      simp only [spec_l1Has.l0] at H
      by_cases c3 : x5_1 < (a0.size : Int)
      · rw [if_pos c3] at H
        have c3b0 : decide (x5_1 < (a0.size : Int)) = true := decide_eq_true c3
        clear c3
        by_cases c4 : 0 ≤ x5_1
        · rw [if_pos c4] at H
          have c4b0 : decide (0 ≤ x5_1) = true := decide_eq_true c4
          clear c4
          by_cases c6 : (bt a0 x5_1) = a1
          · rw [if_pos c6] at H
            have c6b0 : ((bt a0 x5_1) == a1) = true := beq_iff_eq.mpr c6
            have c6b1 : ((bt a0 x5_1) != a1) = false := bne_eq_false_iff_eq.mpr c6
            clear c6
            obtain rfl := Option.some.inj H
            have p5 : 0 ≤ (x5_1 : Int) := of_decide_eq_true (by assumption)
            have q5 : x5_1 < (a0.size : Int) := of_decide_eq_true (by assumption)
            have hx5 := bt_at a0 x5_1
            replace p5 := eq_true p5
            replace q5 := eq_true q5
            go_wp2
            go_ret
            exact ⟨by first | rfl | (simp; done) | (simp [*]; done), by repeat (first | exact Drawn0.refl _ | apply Drawn0.step)⟩
          · rw [if_neg c6] at H
            have c6b0 : ((bt a0 x5_1) == a1) = false := beq_eq_false_iff_ne.mpr c6
            have c6b1 : ((bt a0 x5_1) != a1) = true := bne_iff_ne.mpr c6
            have H' := Aside0.mk H
            clear H
            have p5 : 0 ≤ (x5_1 : Int) := of_decide_eq_true (by assumption)
            have q5 : x5_1 < (a0.size : Int) := of_decide_eq_true (by assumption)
            have hx5 := bt_at a0 x5_1
            replace p5 := eq_true p5
            replace q5 := eq_true q5
            go_wp2
            go_roundg k1
            case measure => have := HK1.out; omega
            case rel => exact ⟨(wrap64 (x5_1 + 1)), (by first | rfl | simp [*]), H', ⟨by have := HK1.out; omega⟩, by repeat (first | exact Drawn0.refl _ | apply Drawn0.step)⟩
        · rw [if_neg c4] at H
          exact absurd H (by simp)
      · rw [if_neg c3] at H
        have c3b0 : decide (x5_1 < (a0.size : Int)) = false := decide_eq_false c3
        clear c3
        obtain rfl := Option.some.inj H
        go_wp2
        go_ret
        exact ⟨by first | rfl | (simp; done) | (simp [*]; done), by repeat (first | exact Drawn0.refl _ | apply Drawn0.step)⟩
end Go.Proofs.YtjdlepjgniokdaaGreatDoor.PA

end
section

namespace Go.Proofs.YtjdlepjgniokdaaGreatDoor.PA
open Go.RowKit Go.Proofs.YtjdlepjgniokdaaGreatDoorW.PrintWords Go.Proofs.YtjdlepjgniokdaaGreatDoorW.PrintLast Go.Proofs.YtjdlepjgniokdaaGreatDoorW.PrintMore
attribute [local go_sem] max2_int min2_int max_two min_two max_three min_three max_four min_four
set_option linter.unusedVariables false
set_option linter.unusedSimpArgs false
mutual
def spec_l5Binary.j0 : Nat → ByteArray → Bool → Option (Int)
  | 0, _, _ => none
  | k + 1, x3, x8 => if x8 = true then (some 4) else (if x3.toList = ([43] : List UInt8) then (spec_l5Binary.j1 k x3 (x3.toList == ([43] : List UInt8))) else (spec_l5Binary.j1 k x3 (x3.toList == ([45] : List UInt8))))
def spec_l5Binary.j1 : Nat → ByteArray → Bool → Option (Int)
  | 0, _, _ => none
  | k + 1, x3, x15 => if x15 = true then (some 5) else (if x3.toList = ([42] : List UInt8) then (some 6) else (if x3.toList = ([47] : List UInt8) then (some 6) else (if x3.toList = ([37] : List UInt8) then (some 6) else (some 0))))
end
def spec_l5Binary.f (k : Nat) (a0 : ByteArray) : Option (Int) := if a0.toList = ([124, 124] : List UInt8) then (some 2) else (if a0.toList = ([38, 38] : List UInt8) then (some 3) else (if a0.toList = ([61, 61] : List UInt8) then (spec_l5Binary.j0 k a0 (a0.toList == ([61, 61] : List UInt8))) else (if a0.toList = ([33, 61] : List UInt8) then (spec_l5Binary.j0 k a0 (a0.toList == ([33, 61] : List UInt8))) else (if a0.toList = ([60] : List UInt8) then (spec_l5Binary.j0 k a0 (a0.toList == ([60] : List UInt8))) else (if a0.toList = ([60, 61] : List UInt8) then (spec_l5Binary.j0 k a0 (a0.toList == ([60, 61] : List UInt8))) else (if a0.toList = ([62] : List UInt8) then (spec_l5Binary.j0 k a0 (a0.toList == ([62] : List UInt8))) else (spec_l5Binary.j0 k a0 (a0.toList == ([62, 61] : List UInt8)))))))))
set_option maxHeartbeats 8000000 in
set_option maxRecDepth 100000 in
theorem spec_l5Binary.calls (k : Nat) (a0 : ByteArray) (r : Int) (w : World) (h : spec_l5Binary.f k a0 = some r) :
    Calls Tryz.prog 112 #[.string a0] w fun e w' => e = .returned (.int .i64 r) ∧ Drawn0 w w' := by
  have H : (if a0.toList = ([124, 124] : List UInt8) then (some 2) else (if a0.toList = ([38, 38] : List UInt8) then (some 3) else (if a0.toList = ([61, 61] : List UInt8) then (spec_l5Binary.j0 k a0 (a0.toList == ([61, 61] : List UInt8))) else (if a0.toList = ([33, 61] : List UInt8) then (spec_l5Binary.j0 k a0 (a0.toList == ([33, 61] : List UInt8))) else (if a0.toList = ([60] : List UInt8) then (spec_l5Binary.j0 k a0 (a0.toList == ([60] : List UInt8))) else (if a0.toList = ([60, 61] : List UInt8) then (spec_l5Binary.j0 k a0 (a0.toList == ([60, 61] : List UInt8))) else (if a0.toList = ([62] : List UInt8) then (spec_l5Binary.j0 k a0 (a0.toList == ([62] : List UInt8))) else (spec_l5Binary.j0 k a0 (a0.toList == ([62, 61] : List UInt8)))))))))) = some r := h
  clear h
  by_cases c2 : a0.toList = ([124, 124] : List UInt8)
  · rw [if_pos c2] at H
    have c2b0 : (a0.toList == ([124, 124] : List UInt8)) = true := beq_iff_eq.mpr c2
    have c2b1 : (a0.toList != ([124, 124] : List UInt8)) = false := bne_eq_false_iff_eq.mpr c2
    clear c2
    obtain rfl := Option.some.inj H
    go_enter Tryz.func112, Tryz.ntmps112
    go_wp2
    go_ret
    exact ⟨by first | rfl | (simp; done) | (simp [*]; done), by repeat (first | exact Drawn0.refl _ | apply Drawn0.step)⟩
  · rw [if_neg c2] at H
    have c2b0 : (a0.toList == ([124, 124] : List UInt8)) = false := beq_eq_false_iff_ne.mpr c2
    have c2b1 : (a0.toList != ([124, 124] : List UInt8)) = true := bne_iff_ne.mpr c2
    by_cases c3 : a0.toList = ([38, 38] : List UInt8)
    · rw [if_pos c3] at H
      have c3b0 : (a0.toList == ([38, 38] : List UInt8)) = true := beq_iff_eq.mpr c3
      have c3b1 : (a0.toList != ([38, 38] : List UInt8)) = false := bne_eq_false_iff_eq.mpr c3
      clear c3
      obtain rfl := Option.some.inj H
      go_enter Tryz.func112, Tryz.ntmps112
      go_wp2
      go_ret
      exact ⟨by first | rfl | (simp; done) | (simp [*]; done), by repeat (first | exact Drawn0.refl _ | apply Drawn0.step)⟩
    · rw [if_neg c3] at H
      have c3b0 : (a0.toList == ([38, 38] : List UInt8)) = false := beq_eq_false_iff_ne.mpr c3
      have c3b1 : (a0.toList != ([38, 38] : List UInt8)) = true := bne_iff_ne.mpr c3
      have HC4 := Aside0.mk H
      clear H
      go_enter Tryz.func112, Tryz.ntmps112
      go_upto_if 8 with (fail)
      go_cut [8] (fun v8 wc => ∃ (kq : Nat) (x8_3 : Bool), v8 = .bool x8_3 ∧ Aside0 (spec_l5Binary.j0 kq a0 x8_3 = some r) ∧ Aside0 (kq ≤ k) ∧ Drawn0 w wc)
      case first =>
        have H := HC4.out
        clear HC4
        by_cases c5 : a0.toList = ([61, 61] : List UInt8)
        · rw [if_pos c5] at H
          have c5b0 : (a0.toList == ([61, 61] : List UInt8)) = true := beq_iff_eq.mpr c5
          have c5b1 : (a0.toList != ([61, 61] : List UInt8)) = false := bne_eq_false_iff_eq.mpr c5
          clear c5
          (first | rw [c5b0] | (simp only [i64_w, i32_w]; rw [c5b0]) | rw [c5b1] | skip)
          have H' := Aside0.mk H
          clear H
          go_wp2
          go_meet
          case rel => exact ⟨_, ((a0.toList == ([61, 61] : List UInt8))), (by first | rfl | simp [*]), H', ⟨by first | omega | exact Nat.le_refl _⟩, by repeat (first | exact Drawn0.refl _ | apply Drawn0.step)⟩
        · rw [if_neg c5] at H
          have c5b0 : (a0.toList == ([61, 61] : List UInt8)) = false := beq_eq_false_iff_ne.mpr c5
          have c5b1 : (a0.toList != ([61, 61] : List UInt8)) = true := bne_iff_ne.mpr c5
          (first | rw [c5b0] | (simp only [i64_w, i32_w]; rw [c5b0]) | rw [c5b1] | skip)
          by_cases c6 : a0.toList = ([33, 61] : List UInt8)
          · rw [if_pos c6] at H
            have c6b0 : (a0.toList == ([33, 61] : List UInt8)) = true := beq_iff_eq.mpr c6
            have c6b1 : (a0.toList != ([33, 61] : List UInt8)) = false := bne_eq_false_iff_eq.mpr c6
            clear c6
            have H' := Aside0.mk H
            clear H
            go_wp2
            go_meet
            case rel => exact ⟨_, ((a0.toList == ([33, 61] : List UInt8))), (by first | rfl | simp [*]), H', ⟨by first | omega | exact Nat.le_refl _⟩, by repeat (first | exact Drawn0.refl _ | apply Drawn0.step)⟩
          · rw [if_neg c6] at H
            have c6b0 : (a0.toList == ([33, 61] : List UInt8)) = false := beq_eq_false_iff_ne.mpr c6
            have c6b1 : (a0.toList != ([33, 61] : List UInt8)) = true := bne_iff_ne.mpr c6
            by_cases c7 : a0.toList = ([60] : List UInt8)
            · rw [if_pos c7] at H
              have c7b0 : (a0.toList == ([60] : List UInt8)) = true := beq_iff_eq.mpr c7
              have c7b1 : (a0.toList != ([60] : List UInt8)) = false := bne_eq_false_iff_eq.mpr c7
              clear c7
              have H' := Aside0.mk H
              clear H
              go_wp2
              go_meet
              case rel => exact ⟨_, ((a0.toList == ([60] : List UInt8))), (by first | rfl | simp [*]), H', ⟨by first | omega | exact Nat.le_refl _⟩, by repeat (first | exact Drawn0.refl _ | apply Drawn0.step)⟩
            · rw [if_neg c7] at H
              have c7b0 : (a0.toList == ([60] : List UInt8)) = false := beq_eq_false_iff_ne.mpr c7
              have c7b1 : (a0.toList != ([60] : List UInt8)) = true := bne_iff_ne.mpr c7
              by_cases c8 : a0.toList = ([60, 61] : List UInt8)
              · rw [if_pos c8] at H
                have c8b0 : (a0.toList == ([60, 61] : List UInt8)) = true := beq_iff_eq.mpr c8
                have c8b1 : (a0.toList != ([60, 61] : List UInt8)) = false := bne_eq_false_iff_eq.mpr c8
                clear c8
                have H' := Aside0.mk H
                clear H
                go_wp2
                go_meet
                case rel => exact ⟨_, ((a0.toList == ([60, 61] : List UInt8))), (by first | rfl | simp [*]), H', ⟨by first | omega | exact Nat.le_refl _⟩, by repeat (first | exact Drawn0.refl _ | apply Drawn0.step)⟩
              · rw [if_neg c8] at H
                have c8b0 : (a0.toList == ([60, 61] : List UInt8)) = false := beq_eq_false_iff_ne.mpr c8
                have c8b1 : (a0.toList != ([60, 61] : List UInt8)) = true := bne_iff_ne.mpr c8
                by_cases c9 : a0.toList = ([62] : List UInt8)
                · rw [if_pos c9] at H
                  have c9b0 : (a0.toList == ([62] : List UInt8)) = true := beq_iff_eq.mpr c9
                  have c9b1 : (a0.toList != ([62] : List UInt8)) = false := bne_eq_false_iff_eq.mpr c9
                  clear c9
                  have H' := Aside0.mk H
                  clear H
                  go_wp2
                  go_meet
                  case rel => exact ⟨_, ((a0.toList == ([62] : List UInt8))), (by first | rfl | simp [*]), H', ⟨by first | omega | exact Nat.le_refl _⟩, by repeat (first | exact Drawn0.refl _ | apply Drawn0.step)⟩
                · rw [if_neg c9] at H
                  have c9b0 : (a0.toList == ([62] : List UInt8)) = false := beq_eq_false_iff_ne.mpr c9
                  have c9b1 : (a0.toList != ([62] : List UInt8)) = true := bne_iff_ne.mpr c9
                  have H' := Aside0.mk H
                  clear H
                  go_wp2
                  go_meet
                  case rel => exact ⟨_, ((a0.toList == ([62, 61] : List UInt8))), (by first | rfl | simp [*]), H', ⟨by first | omega | exact Nat.le_refl _⟩, by repeat (first | exact Drawn0.refl _ | apply Drawn0.step)⟩
      case rest =>
        clear HC4
        try clear c1
        try clear c2
        try clear c2b0
        try clear c2b1
        try clear p2
        try clear c3
        try clear c3b0
        try clear c3b1
        try clear c5
        try clear c5b0
        try clear c5b1
        try clear c6
        try clear c6b0
        try clear c6b1
        try clear c7
        try clear c7b0
        try clear c7b1
        try clear c8
        try clear c8b0
        try clear c8b1
        try clear c9
        try clear c9b0
        try clear c9b1
        obtain ⟨kq, x8_3, rfl, HA, HJ3, ⟨mc3, rfl⟩⟩ := hcut
        cases kq with
        | zero => exact absurd HA.out (by simp [spec_l5Binary.j0])
        | succ kj3 =>
          have H := HA.out
          clear HA
          simp only [spec_l5Binary.j0] at H
          by_cases c10 : x8_3 = true
          · subst c10
            have H1 : (some 4) = some r := by rw [if_pos rfl] at H; exact H
            clear H
            have H := H1
            clear H1
            obtain rfl := Option.some.inj H
            go_wp2
            go_ret
            exact ⟨by first | rfl | (simp; done) | (simp [*]; done), by repeat (first | exact Drawn0.refl _ | apply Drawn0.step)⟩
          · replace c10 := Bool.eq_false_iff.mpr c10
            subst c10
            have H1 : (if a0.toList = ([43] : List UInt8) then (spec_l5Binary.j1 kj3 a0 (a0.toList == ([43] : List UInt8))) else (spec_l5Binary.j1 kj3 a0 (a0.toList == ([45] : List UInt8)))) = some r := by rw [if_neg (show ¬ (false = true) by decide)] at H; exact H
            clear H
            have H := H1
            clear H1
            have HC11 := Aside0.mk H
            clear H
            go_upto_if 15 with (fail)
            go_cut [15] (fun v15 wc => ∃ (kq : Nat) (x15_10 : Bool), v15 = .bool x15_10 ∧ Aside0 (spec_l5Binary.j1 kq a0 x15_10 = some r) ∧ Aside0 (kq ≤ kj3) ∧ Drawn0 w wc)
            case first =>
              have H := HC11.out
              clear HC11
              by_cases c12 : a0.toList = ([43] : List UInt8)
              · rw [if_pos c12] at H
                have c12b0 : (a0.toList == ([43] : List UInt8)) = true := beq_iff_eq.mpr c12
                have c12b1 : (a0.toList != ([43] : List UInt8)) = false := bne_eq_false_iff_eq.mpr c12
                clear c12
                (first | rw [c12b0] | (simp only [i64_w, i32_w]; rw [c12b0]) | rw [c12b1] | skip)
                have H' := Aside0.mk H
                clear H
                go_wp2
                go_meet
                case rel => exact ⟨_, ((a0.toList == ([43] : List UInt8))), (by first | rfl | simp [*]), H', ⟨by have := HJ3.out; first | omega | exact Nat.le_refl _⟩, by repeat (first | exact Drawn0.refl _ | apply Drawn0.step)⟩
              · rw [if_neg c12] at H
                have c12b0 : (a0.toList == ([43] : List UInt8)) = false := beq_eq_false_iff_ne.mpr c12
                have c12b1 : (a0.toList != ([43] : List UInt8)) = true := bne_iff_ne.mpr c12
                (first | rw [c12b0] | (simp only [i64_w, i32_w]; rw [c12b0]) | rw [c12b1] | skip)
                have H' := Aside0.mk H
                clear H
                go_wp2
                go_meet
                case rel => exact ⟨_, ((a0.toList == ([45] : List UInt8))), (by first | rfl | simp [*]), H', ⟨by have := HJ3.out; first | omega | exact Nat.le_refl _⟩, by repeat (first | exact Drawn0.refl _ | apply Drawn0.step)⟩
            case rest =>
              clear HC11
              try clear c1
              try clear c2
              try clear c2b0
              try clear c2b1
              try clear p2
              try clear c3
              try clear c3b0
              try clear c3b1
              try clear c5
              try clear c5b0
              try clear c5b1
              try clear c6
              try clear c6b0
              try clear c6b1
              try clear c7
              try clear c7b0
              try clear c7b1
              try clear c8
              try clear c8b0
              try clear c8b1
              try clear c9
              try clear c9b0
              try clear c9b1
              try clear c10
              try clear c11
              try clear c12
              try clear c12b0
              try clear c12b1
              try clear p2
              obtain ⟨kq, x15_10, rfl, HA, HJ10, ⟨mc10, rfl⟩⟩ := hcut
              cases kq with
              | zero => exact absurd HA.out (by simp [spec_l5Binary.j1])
              | succ kj10 =>
                have H := HA.out
                clear HA
                simp only [spec_l5Binary.j1] at H
                by_cases c13 : x15_10 = true
                · subst c13
                  have H1 : (some 5) = some r := by rw [if_pos rfl] at H; exact H
                  clear H
                  have H := H1
                  clear H1
                  obtain rfl := Option.some.inj H
                  go_wp2
                  go_ret
                  exact ⟨by first | rfl | (simp; done) | (simp [*]; done), by repeat (first | exact Drawn0.refl _ | apply Drawn0.step)⟩
                · replace c13 := Bool.eq_false_iff.mpr c13
                  subst c13
                  have H1 : (if a0.toList = ([42] : List UInt8) then (some 6) else (if a0.toList = ([47] : List UInt8) then (some 6) else (if a0.toList = ([37] : List UInt8) then (some 6) else (some 0)))) = some r := by rw [if_neg (show ¬ (false = true) by decide)] at H; exact H
                  clear H
                  have H := H1
                  clear H1
                  by_cases c14 : a0.toList = ([42] : List UInt8)
                  · rw [if_pos c14] at H
                    have c14b0 : (a0.toList == ([42] : List UInt8)) = true := beq_iff_eq.mpr c14
                    have c14b1 : (a0.toList != ([42] : List UInt8)) = false := bne_eq_false_iff_eq.mpr c14
                    clear c14
                    obtain rfl := Option.some.inj H
                    go_wp2
                    go_ret
                    exact ⟨by first | rfl | (simp; done) | (simp [*]; done), by repeat (first | exact Drawn0.refl _ | apply Drawn0.step)⟩
                  · rw [if_neg c14] at H
                    have c14b0 : (a0.toList == ([42] : List UInt8)) = false := beq_eq_false_iff_ne.mpr c14
                    have c14b1 : (a0.toList != ([42] : List UInt8)) = true := bne_iff_ne.mpr c14
                    by_cases c15 : a0.toList = ([47] : List UInt8)
                    · rw [if_pos c15] at H
                      have c15b0 : (a0.toList == ([47] : List UInt8)) = true := beq_iff_eq.mpr c15
                      have c15b1 : (a0.toList != ([47] : List UInt8)) = false := bne_eq_false_iff_eq.mpr c15
                      clear c15
                      obtain rfl := Option.some.inj H
                      go_wp2
                      go_ret
                      exact ⟨by first | rfl | (simp; done) | (simp [*]; done), by repeat (first | exact Drawn0.refl _ | apply Drawn0.step)⟩
                    · rw [if_neg c15] at H
                      have c15b0 : (a0.toList == ([47] : List UInt8)) = false := beq_eq_false_iff_ne.mpr c15
                      have c15b1 : (a0.toList != ([47] : List UInt8)) = true := bne_iff_ne.mpr c15
                      by_cases c16 : a0.toList = ([37] : List UInt8)
                      · rw [if_pos c16] at H
                        have c16b0 : (a0.toList == ([37] : List UInt8)) = true := beq_iff_eq.mpr c16
                        have c16b1 : (a0.toList != ([37] : List UInt8)) = false := bne_eq_false_iff_eq.mpr c16
                        clear c16
                        obtain rfl := Option.some.inj H
                        go_wp2
                        go_ret
                        exact ⟨by first | rfl | (simp; done) | (simp [*]; done), by repeat (first | exact Drawn0.refl _ | apply Drawn0.step)⟩
                      · rw [if_neg c16] at H
                        have c16b0 : (a0.toList == ([37] : List UInt8)) = false := beq_eq_false_iff_ne.mpr c16
                        have c16b1 : (a0.toList != ([37] : List UInt8)) = true := bne_iff_ne.mpr c16
                        obtain rfl := Option.some.inj H
                        go_wp2
                        go_ret
                        exact ⟨by first | rfl | (simp; done) | (simp [*]; done), by repeat (first | exact Drawn0.refl _ | apply Drawn0.step)⟩
end Go.Proofs.YtjdlepjgniokdaaGreatDoor.PA

end
section

namespace Go.Proofs.YtjdlepjgniokdaaGreatDoor.PA
open Go.RowKit Go.Proofs.YtjdlepjgniokdaaGreatDoorW.PrintWords Go.Proofs.YtjdlepjgniokdaaGreatDoorW.PrintLast Go.Proofs.YtjdlepjgniokdaaGreatDoorW.PrintMore
attribute [local go_sem] max2_int min2_int max_two min_two max_three min_three max_four min_four
set_option linter.unusedVariables false
set_option linter.unusedSimpArgs false
def spec_CellValid.f (k : Nat) (a0_0 : Int) (a0_1 : ByteArray) (a0_2 : Int) : Option (Bool) := if a0_0 = 1 then ((spec_ReadFraction.f k a0_1).bind fun bt348 => (if bt348.2.2 = true then (if bt348.1 ≥ 0 then (if bt348.2.1 = 0 then (none) else (if ((1000000 : Int) % bt348.2.1) = 0 then (some (a0_2 == 0)) else (some false))) else (some false)) else (some false))) else (if a0_0 = 2 then ((spec_TextValid.f k a0_1).bind fun t352 => (if t352 = true then (if (a0_1.size : Int) ≤ 60 then (some (a0_2 == 0)) else (some false)) else (some false))) else (if a0_0 = 3 then (if a0_1.toList = ([116, 114, 117, 101] : List UInt8) then (some (a0_2 == 0)) else (if a0_1.toList = ([102, 97, 108, 115, 101] : List UInt8) then (some (a0_2 == 0)) else (some false))) else (if a0_0 = 4 then ((spec_NameValid.f k a0_1).bind fun t353 => (if t353 = true then (if (a0_1.size : Int) ≤ 60 then (some (a0_2 == 0)) else (some false)) else (some false))) else (if a0_0 = 5 then (if a0_1.toList = ([] : List UInt8) then ((spec_l1In.f a0_2 0 8).bind fun t354 => (some t354)) else (some false)) else (if a0_0 = 6 then ((spec_NameValid.f k a0_1).bind fun t355 => (if t355 = true then ((spec_l1Has.f k a0_1 46).bind fun t356 => (if t356 = true then (some false) else ((spec_l1In.f a0_2 0 8).bind fun t357 => (some t357)))) else (some false))) else (if a0_0 = 7 then (if a0_1.toList = ([33] : List UInt8) then (some (a0_2 == 1)) else (if a0_1.toList = ([45] : List UInt8) then (some (a0_2 == 1)) else (some false))) else (if a0_0 = 8 then ((spec_l5Binary.f k a0_1).bind fun t358 => (if t358 > 0 then (some (a0_2 == 2)) else (some false))) else (if a0_0 = 9 then (if a0_1.toList = ([] : List UInt8) then (some (a0_2 == 3)) else (some false)) else (some false)))))))))
set_option maxHeartbeats 8000000 in
set_option maxRecDepth 100000 in
theorem spec_CellValid.calls (k : Nat) (a0_0 : Int) (a0_1 : ByteArray) (a0_2 : Int) (r : Bool) (w : World) (h : spec_CellValid.f k a0_0 a0_1 a0_2 = some r) :
    Calls Tryz.prog 72 #[.agg #[.int .i64 a0_0, .string a0_1, .int .i64 a0_2]] w fun e w' => e = .returned (.bool r) ∧ Below w.heap.size w w' := by
  have hu27 := Tryz.underlying27
  have hu76 := Tryz.underlying76
  have HB := Aside0.mk (Below.refl w.heap.size w)
  have H : (if a0_0 = 1 then ((spec_ReadFraction.f k a0_1).bind fun bt348 => (if bt348.2.2 = true then (if bt348.1 ≥ 0 then (if bt348.2.1 = 0 then (none) else (if ((1000000 : Int) % bt348.2.1) = 0 then (some (a0_2 == 0)) else (some false))) else (some false)) else (some false))) else (if a0_0 = 2 then ((spec_TextValid.f k a0_1).bind fun t352 => (if t352 = true then (if (a0_1.size : Int) ≤ 60 then (some (a0_2 == 0)) else (some false)) else (some false))) else (if a0_0 = 3 then (if a0_1.toList = ([116, 114, 117, 101] : List UInt8) then (some (a0_2 == 0)) else (if a0_1.toList = ([102, 97, 108, 115, 101] : List UInt8) then (some (a0_2 == 0)) else (some false))) else (if a0_0 = 4 then ((spec_NameValid.f k a0_1).bind fun t353 => (if t353 = true then (if (a0_1.size : Int) ≤ 60 then (some (a0_2 == 0)) else (some false)) else (some false))) else (if a0_0 = 5 then (if a0_1.toList = ([] : List UInt8) then ((spec_l1In.f a0_2 0 8).bind fun t354 => (some t354)) else (some false)) else (if a0_0 = 6 then ((spec_NameValid.f k a0_1).bind fun t355 => (if t355 = true then ((spec_l1Has.f k a0_1 46).bind fun t356 => (if t356 = true then (some false) else ((spec_l1In.f a0_2 0 8).bind fun t357 => (some t357)))) else (some false))) else (if a0_0 = 7 then (if a0_1.toList = ([33] : List UInt8) then (some (a0_2 == 1)) else (if a0_1.toList = ([45] : List UInt8) then (some (a0_2 == 1)) else (some false))) else (if a0_0 = 8 then ((spec_l5Binary.f k a0_1).bind fun t358 => (if t358 > 0 then (some (a0_2 == 2)) else (some false))) else (if a0_0 = 9 then (if a0_1.toList = ([] : List UInt8) then (some (a0_2 == 3)) else (some false)) else (some false)))))))))) = some r := h
  clear h
  have HU_ := Aside0.mk H
  clear H
  go_enter Tryz.func72, Tryz.ntmps72
  go_upto_if 7 with (first | ((with_reducible refine gate_dst (N := 1) rfl ?_); (try (refine gate_guard (by rfl) ?_; dsimp only)); refine box_event ?hg (N := 1) ?hd (cs := #[.int .i64 a0_0, .string a0_1, .int .i64 a0_2]) (t := 27) ?hr ?_; (case hd => rfl); (case hg => rfl); (case hr => first | (go_simp; done) | (go_simp; rfl)); intro gb347 hg w2 hbox hb; have n0_ := Aside0.mk (below_step (bl_ HB.out) hb); have n1_ := Aside0.mk (hbox); have n2_ := Aside0.mk ((by rw [hg]; exact (below_size (bl_ HB.out)) : w.heap.size ≤ gb347)); have n3_ := Aside0.mk ((by rw [hg]; exact (below_size (bl_ HB.out)) : w.heap.size ≤ gb347)); clear HB; have HB := n0_; have BK347 := n1_; have GW347 := n2_; have GE347 := n3_; clear n0_ n1_ n2_ n3_; clear hb hbox hg; have hcz3_0 : w2.cell? ⟨gb347, 0, none⟩ = some (.int .i64 a0_0) := (blk_cell BK347.out 0).trans rfl; have hcz3_1 : w2.cell? ⟨gb347, 1, none⟩ = some (.string a0_1) := (blk_cell BK347.out 1).trans rfl; have hcz3_2 : w2.cell? ⟨gb347, 2, none⟩ = some (.int .i64 a0_2) := (blk_cell BK347.out 2).trans rfl; have hfz3_0 := blk_frozen BK347.out 0; have hfz3_1 := blk_frozen BK347.out 1; have hfz3_2 := blk_frozen BK347.out 2))
  (try simp only [Act.put, List.setIfInBounds_toArray, List.set_cons_zero, List.set_cons_succ])
  have H := HU_.out
  clear HU_
  by_cases c4 : a0_0 = 1
  · rw [if_pos c4] at H
    have c4b0 : (a0_0 == 1) = true := beq_iff_eq.mpr c4
    have c4b1 : (a0_0 != 1) = false := bne_eq_false_iff_eq.mpr c4
    clear c4
    (first | rw [c4b0] | (simp only [i64_w, i32_w]; rw [c4b0]) | rw [c4b1] | skip)
    replace H := Option.bind_eq_some_iff.mp H
    obtain ⟨⟨t348, t349, t350⟩, A50, H⟩ := H
    replace H : (if t350 = true then (if t348 ≥ 0 then (if t349 = 0 then (none) else (if ((1000000 : Int) % t349) = 0 then (some (a0_2 == 0)) else (some false))) else (some false)) else (some false)) = some r := H
    have A5 := Aside0.mk A50
    clear A50
    by_cases c6 : t350 = true
    · subst c6
      have H1 : (if t348 ≥ 0 then (if t349 = 0 then (none) else (if ((1000000 : Int) % t349) = 0 then (some (a0_2 == 0)) else (some false))) else (some false)) = some r := by rw [if_pos rfl] at H; exact H
      clear H
      have H := H1
      clear H1
      by_cases c7 : t348 ≥ 0
      · rw [if_pos c7] at H
        have c7b0 : decide (0 ≤ t348) = true := decide_eq_true c7
        clear c7
        by_cases c8 : t349 = 0
        · rw [if_pos c8] at H
          exact absurd H (by simp)
        · rw [if_neg c8] at H
          have c8b0 : (t349 == 0) = false := beq_eq_false_iff_ne.mpr c8
          have c8b1 : (t349 != 0) = true := bne_iff_ne.mpr c8
          by_cases c9 : ((1000000 : Int) % t349) = 0
          · rw [if_pos c9] at H
            have c9b0 : (((1000000 : Int) % t349) == 0) = true := beq_iff_eq.mpr c9
            have c9b1 : (((1000000 : Int) % t349) != 0) = false := bne_eq_false_iff_eq.mpr c9
            clear c9
            obtain rfl := Option.some.inj H
            have hcz10_0 : w2.cell? ⟨gb347, 0, none⟩ = some (.int .i64 a0_0) := (blk_cell BK347.out 0).trans rfl
            have hcz10_1 : w2.cell? ⟨gb347, 1, none⟩ = some (.string a0_1) := (blk_cell BK347.out 1).trans rfl
            have hcz10_2 : w2.cell? ⟨gb347, 2, none⟩ = some (.int .i64 a0_2) := (blk_cell BK347.out 2).trans rfl
            have hfz10_0 := blk_frozen BK347.out 0
            have hfz10_1 := blk_frozen BK347.out 1
            have hfz10_2 := blk_frozen BK347.out 2
            go_wp2_with (first | ((with_reducible refine gate_callee (f := 62) rfl ?_); refine goesL_ (some 12) rfl rfl Tryz.func62 (by kernel_rfl) rfl #[.string a0_1] rfl (by (try simp only [List.map_toArray, List.map_cons, List.map_nil]); first | done | rfl | (simp only [List.length_drop, List.length_take]; rfl) | (simp only [Int.mul_one, Int.one_mul, Int.add_zero, Int.zero_add, pxw]; rfl)) ?_; (with_reducible refine (spec_ReadFraction.calls k a0_1 t348 t349 true _ A5.out).mono ?_); rintro e w11 ⟨rfl, hb⟩; refine ⟨_, rfl, ?_⟩; have n0_ := Aside0.mk (blk_below (g := gb347) (o := .cells #[.int .i64 a0_0, .string a0_1, .int .i64 a0_2] 27 (0, 0)) (kl_ BK347.out) hb); have n1_ := Aside0.mk (below_step (bl_ HB.out) hb); clear BK347; clear HB; have BK347 := n0_; have HB := n1_; clear n0_ n1_; (try clear hb); (try clear hb2); (try clear hk); (try clear hi)) | ((with_reducible refine gate_dst (N := 3) rfl ?_); (try (refine gate_guard (by rfl) ?_; dsimp only)); refine box_event ?hg (N := 3) ?hd (cs := #[.int .i64 0, .int .i64 0]) (t := 76) ?hr ?_; (case hd => rfl); (case hg => rfl); (case hr => first | (go_simp; done) | (go_simp; rfl)); intro gb351 hg w12 hbox hb; have n0_ := Aside0.mk (blk_below (g := gb347) (o := .cells #[.int .i64 a0_0, .string a0_1, .int .i64 a0_2] 27 (0, 0)) (kl_ BK347.out) hb); have n1_ := Aside0.mk (below_step (bl_ HB.out) hb); have n2_ := Aside0.mk (hbox); have n3_ := Aside0.mk ((by rw [hg]; exact (below_size (bl_ HB.out)) : w.heap.size ≤ gb351)); have n4_ := Aside0.mk ((by rw [hg]; exact (below_size (bl_ HB.out)) : w.heap.size ≤ gb351)); have n5_ := Aside0.mk ((by rw [hg]; exact Nat.ne_of_lt (blk_lt (g := gb347) (o := .cells #[.int .i64 a0_0, .string a0_1, .int .i64 a0_2] 27 (0, 0)) (kl_ BK347.out)) : gb347 ≠ gb351)); have n6_ := Aside0.mk ((by rw [hg]; exact Nat.ne_of_gt (blk_lt (g := gb347) (o := .cells #[.int .i64 a0_0, .string a0_1, .int .i64 a0_2] 27 (0, 0)) (kl_ BK347.out)) : gb351 ≠ gb347)); clear BK347; clear HB; have BK347 := n0_; have HB := n1_; have BK351 := n2_; have GW351 := n3_; have GE351 := n4_; have NB347_351 := n5_; have NB351_347 := n6_; clear n0_ n1_ n2_ n3_ n4_ n5_ n6_; clear hb hbox hg; have hnb13 := NB351_347.out; have hnc13 := NB347_351.out; have hcz14_0 : w12.cell? ⟨gb351, 0, none⟩ = some (.int .i64 0) := (blk_cell BK351.out 0).trans rfl; have hcz14_1 : w12.cell? ⟨gb351, 1, none⟩ = some (.int .i64 0) := (blk_cell BK351.out 1).trans rfl; have hfz14_0 := blk_frozen BK351.out 0; have hfz14_1 := blk_frozen BK351.out 1; have hcz15_0 : w12.cell? ⟨gb347, 0, none⟩ = some (.int .i64 a0_0) := (blk_cell BK347.out 0).trans rfl; have hcz15_1 : w12.cell? ⟨gb347, 1, none⟩ = some (.string a0_1) := (blk_cell BK347.out 1).trans rfl; have hcz15_2 : w12.cell? ⟨gb347, 2, none⟩ = some (.int .i64 a0_2) := (blk_cell BK347.out 2).trans rfl; have hfz15_0 := blk_frozen BK347.out 0; have hfz15_1 := blk_frozen BK347.out 1; have hfz15_2 := blk_frozen BK347.out 2))
            go_ret
            exact ⟨by first | rfl | simp [*], by repeat (first | (with_reducible first | exact HB.out | apply below_alloc | apply pw_below_drewN | apply below_drew1 | refine below_set ?_ GE347.out | refine below_set ?_ GE351.out) | exact HB.out)⟩
          · rw [if_neg c9] at H
            have c9b0 : (((1000000 : Int) % t349) == 0) = false := beq_eq_false_iff_ne.mpr c9
            have c9b1 : (((1000000 : Int) % t349) != 0) = true := bne_iff_ne.mpr c9
            obtain rfl := Option.some.inj H
            have hcz16_0 : w2.cell? ⟨gb347, 0, none⟩ = some (.int .i64 a0_0) := (blk_cell BK347.out 0).trans rfl
            have hcz16_1 : w2.cell? ⟨gb347, 1, none⟩ = some (.string a0_1) := (blk_cell BK347.out 1).trans rfl
            have hcz16_2 : w2.cell? ⟨gb347, 2, none⟩ = some (.int .i64 a0_2) := (blk_cell BK347.out 2).trans rfl
            have hfz16_0 := blk_frozen BK347.out 0
            have hfz16_1 := blk_frozen BK347.out 1
            have hfz16_2 := blk_frozen BK347.out 2
            go_wp2_with (first | ((with_reducible refine gate_callee (f := 62) rfl ?_); refine goesL_ (some 12) rfl rfl Tryz.func62 (by kernel_rfl) rfl #[.string a0_1] rfl (by (try simp only [List.map_toArray, List.map_cons, List.map_nil]); first | done | rfl | (simp only [List.length_drop, List.length_take]; rfl) | (simp only [Int.mul_one, Int.one_mul, Int.add_zero, Int.zero_add, pxw]; rfl)) ?_; (with_reducible refine (spec_ReadFraction.calls k a0_1 t348 t349 true _ A5.out).mono ?_); rintro e w17 ⟨rfl, hb⟩; refine ⟨_, rfl, ?_⟩; have n0_ := Aside0.mk (blk_below (g := gb347) (o := .cells #[.int .i64 a0_0, .string a0_1, .int .i64 a0_2] 27 (0, 0)) (kl_ BK347.out) hb); have n1_ := Aside0.mk (below_step (bl_ HB.out) hb); clear BK347; clear HB; have BK347 := n0_; have HB := n1_; clear n0_ n1_; (try clear hb); (try clear hb2); (try clear hk); (try clear hi)) | ((with_reducible refine gate_dst (N := 3) rfl ?_); (try (refine gate_guard (by rfl) ?_; dsimp only)); refine box_event ?hg (N := 3) ?hd (cs := #[.int .i64 0, .int .i64 0]) (t := 76) ?hr ?_; (case hd => rfl); (case hg => rfl); (case hr => first | (go_simp; done) | (go_simp; rfl)); intro gb351 hg w18 hbox hb; have n0_ := Aside0.mk (blk_below (g := gb347) (o := .cells #[.int .i64 a0_0, .string a0_1, .int .i64 a0_2] 27 (0, 0)) (kl_ BK347.out) hb); have n1_ := Aside0.mk (below_step (bl_ HB.out) hb); have n2_ := Aside0.mk (hbox); have n3_ := Aside0.mk ((by rw [hg]; exact (below_size (bl_ HB.out)) : w.heap.size ≤ gb351)); have n4_ := Aside0.mk ((by rw [hg]; exact (below_size (bl_ HB.out)) : w.heap.size ≤ gb351)); have n5_ := Aside0.mk ((by rw [hg]; exact Nat.ne_of_lt (blk_lt (g := gb347) (o := .cells #[.int .i64 a0_0, .string a0_1, .int .i64 a0_2] 27 (0, 0)) (kl_ BK347.out)) : gb347 ≠ gb351)); have n6_ := Aside0.mk ((by rw [hg]; exact Nat.ne_of_gt (blk_lt (g := gb347) (o := .cells #[.int .i64 a0_0, .string a0_1, .int .i64 a0_2] 27 (0, 0)) (kl_ BK347.out)) : gb351 ≠ gb347)); clear BK347; clear HB; have BK347 := n0_; have HB := n1_; have BK351 := n2_; have GW351 := n3_; have GE351 := n4_; have NB347_351 := n5_; have NB351_347 := n6_; clear n0_ n1_ n2_ n3_ n4_ n5_ n6_; clear hb hbox hg; have hnb19 := NB351_347.out; have hnc19 := NB347_351.out; have hcz20_0 : w18.cell? ⟨gb351, 0, none⟩ = some (.int .i64 0) := (blk_cell BK351.out 0).trans rfl; have hcz20_1 : w18.cell? ⟨gb351, 1, none⟩ = some (.int .i64 0) := (blk_cell BK351.out 1).trans rfl; have hfz20_0 := blk_frozen BK351.out 0; have hfz20_1 := blk_frozen BK351.out 1))
            go_ret
            exact ⟨by first | rfl | simp [*], by repeat (first | (with_reducible first | exact HB.out | apply below_alloc | apply pw_below_drewN | apply below_drew1 | refine below_set ?_ GE347.out | refine below_set ?_ GE351.out) | exact HB.out)⟩
      · rw [if_neg c7] at H
        have c7b0 : decide (0 ≤ t348) = false := decide_eq_false c7
        clear c7
        obtain rfl := Option.some.inj H
        have hcz21_0 : w2.cell? ⟨gb347, 0, none⟩ = some (.int .i64 a0_0) := (blk_cell BK347.out 0).trans rfl
        have hcz21_1 : w2.cell? ⟨gb347, 1, none⟩ = some (.string a0_1) := (blk_cell BK347.out 1).trans rfl
        have hcz21_2 : w2.cell? ⟨gb347, 2, none⟩ = some (.int .i64 a0_2) := (blk_cell BK347.out 2).trans rfl
        have hfz21_0 := blk_frozen BK347.out 0
        have hfz21_1 := blk_frozen BK347.out 1
        have hfz21_2 := blk_frozen BK347.out 2
        go_wp2_with (first | ((with_reducible refine gate_callee (f := 62) rfl ?_); refine goesL_ (some 12) rfl rfl Tryz.func62 (by kernel_rfl) rfl #[.string a0_1] rfl (by (try simp only [List.map_toArray, List.map_cons, List.map_nil]); first | done | rfl | (simp only [List.length_drop, List.length_take]; rfl) | (simp only [Int.mul_one, Int.one_mul, Int.add_zero, Int.zero_add, pxw]; rfl)) ?_; (with_reducible refine (spec_ReadFraction.calls k a0_1 t348 t349 true _ A5.out).mono ?_); rintro e w22 ⟨rfl, hb⟩; refine ⟨_, rfl, ?_⟩; have n0_ := Aside0.mk (blk_below (g := gb347) (o := .cells #[.int .i64 a0_0, .string a0_1, .int .i64 a0_2] 27 (0, 0)) (kl_ BK347.out) hb); have n1_ := Aside0.mk (below_step (bl_ HB.out) hb); clear BK347; clear HB; have BK347 := n0_; have HB := n1_; clear n0_ n1_; (try clear hb); (try clear hb2); (try clear hk); (try clear hi)) | ((with_reducible refine gate_dst (N := 3) rfl ?_); (try (refine gate_guard (by rfl) ?_; dsimp only)); refine box_event ?hg (N := 3) ?hd (cs := #[.int .i64 0, .int .i64 0]) (t := 76) ?hr ?_; (case hd => rfl); (case hg => rfl); (case hr => first | (go_simp; done) | (go_simp; rfl)); intro gb351 hg w23 hbox hb; have n0_ := Aside0.mk (blk_below (g := gb347) (o := .cells #[.int .i64 a0_0, .string a0_1, .int .i64 a0_2] 27 (0, 0)) (kl_ BK347.out) hb); have n1_ := Aside0.mk (below_step (bl_ HB.out) hb); have n2_ := Aside0.mk (hbox); have n3_ := Aside0.mk ((by rw [hg]; exact (below_size (bl_ HB.out)) : w.heap.size ≤ gb351)); have n4_ := Aside0.mk ((by rw [hg]; exact (below_size (bl_ HB.out)) : w.heap.size ≤ gb351)); have n5_ := Aside0.mk ((by rw [hg]; exact Nat.ne_of_lt (blk_lt (g := gb347) (o := .cells #[.int .i64 a0_0, .string a0_1, .int .i64 a0_2] 27 (0, 0)) (kl_ BK347.out)) : gb347 ≠ gb351)); have n6_ := Aside0.mk ((by rw [hg]; exact Nat.ne_of_gt (blk_lt (g := gb347) (o := .cells #[.int .i64 a0_0, .string a0_1, .int .i64 a0_2] 27 (0, 0)) (kl_ BK347.out)) : gb351 ≠ gb347)); clear BK347; clear HB; have BK347 := n0_; have HB := n1_; have BK351 := n2_; have GW351 := n3_; have GE351 := n4_; have NB347_351 := n5_; have NB351_347 := n6_; clear n0_ n1_ n2_ n3_ n4_ n5_ n6_; clear hb hbox hg; have hnb24 := NB351_347.out; have hnc24 := NB347_351.out; have hcz25_0 : w23.cell? ⟨gb351, 0, none⟩ = some (.int .i64 0) := (blk_cell BK351.out 0).trans rfl; have hcz25_1 : w23.cell? ⟨gb351, 1, none⟩ = some (.int .i64 0) := (blk_cell BK351.out 1).trans rfl; have hfz25_0 := blk_frozen BK351.out 0; have hfz25_1 := blk_frozen BK351.out 1))
        go_ret
        exact ⟨by first | rfl | simp [*], by repeat (first | (with_reducible first | exact HB.out | apply below_alloc | apply pw_below_drewN | apply below_drew1 | refine below_set ?_ GE347.out | refine below_set ?_ GE351.out) | exact HB.out)⟩
    · replace c6 := Bool.eq_false_iff.mpr c6
      subst c6
      have H1 : (some false) = some r := by rw [if_neg (show ¬ (false = true) by decide)] at H; exact H
      clear H
      have H := H1
      clear H1
      obtain rfl := Option.some.inj H
      have hcz26_0 : w2.cell? ⟨gb347, 0, none⟩ = some (.int .i64 a0_0) := (blk_cell BK347.out 0).trans rfl
      have hcz26_1 : w2.cell? ⟨gb347, 1, none⟩ = some (.string a0_1) := (blk_cell BK347.out 1).trans rfl
      have hcz26_2 : w2.cell? ⟨gb347, 2, none⟩ = some (.int .i64 a0_2) := (blk_cell BK347.out 2).trans rfl
      have hfz26_0 := blk_frozen BK347.out 0
      have hfz26_1 := blk_frozen BK347.out 1
      have hfz26_2 := blk_frozen BK347.out 2
      go_wp2_with (first | ((with_reducible refine gate_callee (f := 62) rfl ?_); refine goesL_ (some 12) rfl rfl Tryz.func62 (by kernel_rfl) rfl #[.string a0_1] rfl (by (try simp only [List.map_toArray, List.map_cons, List.map_nil]); first | done | rfl | (simp only [List.length_drop, List.length_take]; rfl) | (simp only [Int.mul_one, Int.one_mul, Int.add_zero, Int.zero_add, pxw]; rfl)) ?_; (with_reducible refine (spec_ReadFraction.calls k a0_1 t348 t349 false _ A5.out).mono ?_); rintro e w27 ⟨rfl, hb⟩; refine ⟨_, rfl, ?_⟩; have n0_ := Aside0.mk (blk_below (g := gb347) (o := .cells #[.int .i64 a0_0, .string a0_1, .int .i64 a0_2] 27 (0, 0)) (kl_ BK347.out) hb); have n1_ := Aside0.mk (below_step (bl_ HB.out) hb); clear BK347; clear HB; have BK347 := n0_; have HB := n1_; clear n0_ n1_; (try clear hb); (try clear hb2); (try clear hk); (try clear hi)) | ((with_reducible refine gate_dst (N := 3) rfl ?_); (try (refine gate_guard (by rfl) ?_; dsimp only)); refine box_event ?hg (N := 3) ?hd (cs := #[.int .i64 0, .int .i64 0]) (t := 76) ?hr ?_; (case hd => rfl); (case hg => rfl); (case hr => first | (go_simp; done) | (go_simp; rfl)); intro gb351 hg w28 hbox hb; have n0_ := Aside0.mk (blk_below (g := gb347) (o := .cells #[.int .i64 a0_0, .string a0_1, .int .i64 a0_2] 27 (0, 0)) (kl_ BK347.out) hb); have n1_ := Aside0.mk (below_step (bl_ HB.out) hb); have n2_ := Aside0.mk (hbox); have n3_ := Aside0.mk ((by rw [hg]; exact (below_size (bl_ HB.out)) : w.heap.size ≤ gb351)); have n4_ := Aside0.mk ((by rw [hg]; exact (below_size (bl_ HB.out)) : w.heap.size ≤ gb351)); have n5_ := Aside0.mk ((by rw [hg]; exact Nat.ne_of_lt (blk_lt (g := gb347) (o := .cells #[.int .i64 a0_0, .string a0_1, .int .i64 a0_2] 27 (0, 0)) (kl_ BK347.out)) : gb347 ≠ gb351)); have n6_ := Aside0.mk ((by rw [hg]; exact Nat.ne_of_gt (blk_lt (g := gb347) (o := .cells #[.int .i64 a0_0, .string a0_1, .int .i64 a0_2] 27 (0, 0)) (kl_ BK347.out)) : gb351 ≠ gb347)); clear BK347; clear HB; have BK347 := n0_; have HB := n1_; have BK351 := n2_; have GW351 := n3_; have GE351 := n4_; have NB347_351 := n5_; have NB351_347 := n6_; clear n0_ n1_ n2_ n3_ n4_ n5_ n6_; clear hb hbox hg; have hnb29 := NB351_347.out; have hnc29 := NB347_351.out; have hcz30_0 : w28.cell? ⟨gb351, 0, none⟩ = some (.int .i64 0) := (blk_cell BK351.out 0).trans rfl; have hcz30_1 : w28.cell? ⟨gb351, 1, none⟩ = some (.int .i64 0) := (blk_cell BK351.out 1).trans rfl; have hfz30_0 := blk_frozen BK351.out 0; have hfz30_1 := blk_frozen BK351.out 1))
      go_ret
      exact ⟨by first | rfl | simp [*], by repeat (first | (with_reducible first | exact HB.out | apply below_alloc | apply pw_below_drewN | apply below_drew1 | refine below_set ?_ GE347.out | refine below_set ?_ GE351.out) | exact HB.out)⟩
  · rw [if_neg c4] at H
    have c4b0 : (a0_0 == 1) = false := beq_eq_false_iff_ne.mpr c4
    have c4b1 : (a0_0 != 1) = true := bne_iff_ne.mpr c4
    (first | rw [c4b0] | (simp only [i64_w, i32_w]; rw [c4b0]) | rw [c4b1] | skip)
    by_cases c31 : a0_0 = 2
    · rw [if_pos c31] at H
      have c31b0 : (a0_0 == 2) = true := beq_iff_eq.mpr c31
      have c31b1 : (a0_0 != 2) = false := bne_eq_false_iff_eq.mpr c31
      clear c31
      replace H := Option.bind_eq_some_iff.mp H
      obtain ⟨t352, A320, H⟩ := H
      replace H : (if t352 = true then (if (a0_1.size : Int) ≤ 60 then (some (a0_2 == 0)) else (some false)) else (some false)) = some r := H
      have A32 := Aside0.mk A320
      clear A320
      by_cases c33 : t352 = true
      · subst c33
        have H1 : (if (a0_1.size : Int) ≤ 60 then (some (a0_2 == 0)) else (some false)) = some r := by rw [if_pos rfl] at H; exact H
        clear H
        have H := H1
        clear H1
        by_cases c34 : (a0_1.size : Int) ≤ 60
        · rw [if_pos c34] at H
          have c34b0 : decide ((a0_1.size : Int) ≤ 60) = true := decide_eq_true c34
          have c34b1 : decide (a0_1.size ≤ 60) = true := decide_eq_true (by omega)
          clear c34
          obtain rfl := Option.some.inj H
          have hcz35_0 : w2.cell? ⟨gb347, 0, none⟩ = some (.int .i64 a0_0) := (blk_cell BK347.out 0).trans rfl
          have hcz35_1 : w2.cell? ⟨gb347, 1, none⟩ = some (.string a0_1) := (blk_cell BK347.out 1).trans rfl
          have hcz35_2 : w2.cell? ⟨gb347, 2, none⟩ = some (.int .i64 a0_2) := (blk_cell BK347.out 2).trans rfl
          have hfz35_0 := blk_frozen BK347.out 0
          have hfz35_1 := blk_frozen BK347.out 1
          have hfz35_2 := blk_frozen BK347.out 2
          go_wp2_with (first | ((with_reducible refine gate_callee (f := 110) rfl ?_); refine goesL_ (some 36) rfl rfl Tryz.func110 (by kernel_rfl) rfl #[.string a0_1] rfl (by (try simp only [List.map_toArray, List.map_cons, List.map_nil]); first | done | rfl | (simp only [List.length_drop, List.length_take]; rfl) | (simp only [Int.mul_one, Int.one_mul, Int.add_zero, Int.zero_add, pxw]; rfl)) ?_; (with_reducible refine (spec_TextValid.calls k a0_1 true _ A32.out).mono ?_); rintro e w' ⟨rfl, ⟨nd, rfl⟩⟩; refine ⟨_, rfl, ?_⟩))
          go_ret
          exact ⟨by first | rfl | simp [*], bl_ HB.out⟩
        · rw [if_neg c34] at H
          have c34b0 : decide ((a0_1.size : Int) ≤ 60) = false := decide_eq_false c34
          have c34b1 : decide (a0_1.size ≤ 60) = false := decide_eq_false (by omega)
          clear c34
          obtain rfl := Option.some.inj H
          have hcz36_0 : w2.cell? ⟨gb347, 0, none⟩ = some (.int .i64 a0_0) := (blk_cell BK347.out 0).trans rfl
          have hcz36_1 : w2.cell? ⟨gb347, 1, none⟩ = some (.string a0_1) := (blk_cell BK347.out 1).trans rfl
          have hcz36_2 : w2.cell? ⟨gb347, 2, none⟩ = some (.int .i64 a0_2) := (blk_cell BK347.out 2).trans rfl
          have hfz36_0 := blk_frozen BK347.out 0
          have hfz36_1 := blk_frozen BK347.out 1
          have hfz36_2 := blk_frozen BK347.out 2
          go_wp2_with (first | ((with_reducible refine gate_callee (f := 110) rfl ?_); refine goesL_ (some 36) rfl rfl Tryz.func110 (by kernel_rfl) rfl #[.string a0_1] rfl (by (try simp only [List.map_toArray, List.map_cons, List.map_nil]); first | done | rfl | (simp only [List.length_drop, List.length_take]; rfl) | (simp only [Int.mul_one, Int.one_mul, Int.add_zero, Int.zero_add, pxw]; rfl)) ?_; (with_reducible refine (spec_TextValid.calls k a0_1 true _ A32.out).mono ?_); rintro e w' ⟨rfl, ⟨nd, rfl⟩⟩; refine ⟨_, rfl, ?_⟩))
          go_ret
          exact ⟨by first | rfl | simp [*], bl_ HB.out⟩
      · replace c33 := Bool.eq_false_iff.mpr c33
        subst c33
        have H1 : (some false) = some r := by rw [if_neg (show ¬ (false = true) by decide)] at H; exact H
        clear H
        have H := H1
        clear H1
        obtain rfl := Option.some.inj H
        have hcz37_0 : w2.cell? ⟨gb347, 0, none⟩ = some (.int .i64 a0_0) := (blk_cell BK347.out 0).trans rfl
        have hcz37_1 : w2.cell? ⟨gb347, 1, none⟩ = some (.string a0_1) := (blk_cell BK347.out 1).trans rfl
        have hcz37_2 : w2.cell? ⟨gb347, 2, none⟩ = some (.int .i64 a0_2) := (blk_cell BK347.out 2).trans rfl
        have hfz37_0 := blk_frozen BK347.out 0
        have hfz37_1 := blk_frozen BK347.out 1
        have hfz37_2 := blk_frozen BK347.out 2
        go_wp2_with (first | ((with_reducible refine gate_callee (f := 110) rfl ?_); refine goesL_ (some 36) rfl rfl Tryz.func110 (by kernel_rfl) rfl #[.string a0_1] rfl (by (try simp only [List.map_toArray, List.map_cons, List.map_nil]); first | done | rfl | (simp only [List.length_drop, List.length_take]; rfl) | (simp only [Int.mul_one, Int.one_mul, Int.add_zero, Int.zero_add, pxw]; rfl)) ?_; (with_reducible refine (spec_TextValid.calls k a0_1 false _ A32.out).mono ?_); rintro e w' ⟨rfl, ⟨nd, rfl⟩⟩; refine ⟨_, rfl, ?_⟩))
        go_ret
        exact ⟨by first | rfl | simp [*], bl_ HB.out⟩
    · rw [if_neg c31] at H
      have c31b0 : (a0_0 == 2) = false := beq_eq_false_iff_ne.mpr c31
      have c31b1 : (a0_0 != 2) = true := bne_iff_ne.mpr c31
      by_cases c38 : a0_0 = 3
      · rw [if_pos c38] at H
        have c38b0 : (a0_0 == 3) = true := beq_iff_eq.mpr c38
        have c38b1 : (a0_0 != 3) = false := bne_eq_false_iff_eq.mpr c38
        clear c38
        by_cases c39 : a0_1.toList = ([116, 114, 117, 101] : List UInt8)
        · rw [if_pos c39] at H
          have c39b0 : (a0_1.toList == ([116, 114, 117, 101] : List UInt8)) = true := beq_iff_eq.mpr c39
          have c39b1 : (a0_1.toList != ([116, 114, 117, 101] : List UInt8)) = false := bne_eq_false_iff_eq.mpr c39
          clear c39
          obtain rfl := Option.some.inj H
          have hcz40_0 : w2.cell? ⟨gb347, 0, none⟩ = some (.int .i64 a0_0) := (blk_cell BK347.out 0).trans rfl
          have hcz40_1 : w2.cell? ⟨gb347, 1, none⟩ = some (.string a0_1) := (blk_cell BK347.out 1).trans rfl
          have hcz40_2 : w2.cell? ⟨gb347, 2, none⟩ = some (.int .i64 a0_2) := (blk_cell BK347.out 2).trans rfl
          have hfz40_0 := blk_frozen BK347.out 0
          have hfz40_1 := blk_frozen BK347.out 1
          have hfz40_2 := blk_frozen BK347.out 2
          go_wp2
          go_ret
          exact ⟨by first | rfl | simp [*], bl_ HB.out⟩
        · rw [if_neg c39] at H
          have c39b0 : (a0_1.toList == ([116, 114, 117, 101] : List UInt8)) = false := beq_eq_false_iff_ne.mpr c39
          have c39b1 : (a0_1.toList != ([116, 114, 117, 101] : List UInt8)) = true := bne_iff_ne.mpr c39
          by_cases c41 : a0_1.toList = ([102, 97, 108, 115, 101] : List UInt8)
          · rw [if_pos c41] at H
            have c41b0 : (a0_1.toList == ([102, 97, 108, 115, 101] : List UInt8)) = true := beq_iff_eq.mpr c41
            have c41b1 : (a0_1.toList != ([102, 97, 108, 115, 101] : List UInt8)) = false := bne_eq_false_iff_eq.mpr c41
            clear c41
            obtain rfl := Option.some.inj H
            have hcz42_0 : w2.cell? ⟨gb347, 0, none⟩ = some (.int .i64 a0_0) := (blk_cell BK347.out 0).trans rfl
            have hcz42_1 : w2.cell? ⟨gb347, 1, none⟩ = some (.string a0_1) := (blk_cell BK347.out 1).trans rfl
            have hcz42_2 : w2.cell? ⟨gb347, 2, none⟩ = some (.int .i64 a0_2) := (blk_cell BK347.out 2).trans rfl
            have hfz42_0 := blk_frozen BK347.out 0
            have hfz42_1 := blk_frozen BK347.out 1
            have hfz42_2 := blk_frozen BK347.out 2
            go_wp2
            go_ret
            exact ⟨by first | rfl | simp [*], bl_ HB.out⟩
          · rw [if_neg c41] at H
            have c41b0 : (a0_1.toList == ([102, 97, 108, 115, 101] : List UInt8)) = false := beq_eq_false_iff_ne.mpr c41
            have c41b1 : (a0_1.toList != ([102, 97, 108, 115, 101] : List UInt8)) = true := bne_iff_ne.mpr c41
            obtain rfl := Option.some.inj H
            have hcz43_0 : w2.cell? ⟨gb347, 0, none⟩ = some (.int .i64 a0_0) := (blk_cell BK347.out 0).trans rfl
            have hcz43_1 : w2.cell? ⟨gb347, 1, none⟩ = some (.string a0_1) := (blk_cell BK347.out 1).trans rfl
            have hcz43_2 : w2.cell? ⟨gb347, 2, none⟩ = some (.int .i64 a0_2) := (blk_cell BK347.out 2).trans rfl
            have hfz43_0 := blk_frozen BK347.out 0
            have hfz43_1 := blk_frozen BK347.out 1
            have hfz43_2 := blk_frozen BK347.out 2
            go_wp2
            go_ret
            exact ⟨by first | rfl | simp [*], bl_ HB.out⟩
      · rw [if_neg c38] at H
        have c38b0 : (a0_0 == 3) = false := beq_eq_false_iff_ne.mpr c38
        have c38b1 : (a0_0 != 3) = true := bne_iff_ne.mpr c38
        by_cases c44 : a0_0 = 4
        · rw [if_pos c44] at H
          have c44b0 : (a0_0 == 4) = true := beq_iff_eq.mpr c44
          have c44b1 : (a0_0 != 4) = false := bne_eq_false_iff_eq.mpr c44
          clear c44
          replace H := Option.bind_eq_some_iff.mp H
          obtain ⟨t353, A450, H⟩ := H
          replace H : (if t353 = true then (if (a0_1.size : Int) ≤ 60 then (some (a0_2 == 0)) else (some false)) else (some false)) = some r := H
          have A45 := Aside0.mk A450
          clear A450
          by_cases c46 : t353 = true
          · subst c46
            have H1 : (if (a0_1.size : Int) ≤ 60 then (some (a0_2 == 0)) else (some false)) = some r := by rw [if_pos rfl] at H; exact H
            clear H
            have H := H1
            clear H1
            by_cases c47 : (a0_1.size : Int) ≤ 60
            · rw [if_pos c47] at H
              have c47b0 : decide ((a0_1.size : Int) ≤ 60) = true := decide_eq_true c47
              have c47b1 : decide (a0_1.size ≤ 60) = true := decide_eq_true (by omega)
              clear c47
              obtain rfl := Option.some.inj H
              have hcz48_0 : w2.cell? ⟨gb347, 0, none⟩ = some (.int .i64 a0_0) := (blk_cell BK347.out 0).trans rfl
              have hcz48_1 : w2.cell? ⟨gb347, 1, none⟩ = some (.string a0_1) := (blk_cell BK347.out 1).trans rfl
              have hcz48_2 : w2.cell? ⟨gb347, 2, none⟩ = some (.int .i64 a0_2) := (blk_cell BK347.out 2).trans rfl
              have hfz48_0 := blk_frozen BK347.out 0
              have hfz48_1 := blk_frozen BK347.out 1
              have hfz48_2 := blk_frozen BK347.out 2
              go_wp2_with (first | ((with_reducible refine gate_callee (f := 66) rfl ?_); refine goesL_ (some 67) rfl rfl Tryz.func66 (by kernel_rfl) rfl #[.string a0_1] rfl (by (try simp only [List.map_toArray, List.map_cons, List.map_nil]); first | done | rfl | (simp only [List.length_drop, List.length_take]; rfl) | (simp only [Int.mul_one, Int.one_mul, Int.add_zero, Int.zero_add, pxw]; rfl)) ?_; (with_reducible refine (spec_NameValid.calls k a0_1 true _ A45.out).mono ?_); rintro e w' ⟨rfl, ⟨nd, rfl⟩⟩; refine ⟨_, rfl, ?_⟩))
              go_ret
              exact ⟨by first | rfl | simp [*], bl_ HB.out⟩
            · rw [if_neg c47] at H
              have c47b0 : decide ((a0_1.size : Int) ≤ 60) = false := decide_eq_false c47
              have c47b1 : decide (a0_1.size ≤ 60) = false := decide_eq_false (by omega)
              clear c47
              obtain rfl := Option.some.inj H
              have hcz49_0 : w2.cell? ⟨gb347, 0, none⟩ = some (.int .i64 a0_0) := (blk_cell BK347.out 0).trans rfl
              have hcz49_1 : w2.cell? ⟨gb347, 1, none⟩ = some (.string a0_1) := (blk_cell BK347.out 1).trans rfl
              have hcz49_2 : w2.cell? ⟨gb347, 2, none⟩ = some (.int .i64 a0_2) := (blk_cell BK347.out 2).trans rfl
              have hfz49_0 := blk_frozen BK347.out 0
              have hfz49_1 := blk_frozen BK347.out 1
              have hfz49_2 := blk_frozen BK347.out 2
              go_wp2_with (first | ((with_reducible refine gate_callee (f := 66) rfl ?_); refine goesL_ (some 67) rfl rfl Tryz.func66 (by kernel_rfl) rfl #[.string a0_1] rfl (by (try simp only [List.map_toArray, List.map_cons, List.map_nil]); first | done | rfl | (simp only [List.length_drop, List.length_take]; rfl) | (simp only [Int.mul_one, Int.one_mul, Int.add_zero, Int.zero_add, pxw]; rfl)) ?_; (with_reducible refine (spec_NameValid.calls k a0_1 true _ A45.out).mono ?_); rintro e w' ⟨rfl, ⟨nd, rfl⟩⟩; refine ⟨_, rfl, ?_⟩))
              go_ret
              exact ⟨by first | rfl | simp [*], bl_ HB.out⟩
          · replace c46 := Bool.eq_false_iff.mpr c46
            subst c46
            have H1 : (some false) = some r := by rw [if_neg (show ¬ (false = true) by decide)] at H; exact H
            clear H
            have H := H1
            clear H1
            obtain rfl := Option.some.inj H
            have hcz50_0 : w2.cell? ⟨gb347, 0, none⟩ = some (.int .i64 a0_0) := (blk_cell BK347.out 0).trans rfl
            have hcz50_1 : w2.cell? ⟨gb347, 1, none⟩ = some (.string a0_1) := (blk_cell BK347.out 1).trans rfl
            have hcz50_2 : w2.cell? ⟨gb347, 2, none⟩ = some (.int .i64 a0_2) := (blk_cell BK347.out 2).trans rfl
            have hfz50_0 := blk_frozen BK347.out 0
            have hfz50_1 := blk_frozen BK347.out 1
            have hfz50_2 := blk_frozen BK347.out 2
            go_wp2_with (first | ((with_reducible refine gate_callee (f := 66) rfl ?_); refine goesL_ (some 67) rfl rfl Tryz.func66 (by kernel_rfl) rfl #[.string a0_1] rfl (by (try simp only [List.map_toArray, List.map_cons, List.map_nil]); first | done | rfl | (simp only [List.length_drop, List.length_take]; rfl) | (simp only [Int.mul_one, Int.one_mul, Int.add_zero, Int.zero_add, pxw]; rfl)) ?_; (with_reducible refine (spec_NameValid.calls k a0_1 false _ A45.out).mono ?_); rintro e w' ⟨rfl, ⟨nd, rfl⟩⟩; refine ⟨_, rfl, ?_⟩))
            go_ret
            exact ⟨by first | rfl | simp [*], bl_ HB.out⟩
        · rw [if_neg c44] at H
          have c44b0 : (a0_0 == 4) = false := beq_eq_false_iff_ne.mpr c44
          have c44b1 : (a0_0 != 4) = true := bne_iff_ne.mpr c44
          by_cases c51 : a0_0 = 5
          · rw [if_pos c51] at H
            have c51b0 : (a0_0 == 5) = true := beq_iff_eq.mpr c51
            have c51b1 : (a0_0 != 5) = false := bne_eq_false_iff_eq.mpr c51
            clear c51
            by_cases c52 : a0_1.toList = ([] : List UInt8)
            · rw [if_pos c52] at H
              have c52b0 : (a0_1.toList == ([] : List UInt8)) = true := beq_iff_eq.mpr c52
              have c52b1 : (a0_1.toList != ([] : List UInt8)) = false := bne_eq_false_iff_eq.mpr c52
              (try (have c52b2 : a0_1.toList.isEmpty = true := by simpa using c52))
              clear c52
              replace H := Option.bind_eq_some_iff.mp H
              obtain ⟨t354, A530, H⟩ := H
              replace H : (some t354) = some r := H
              have A53 := Aside0.mk A530
              clear A530
              obtain rfl := Option.some.inj H
              have hcz54_0 : w2.cell? ⟨gb347, 0, none⟩ = some (.int .i64 a0_0) := (blk_cell BK347.out 0).trans rfl
              have hcz54_1 : w2.cell? ⟨gb347, 1, none⟩ = some (.string a0_1) := (blk_cell BK347.out 1).trans rfl
              have hcz54_2 : w2.cell? ⟨gb347, 2, none⟩ = some (.int .i64 a0_2) := (blk_cell BK347.out 2).trans rfl
              have hfz54_0 := blk_frozen BK347.out 0
              have hfz54_1 := blk_frozen BK347.out 1
              have hfz54_2 := blk_frozen BK347.out 2
              go_wp2_with (first | (go_at_call 70; (with_reducible refine (spec_l1In.calls a0_2 0 8 t354 _ A53.out).mono ?_); rintro e w' ⟨rfl, ⟨nd, rfl⟩⟩))
              go_ret
              exact ⟨by first | rfl | simp [*], bl_ HB.out⟩
            · rw [if_neg c52] at H
              have c52b0 : (a0_1.toList == ([] : List UInt8)) = false := beq_eq_false_iff_ne.mpr c52
              have c52b1 : (a0_1.toList != ([] : List UInt8)) = true := bne_iff_ne.mpr c52
              (try (have c52b2 : a0_1.toList.isEmpty = false := by simpa using c52))
              obtain rfl := Option.some.inj H
              have hcz55_0 : w2.cell? ⟨gb347, 0, none⟩ = some (.int .i64 a0_0) := (blk_cell BK347.out 0).trans rfl
              have hcz55_1 : w2.cell? ⟨gb347, 1, none⟩ = some (.string a0_1) := (blk_cell BK347.out 1).trans rfl
              have hcz55_2 : w2.cell? ⟨gb347, 2, none⟩ = some (.int .i64 a0_2) := (blk_cell BK347.out 2).trans rfl
              have hfz55_0 := blk_frozen BK347.out 0
              have hfz55_1 := blk_frozen BK347.out 1
              have hfz55_2 := blk_frozen BK347.out 2
              go_wp2
              go_ret
              exact ⟨by first | rfl | simp [*], bl_ HB.out⟩
          · rw [if_neg c51] at H
            have c51b0 : (a0_0 == 5) = false := beq_eq_false_iff_ne.mpr c51
            have c51b1 : (a0_0 != 5) = true := bne_iff_ne.mpr c51
            by_cases c56 : a0_0 = 6
            · rw [if_pos c56] at H
              have c56b0 : (a0_0 == 6) = true := beq_iff_eq.mpr c56
              have c56b1 : (a0_0 != 6) = false := bne_eq_false_iff_eq.mpr c56
              clear c56
              replace H := Option.bind_eq_some_iff.mp H
              obtain ⟨t355, A570, H⟩ := H
              replace H : (if t355 = true then ((spec_l1Has.f k a0_1 46).bind fun t356 => (if t356 = true then (some false) else ((spec_l1In.f a0_2 0 8).bind fun t357 => (some t357)))) else (some false)) = some r := H
              have A57 := Aside0.mk A570
              clear A570
              by_cases c58 : t355 = true
              · subst c58
                have H1 : ((spec_l1Has.f k a0_1 46).bind fun t356 => (if t356 = true then (some false) else ((spec_l1In.f a0_2 0 8).bind fun t357 => (some t357)))) = some r := by rw [if_pos rfl] at H; exact H
                clear H
                have H := H1
                clear H1
                replace H := Option.bind_eq_some_iff.mp H
                obtain ⟨t356, A590, H⟩ := H
                replace H : (if t356 = true then (some false) else ((spec_l1In.f a0_2 0 8).bind fun t357 => (some t357))) = some r := H
                have A59 := Aside0.mk A590
                clear A590
                by_cases c60 : t356 = true
                · subst c60
                  have H1 : (some false) = some r := by rw [if_pos rfl] at H; exact H
                  clear H
                  have H := H1
                  clear H1
                  obtain rfl := Option.some.inj H
                  have hcz61_0 : w2.cell? ⟨gb347, 0, none⟩ = some (.int .i64 a0_0) := (blk_cell BK347.out 0).trans rfl
                  have hcz61_1 : w2.cell? ⟨gb347, 1, none⟩ = some (.string a0_1) := (blk_cell BK347.out 1).trans rfl
                  have hcz61_2 : w2.cell? ⟨gb347, 2, none⟩ = some (.int .i64 a0_2) := (blk_cell BK347.out 2).trans rfl
                  have hfz61_0 := blk_frozen BK347.out 0
                  have hfz61_1 := blk_frozen BK347.out 1
                  have hfz61_2 := blk_frozen BK347.out 2
                  go_wp2_with (first | ((with_reducible refine gate_callee (f := 66) rfl ?_); refine goesL_ (some 93) rfl rfl Tryz.func66 (by kernel_rfl) rfl #[.string a0_1] rfl (by (try simp only [List.map_toArray, List.map_cons, List.map_nil]); first | done | rfl | (simp only [List.length_drop, List.length_take]; rfl) | (simp only [Int.mul_one, Int.one_mul, Int.add_zero, Int.zero_add, pxw]; rfl)) ?_; (with_reducible refine (spec_NameValid.calls k a0_1 true _ A57.out).mono ?_); rintro e w' ⟨rfl, ⟨nd, rfl⟩⟩; refine ⟨_, rfl, ?_⟩) | (go_at_call 111; (with_reducible refine (spec_l1Has.calls k a0_1 46 true _ A59.out).mono ?_); rintro e w' ⟨rfl, ⟨nd, rfl⟩⟩))
                  go_ret
                  exact ⟨by first | rfl | simp [*], bl_ HB.out⟩
                · replace c60 := Bool.eq_false_iff.mpr c60
                  subst c60
                  have H1 : ((spec_l1In.f a0_2 0 8).bind fun t357 => (some t357)) = some r := by rw [if_neg (show ¬ (false = true) by decide)] at H; exact H
                  clear H
                  have H := H1
                  clear H1
                  replace H := Option.bind_eq_some_iff.mp H
                  obtain ⟨t357, A620, H⟩ := H
                  replace H : (some t357) = some r := H
                  have A62 := Aside0.mk A620
                  clear A620
                  obtain rfl := Option.some.inj H
                  have hcz63_0 : w2.cell? ⟨gb347, 0, none⟩ = some (.int .i64 a0_0) := (blk_cell BK347.out 0).trans rfl
                  have hcz63_1 : w2.cell? ⟨gb347, 1, none⟩ = some (.string a0_1) := (blk_cell BK347.out 1).trans rfl
                  have hcz63_2 : w2.cell? ⟨gb347, 2, none⟩ = some (.int .i64 a0_2) := (blk_cell BK347.out 2).trans rfl
                  have hfz63_0 := blk_frozen BK347.out 0
                  have hfz63_1 := blk_frozen BK347.out 1
                  have hfz63_2 := blk_frozen BK347.out 2
                  go_wp2_with (first | ((with_reducible refine gate_callee (f := 66) rfl ?_); refine goesL_ (some 93) rfl rfl Tryz.func66 (by kernel_rfl) rfl #[.string a0_1] rfl (by (try simp only [List.map_toArray, List.map_cons, List.map_nil]); first | done | rfl | (simp only [List.length_drop, List.length_take]; rfl) | (simp only [Int.mul_one, Int.one_mul, Int.add_zero, Int.zero_add, pxw]; rfl)) ?_; (with_reducible refine (spec_NameValid.calls k a0_1 true _ A57.out).mono ?_); rintro e w' ⟨rfl, ⟨nd, rfl⟩⟩; refine ⟨_, rfl, ?_⟩) | (go_at_call 111; (with_reducible refine (spec_l1Has.calls k a0_1 46 false _ A59.out).mono ?_); rintro e w' ⟨rfl, ⟨nd, rfl⟩⟩) | (go_at_call 70; (with_reducible refine (spec_l1In.calls a0_2 0 8 t357 _ A62.out).mono ?_); rintro e w' ⟨rfl, ⟨nd, rfl⟩⟩))
                  go_ret
                  exact ⟨by first | rfl | simp [*], bl_ HB.out⟩
              · replace c58 := Bool.eq_false_iff.mpr c58
                subst c58
                have H1 : (some false) = some r := by rw [if_neg (show ¬ (false = true) by decide)] at H; exact H
                clear H
                have H := H1
                clear H1
                obtain rfl := Option.some.inj H
                have hcz64_0 : w2.cell? ⟨gb347, 0, none⟩ = some (.int .i64 a0_0) := (blk_cell BK347.out 0).trans rfl
                have hcz64_1 : w2.cell? ⟨gb347, 1, none⟩ = some (.string a0_1) := (blk_cell BK347.out 1).trans rfl
                have hcz64_2 : w2.cell? ⟨gb347, 2, none⟩ = some (.int .i64 a0_2) := (blk_cell BK347.out 2).trans rfl
                have hfz64_0 := blk_frozen BK347.out 0
                have hfz64_1 := blk_frozen BK347.out 1
                have hfz64_2 := blk_frozen BK347.out 2
                go_wp2_with (first | ((with_reducible refine gate_callee (f := 66) rfl ?_); refine goesL_ (some 93) rfl rfl Tryz.func66 (by kernel_rfl) rfl #[.string a0_1] rfl (by (try simp only [List.map_toArray, List.map_cons, List.map_nil]); first | done | rfl | (simp only [List.length_drop, List.length_take]; rfl) | (simp only [Int.mul_one, Int.one_mul, Int.add_zero, Int.zero_add, pxw]; rfl)) ?_; (with_reducible refine (spec_NameValid.calls k a0_1 false _ A57.out).mono ?_); rintro e w' ⟨rfl, ⟨nd, rfl⟩⟩; refine ⟨_, rfl, ?_⟩))
                go_ret
                exact ⟨by first | rfl | simp [*], bl_ HB.out⟩
            · rw [if_neg c56] at H
              have c56b0 : (a0_0 == 6) = false := beq_eq_false_iff_ne.mpr c56
              have c56b1 : (a0_0 != 6) = true := bne_iff_ne.mpr c56
              by_cases c65 : a0_0 = 7
              · rw [if_pos c65] at H
                have c65b0 : (a0_0 == 7) = true := beq_iff_eq.mpr c65
                have c65b1 : (a0_0 != 7) = false := bne_eq_false_iff_eq.mpr c65
                clear c65
                by_cases c66 : a0_1.toList = ([33] : List UInt8)
                · rw [if_pos c66] at H
                  have c66b0 : (a0_1.toList == ([33] : List UInt8)) = true := beq_iff_eq.mpr c66
                  have c66b1 : (a0_1.toList != ([33] : List UInt8)) = false := bne_eq_false_iff_eq.mpr c66
                  clear c66
                  obtain rfl := Option.some.inj H
                  have hcz67_0 : w2.cell? ⟨gb347, 0, none⟩ = some (.int .i64 a0_0) := (blk_cell BK347.out 0).trans rfl
                  have hcz67_1 : w2.cell? ⟨gb347, 1, none⟩ = some (.string a0_1) := (blk_cell BK347.out 1).trans rfl
                  have hcz67_2 : w2.cell? ⟨gb347, 2, none⟩ = some (.int .i64 a0_2) := (blk_cell BK347.out 2).trans rfl
                  have hfz67_0 := blk_frozen BK347.out 0
                  have hfz67_1 := blk_frozen BK347.out 1
                  have hfz67_2 := blk_frozen BK347.out 2
                  go_wp2
                  go_ret
                  exact ⟨by first | rfl | simp [*], bl_ HB.out⟩
                · rw [if_neg c66] at H
                  have c66b0 : (a0_1.toList == ([33] : List UInt8)) = false := beq_eq_false_iff_ne.mpr c66
                  have c66b1 : (a0_1.toList != ([33] : List UInt8)) = true := bne_iff_ne.mpr c66
                  by_cases c68 : a0_1.toList = ([45] : List UInt8)
                  · rw [if_pos c68] at H
                    have c68b0 : (a0_1.toList == ([45] : List UInt8)) = true := beq_iff_eq.mpr c68
                    have c68b1 : (a0_1.toList != ([45] : List UInt8)) = false := bne_eq_false_iff_eq.mpr c68
                    clear c68
                    obtain rfl := Option.some.inj H
                    have hcz69_0 : w2.cell? ⟨gb347, 0, none⟩ = some (.int .i64 a0_0) := (blk_cell BK347.out 0).trans rfl
                    have hcz69_1 : w2.cell? ⟨gb347, 1, none⟩ = some (.string a0_1) := (blk_cell BK347.out 1).trans rfl
                    have hcz69_2 : w2.cell? ⟨gb347, 2, none⟩ = some (.int .i64 a0_2) := (blk_cell BK347.out 2).trans rfl
                    have hfz69_0 := blk_frozen BK347.out 0
                    have hfz69_1 := blk_frozen BK347.out 1
                    have hfz69_2 := blk_frozen BK347.out 2
                    go_wp2
                    go_ret
                    exact ⟨by first | rfl | simp [*], bl_ HB.out⟩
                  · rw [if_neg c68] at H
                    have c68b0 : (a0_1.toList == ([45] : List UInt8)) = false := beq_eq_false_iff_ne.mpr c68
                    have c68b1 : (a0_1.toList != ([45] : List UInt8)) = true := bne_iff_ne.mpr c68
                    obtain rfl := Option.some.inj H
                    have hcz70_0 : w2.cell? ⟨gb347, 0, none⟩ = some (.int .i64 a0_0) := (blk_cell BK347.out 0).trans rfl
                    have hcz70_1 : w2.cell? ⟨gb347, 1, none⟩ = some (.string a0_1) := (blk_cell BK347.out 1).trans rfl
                    have hcz70_2 : w2.cell? ⟨gb347, 2, none⟩ = some (.int .i64 a0_2) := (blk_cell BK347.out 2).trans rfl
                    have hfz70_0 := blk_frozen BK347.out 0
                    have hfz70_1 := blk_frozen BK347.out 1
                    have hfz70_2 := blk_frozen BK347.out 2
                    go_wp2
                    go_ret
                    exact ⟨by first | rfl | simp [*], bl_ HB.out⟩
              · rw [if_neg c65] at H
                have c65b0 : (a0_0 == 7) = false := beq_eq_false_iff_ne.mpr c65
                have c65b1 : (a0_0 != 7) = true := bne_iff_ne.mpr c65
                by_cases c71 : a0_0 = 8
                · rw [if_pos c71] at H
                  have c71b0 : (a0_0 == 8) = true := beq_iff_eq.mpr c71
                  have c71b1 : (a0_0 != 8) = false := bne_eq_false_iff_eq.mpr c71
                  clear c71
                  replace H := Option.bind_eq_some_iff.mp H
                  obtain ⟨t358, A720, H⟩ := H
                  replace H : (if t358 > 0 then (some (a0_2 == 2)) else (some false)) = some r := H
                  have A72 := Aside0.mk A720
                  clear A720
                  by_cases c73 : t358 > 0
                  · rw [if_pos c73] at H
                    have c73b0 : decide (0 < t358) = true := decide_eq_true c73
                    clear c73
                    obtain rfl := Option.some.inj H
                    have hcz74_0 : w2.cell? ⟨gb347, 0, none⟩ = some (.int .i64 a0_0) := (blk_cell BK347.out 0).trans rfl
                    have hcz74_1 : w2.cell? ⟨gb347, 1, none⟩ = some (.string a0_1) := (blk_cell BK347.out 1).trans rfl
                    have hcz74_2 : w2.cell? ⟨gb347, 2, none⟩ = some (.int .i64 a0_2) := (blk_cell BK347.out 2).trans rfl
                    have hfz74_0 := blk_frozen BK347.out 0
                    have hfz74_1 := blk_frozen BK347.out 1
                    have hfz74_2 := blk_frozen BK347.out 2
                    go_wp2_with (first | ((with_reducible refine gate_callee (f := 112) rfl ?_); refine goesL_ (some 124) rfl rfl Tryz.func112 (by kernel_rfl) rfl #[.string a0_1] rfl (by (try simp only [List.map_toArray, List.map_cons, List.map_nil]); first | done | rfl | (simp only [List.length_drop, List.length_take]; rfl) | (simp only [Int.mul_one, Int.one_mul, Int.add_zero, Int.zero_add, pxw]; rfl)) ?_; (with_reducible refine (spec_l5Binary.calls k a0_1 t358 _ A72.out).mono ?_); rintro e w' ⟨rfl, ⟨nd, rfl⟩⟩; refine ⟨_, rfl, ?_⟩))
                    go_ret
                    exact ⟨by first | rfl | simp [*], bl_ HB.out⟩
                  · rw [if_neg c73] at H
                    have c73b0 : decide (0 < t358) = false := decide_eq_false c73
                    clear c73
                    obtain rfl := Option.some.inj H
                    have hcz75_0 : w2.cell? ⟨gb347, 0, none⟩ = some (.int .i64 a0_0) := (blk_cell BK347.out 0).trans rfl
                    have hcz75_1 : w2.cell? ⟨gb347, 1, none⟩ = some (.string a0_1) := (blk_cell BK347.out 1).trans rfl
                    have hcz75_2 : w2.cell? ⟨gb347, 2, none⟩ = some (.int .i64 a0_2) := (blk_cell BK347.out 2).trans rfl
                    have hfz75_0 := blk_frozen BK347.out 0
                    have hfz75_1 := blk_frozen BK347.out 1
                    have hfz75_2 := blk_frozen BK347.out 2
                    go_wp2_with (first | ((with_reducible refine gate_callee (f := 112) rfl ?_); refine goesL_ (some 124) rfl rfl Tryz.func112 (by kernel_rfl) rfl #[.string a0_1] rfl (by (try simp only [List.map_toArray, List.map_cons, List.map_nil]); first | done | rfl | (simp only [List.length_drop, List.length_take]; rfl) | (simp only [Int.mul_one, Int.one_mul, Int.add_zero, Int.zero_add, pxw]; rfl)) ?_; (with_reducible refine (spec_l5Binary.calls k a0_1 t358 _ A72.out).mono ?_); rintro e w' ⟨rfl, ⟨nd, rfl⟩⟩; refine ⟨_, rfl, ?_⟩))
                    go_ret
                    exact ⟨by first | rfl | simp [*], bl_ HB.out⟩
                · rw [if_neg c71] at H
                  have c71b0 : (a0_0 == 8) = false := beq_eq_false_iff_ne.mpr c71
                  have c71b1 : (a0_0 != 8) = true := bne_iff_ne.mpr c71
                  by_cases c76 : a0_0 = 9
                  · rw [if_pos c76] at H
                    have c76b0 : (a0_0 == 9) = true := beq_iff_eq.mpr c76
                    have c76b1 : (a0_0 != 9) = false := bne_eq_false_iff_eq.mpr c76
                    clear c76
                    by_cases c77 : a0_1.toList = ([] : List UInt8)
                    · rw [if_pos c77] at H
                      have c77b0 : (a0_1.toList == ([] : List UInt8)) = true := beq_iff_eq.mpr c77
                      have c77b1 : (a0_1.toList != ([] : List UInt8)) = false := bne_eq_false_iff_eq.mpr c77
                      (try (have c77b2 : a0_1.toList.isEmpty = true := by simpa using c77))
                      clear c77
                      obtain rfl := Option.some.inj H
                      have hcz78_0 : w2.cell? ⟨gb347, 0, none⟩ = some (.int .i64 a0_0) := (blk_cell BK347.out 0).trans rfl
                      have hcz78_1 : w2.cell? ⟨gb347, 1, none⟩ = some (.string a0_1) := (blk_cell BK347.out 1).trans rfl
                      have hcz78_2 : w2.cell? ⟨gb347, 2, none⟩ = some (.int .i64 a0_2) := (blk_cell BK347.out 2).trans rfl
                      have hfz78_0 := blk_frozen BK347.out 0
                      have hfz78_1 := blk_frozen BK347.out 1
                      have hfz78_2 := blk_frozen BK347.out 2
                      go_wp2
                      go_ret
                      exact ⟨by first | rfl | simp [*], bl_ HB.out⟩
                    · rw [if_neg c77] at H
                      have c77b0 : (a0_1.toList == ([] : List UInt8)) = false := beq_eq_false_iff_ne.mpr c77
                      have c77b1 : (a0_1.toList != ([] : List UInt8)) = true := bne_iff_ne.mpr c77
                      (try (have c77b2 : a0_1.toList.isEmpty = false := by simpa using c77))
                      obtain rfl := Option.some.inj H
                      have hcz79_0 : w2.cell? ⟨gb347, 0, none⟩ = some (.int .i64 a0_0) := (blk_cell BK347.out 0).trans rfl
                      have hcz79_1 : w2.cell? ⟨gb347, 1, none⟩ = some (.string a0_1) := (blk_cell BK347.out 1).trans rfl
                      have hcz79_2 : w2.cell? ⟨gb347, 2, none⟩ = some (.int .i64 a0_2) := (blk_cell BK347.out 2).trans rfl
                      have hfz79_0 := blk_frozen BK347.out 0
                      have hfz79_1 := blk_frozen BK347.out 1
                      have hfz79_2 := blk_frozen BK347.out 2
                      go_wp2
                      go_ret
                      exact ⟨by first | rfl | simp [*], bl_ HB.out⟩
                  · rw [if_neg c76] at H
                    have c76b0 : (a0_0 == 9) = false := beq_eq_false_iff_ne.mpr c76
                    have c76b1 : (a0_0 != 9) = true := bne_iff_ne.mpr c76
                    obtain rfl := Option.some.inj H
                    go_wp2
                    go_ret
                    exact ⟨by first | rfl | simp [*], bl_ HB.out⟩
end Go.Proofs.YtjdlepjgniokdaaGreatDoor.PA

end
section

namespace Go.Proofs.YtjdlepjgniokdaaGreatDoor.PA
open Go.RowKit Go.Proofs.YtjdlepjgniokdaaGreatDoorW.PrintWords Go.Proofs.YtjdlepjgniokdaaGreatDoorW.PrintLast Go.Proofs.YtjdlepjgniokdaaGreatDoorW.PrintMore
attribute [local go_sem] max2_int min2_int max_two min_two max_three min_three max_four min_four
set_option linter.unusedVariables false
set_option linter.unusedSimpArgs false
def spec_l5End.l0 : Nat → List (S27) → Int → Int → Option (Int)
  | 0, _, _, _ => none
  | k + 1, x0, x1, x5 => if x1 < (x0.length : Int) then (if x5 > 0 then (if 0 ≤ x1 then (spec_l5End.l0 k x0 (wrap64 (x1 + 1)) (wrap64 ((wrap64 (x5 - 1)) + (mx 0 ((rd_T27 x0 x1).f2))))) else (none)) else (some x1)) else (if x5 > 0 then (some (-1)) else (some x1))
def spec_l5End.f (k : Nat) (l0 : List (S27)) (a1 : Int) : Option (Int) := spec_l5End.l0 k l0 a1 1
set_option maxHeartbeats 8000000 in
set_option maxRecDepth 100000 in
theorem spec_l5End.calls (k : Nat) (A0 : Option Addr) (c0 : Nat) (l0 : List (S27)) (a1 : Int) (r : Int) (w : World) (hr0 : Kd.C k27 w A0 l0.length l0) (hc0 : l0.length ≤ c0) (h : spec_l5End.f k l0 a1 = some r) :
    Calls Tryz.prog 73 #[.slice A0 l0.length c0, .int .i64 a1] w fun e w' => e = .returned (.int .i64 r) ∧ Below w.heap.size w w' := by
  have HR0 := Aside0.mk hr0
  have HC0 := Aside0.mk hc0
  clear hr0 hc0
  have HB := Aside0.mk (Below.refl w.heap.size w)
  have H : (spec_l5End.l0 k l0 a1 1) = some r := h
  clear h
  have H' := Aside0.mk H
  clear H
  go_enter Tryz.func73, Tryz.ntmps73
  go_wp2
  go_loopg [1, 5] k (fun kq v1 v5 w' => ∃ (x1_1 : Int) (x5_1 : Int), v1 = .int .i64 x1_1 ∧ v5 = .int .i64 x5_1 ∧ Aside0 (spec_l5End.l0 kq l0 x1_1 x5_1 = some r) ∧ Aside0 (kq ≤ k) ∧ Aside0 (Below w.heap.size w w'))
  case atStart => exact ⟨(a1), (1), (by first | rfl | simp [*]), (by first | rfl | simp [*]), H', ⟨Nat.le_refl _⟩, ⟨bl_ HB.out⟩⟩
  case round =>
    clear H'
    try clear p2
    obtain ⟨x1_1, x5_1, rfl, rfl, HA, HK1, HB⟩ := hrel
    cases gk with
    | zero => exact absurd HA.out (by simp [spec_l5End.l0])
    | succ k1 =>
      have H := HA.out
      clear HA
      simp only [spec_l5End.l0] at H
      by_cases c3 : x1_1 < (l0.length : Int)
      · rw [if_pos c3] at H
        have c3b0 : decide (x1_1 < (l0.length : Int)) = true := decide_eq_true c3
        clear c3
        by_cases c4 : x5_1 > 0
        · rw [if_pos c4] at H
          have c4b0 : decide (0 < x5_1) = true := decide_eq_true c4
          clear c4
          by_cases c5 : 0 ≤ x1_1
          · rw [if_pos c5] at H
            have c5b0 : decide (0 ≤ x1_1) = true := decide_eq_true c5
            clear c5
            obtain ⟨ji6, hji6⟩ : ∃ j_ : Int, (mx 0 ((rd_T27 l0 x1_1).f2)) = j_ := ⟨_, rfl⟩
            replace H : (spec_l5End.l0 k1 l0 (wrap64 (x1_1 + 1)) (wrap64 ((wrap64 (x5_1 - 1)) + (ji6)))) = some r := by first | (rw [hji6] at H; exact H) | (simp only [hji6] at H ⊢; exact H)
            have hji6_ : (if 0 < ((rd_T27 l0 x1_1).f2) then ((rd_T27 l0 x1_1).f2) else 0) = ji6 := hji6
            have H' := Aside0.mk H
            clear H
            have p359 : 0 ≤ (x1_1 : Int) := of_decide_eq_true (by assumption)
            have q359 : x1_1 < (l0.length : Int) := of_decide_eq_true (by assumption)
            obtain ⟨ad359, e359, hx359_0, hx359_1, hx359_2⟩ := at_T27 HR0.out x1_1 p359 q359
            cases e359
            replace hx359_0 := (HB.out.cell (World.block_lt_of_cell? w _ hx359_0)).trans hx359_0
            replace hx359_1 := (HB.out.cell (World.block_lt_of_cell? w _ hx359_1)).trans hx359_1
            replace hx359_2 := (HB.out.cell (World.block_lt_of_cell? w _ hx359_2)).trans hx359_2
            replace p359 := eq_true p359
            replace q359 := eq_true q359
            go_wp2
            go_roundg k1
            case measure => have := HK1.out; omega
            case rel => exact ⟨(wrap64 (x1_1 + 1)), (wrap64 ((wrap64 (x5_1 - 1)) + (ji6))), (by first | rfl | simp [*]), (by first | rfl | (simp; done) | (simp only [← hji6] <;> (first | rfl | simp)) | (simp [*]; done)), H', ⟨by have := HK1.out; omega⟩, ⟨bl_ HB.out⟩⟩
          · rw [if_neg c5] at H
            exact absurd H (by simp)
        · rw [if_neg c4] at H
          have c4b0 : decide (0 < x5_1) = false := decide_eq_false c4
          clear c4
          obtain rfl := Option.some.inj H
          go_wp2
          go_ret
          exact ⟨by first | rfl | simp [*], bl_ HB.out⟩
      · rw [if_neg c3] at H
        have c3b0 : decide (x1_1 < (l0.length : Int)) = false := decide_eq_false c3
        clear c3
        by_cases c7 : x5_1 > 0
        · rw [if_pos c7] at H
          have c7b0 : decide (0 < x5_1) = true := decide_eq_true c7
          clear c7
          obtain rfl := Option.some.inj H
          go_wp2
          go_ret
          exact ⟨by first | rfl | simp [*], bl_ HB.out⟩
        · rw [if_neg c7] at H
          have c7b0 : decide (0 < x5_1) = false := decide_eq_false c7
          clear c7
          obtain rfl := Option.some.inj H
          go_wp2
          go_ret
          exact ⟨by first | rfl | simp [*], bl_ HB.out⟩
def spec_l5Kids.l0 : Nat → List (S27) → Int → List Int → Int → Int → Option (List Int)
  | 0, _, _, _, _, _ => none
  | k + 1, x0, x1, x5, x6, x7 => if 0 ≤ x1 then (if x1 < (x0.length : Int) then (if x7 < ((rd_T27 x0 x1).f2) then (if x5.length < 17592186044416 then ((spec_l5End.f k x0 x6).bind fun t367 => (spec_l5Kids.l0 k x0 x1 (x5 ++ [x6]) t367 (wrap64 (x7 + 1)))) else (none)) else (some x5)) else (none)) else (none)
def spec_l5Kids.f (k : Nat) (l0 : List (S27)) (a1 : Int) : Option (List Int) := spec_l5Kids.l0 k l0 a1 (([] : List Int)) (wrap64 (a1 + 1)) 0
set_option maxHeartbeats 8000000 in
set_option maxRecDepth 100000 in
theorem spec_l5Kids.calls (k : Nat) (A0 : Option Addr) (c0 : Nat) (l0 : List (S27)) (a1 : Int) (r : List Int) (w : World) (hr0 : Kd.C k27 w A0 l0.length l0) (hc0 : l0.length ≤ c0) (h : spec_l5Kids.f k l0 a1 = some r) :
    Calls Tryz.prog 71 #[.slice A0 l0.length c0, .int .i64 a1] w fun e w' => ∃ v0_ : Value, e = .returned (v0_) ∧ Kd.R (Kd.int .i64) 3 w' w.heap.size (fun _ => True) v0_ r ∧ Below w.heap.size w w' := by
  have HR0 := Aside0.mk hr0
  have HC0 := Aside0.mk hc0
  clear hr0 hc0
  have HB := Aside0.mk (Below.refl w.heap.size w)
  have H : (spec_l5Kids.l0 k l0 a1 (([] : List Int)) (wrap64 (a1 + 1)) 0) = some r := h
  clear h
  obtain ⟨y360, hy360⟩ : ∃ y_ : List Int, y_ = (([] : List Int)) := ⟨_, rfl⟩
  replace H : (spec_l5Kids.l0 k l0 a1 y360 (wrap64 (a1 + 1)) 0) = some r := by first | (rw [hy360]; with_reducible exact H) | (have H2_ := (Option.bind_some _ _).symm.trans H; rw [hy360]; with_reducible exact H2_) | (have H2_ := (Option.bind_some _ _).symm.trans H; with_reducible exact H2_) | with_reducible exact H | (rw [hy360]; exact H) | exact H
  have Ny360 := Aside0.mk hy360
  clear hy360
  have H' := Aside0.mk H
  clear H
  go_enter Tryz.func71, Tryz.ntmps71
  go_wp2_with (first | ((with_reducible refine gate_dst (N := 8) rfl ?_); refine Kd.R_lit (Kd.int .i64) _ 3 ?hg (N := 8) ?hd (xs := ([] : List Int)) (inner := []) (ok := fun _ => True) (okp := fun _ => True) ?hr ?hp (fun _ hk => hk) trivial (Below.refl _ _) (Nat.le_refl _) (by simp) ?_; (case hd => rfl); (case hg => rfl); (case hr => first | (go_simp; done) | (go_simp; rfl)); (case hp => exact (Reps.none _ _)); intro v361 w3 ho4 hb hg_ hnew_; clear hg_ hnew_; (first | rw [← Ny360.out] at ho4 | (simp only [Int.reduceToNat] at ho4; rw [← Ny360.out] at ho4)); have n0_ := Aside0.mk (Kd.R_lower ho4 (below_size (bl_ HB.out))); have n1_ := Aside0.mk (below_step (bl_ HB.out) hb); clear HB; have HO362 := n0_; have HB := n1_; clear n0_ n1_; clear hb ho4))
  go_loopg [5, 6, 7] k (fun kq v5 v6 v7 w' => ∃ (x5_1 : List Int) (x6_1 : Int) (x7_1 : Int), v6 = .int .i64 x6_1 ∧ v7 = .int .i64 x7_1 ∧ Aside0 (spec_l5Kids.l0 kq l0 a1 x5_1 x6_1 x7_1 = some r) ∧ Aside0 (kq ≤ k) ∧ Aside0 (Kd.R (Kd.int .i64) 3 w' w.heap.size (fun _ => True) v5 x5_1) ∧ Aside0 (Below w.heap.size w w'))
  case atStart => exact ⟨(y360), (wrap64 (a1 + 1)), (0), (by first | rfl | simp [*]), (by first | rfl | simp [*]), H', ⟨Nat.le_refl _⟩, ⟨by (with_reducible repeat (first | apply Kd.R_alloc | apply Kd.R_drewN | apply Kd.R_drew)); exact HO362.out⟩, ⟨bl_ HB.out⟩⟩
  case round =>
    clear H'
    try clear p2
    obtain ⟨x5_1, x6_1, x7_1, rfl, rfl, HA, HK1, HO_5, HB⟩ := hrel
    cases gk with
    | zero => exact absurd HA.out (by simp [spec_l5Kids.l0])
    | succ k1 =>
      have H := HA.out
      clear HA
      simp only [spec_l5Kids.l0] at H
      by_cases c5 : 0 ≤ a1
      · rw [if_pos c5] at H
        have c5b0 : decide (0 ≤ a1) = true := decide_eq_true c5
        clear c5
        by_cases c6 : a1 < (l0.length : Int)
        · rw [if_pos c6] at H
          have c6b0 : decide (a1 < (l0.length : Int)) = true := decide_eq_true c6
          clear c6
          by_cases c7 : x7_1 < ((rd_T27 l0 a1).f2)
          · rw [if_pos c7] at H
            have c7b0 : decide (x7_1 < ((rd_T27 l0 a1).f2)) = true := decide_eq_true c7
            clear c7
            by_cases c8 : x5_1.length < 17592186044416
            · rw [if_pos c8] at H
              have LMc8 := Aside0.mk c8
              clear c8
              obtain ⟨y364, hy364⟩ : ∃ y_ : List Int, y_ = (x5_1 ++ [x6_1]) := ⟨_, rfl⟩
              replace H : ((spec_l5End.f k1 l0 x6_1).bind fun t367 => (spec_l5Kids.l0 k1 l0 a1 y364 t367 (wrap64 (x7_1 + 1)))) = some r := by first | (rw [hy364]; with_reducible exact H) | (have H2_ := (Option.bind_some _ _).symm.trans H; rw [hy364]; with_reducible exact H2_) | (have H2_ := (Option.bind_some _ _).symm.trans H; with_reducible exact H2_) | with_reducible exact H | (rw [hy364]; exact H) | exact H
              have Ny364 := Aside0.mk hy364
              clear hy364
              replace H := Option.bind_eq_some_iff.mp H
              obtain ⟨t367, A90, H⟩ := H
              replace H : (spec_l5Kids.l0 k1 l0 a1 y364 t367 (wrap64 (x7_1 + 1))) = some r := H
              have A9 := Aside0.mk A90
              clear A90
              have H' := Aside0.mk H
              clear H
              have p363 : 0 ≤ (a1 : Int) := of_decide_eq_true (by assumption)
              have q363 : a1 < (l0.length : Int) := of_decide_eq_true (by assumption)
              obtain ⟨ad363, e363, hx363_0, hx363_1, hx363_2⟩ := at_T27 HR0.out a1 p363 q363
              cases e363
              replace hx363_0 := (HB.out.cell (World.block_lt_of_cell? w _ hx363_0)).trans hx363_0
              replace hx363_1 := (HB.out.cell (World.block_lt_of_cell? w _ hx363_1)).trans hx363_1
              replace hx363_2 := (HB.out.cell (World.block_lt_of_cell? w _ hx363_2)).trans hx363_2
              replace p363 := eq_true p363
              replace q363 := eq_true q363
              go_wp2_with (first | ((with_reducible refine gate_builtin (b := .append) (xs := #[.tmp 20, .tmp 22]) rfl ?_); at_builtin; refine Kd.R_append (Kd.int .i64) (w0 := w) w.heap.size rfl (.tmp 20) (.tmp 22) 37 3 (.int .i64 0) 8 rfl Tryz.underlying37 info3 rfl (by decide) (by omega) u5 x5_1 x6_1 [.int .i64 x6_1] (fun _ => True) (fun _ => False) rfl rfl ?aP (fun _ hk => hk.elim) ?aF ?aO ?aB ?aS ?aL ?_; (case aP => exact rfl); (case aB => exact (bl_ HB.out)); (case aF => exact (fun _ _ => trivial)); (case aO => exact (rl_ HO_5.out)); (case aS => exact (below_size (bl_ HB.out))); (case aL => have := LMc8.out; omega); intro v365 w10 ho hb hg hat; rw [← Ny364.out] at ho; have n0_ := Aside0.mk (hb); have n1_ := Aside0.mk (ho); clear HB; clear HO_5; have HB := n0_; have HO366 := n1_; clear n0_ n1_; clear ho hb hg hat) | ((with_reducible refine gate_callee (f := 73) rfl ?_); refine goesL_ (some 26) rfl rfl Tryz.func73 (by kernel_rfl) rfl #[.slice (some ad363) l0.length c0, .int .i64 x6_1] rfl (by (try simp only [List.map_toArray, List.map_cons, List.map_nil]); first | done | rfl | (simp only [List.length_drop, List.length_take]; rfl) | (simp only [Int.mul_one, Int.one_mul, Int.add_zero, Int.zero_add, pxw]; rfl)) ?_; (with_reducible refine (spec_l5End.calls k1 _ _ l0 x6_1 t367 _ ?side1 ?side2 A9.out).mono ?_); (case side1 => repeat (first | exact (Kd.C_below HR0.out HB.out) | (with_reducible refine Kd.C_alloc ?_ _) | (with_reducible refine Kd.C_drewN ?_ _) | (with_reducible refine Kd.C_drew ?_))); (case side2 => exact HC0.out); rintro e w11 ⟨rfl, hb⟩; refine ⟨_, rfl, ?_⟩; have n0_ := Aside0.mk (Kd.R_below (rl_ HO366.out) hb); have n1_ := Aside0.mk (below_step (bl_ HB.out) hb); clear HO366; clear HB; have HO366 := n0_; have HB := n1_; clear n0_ n1_; (try clear hb); (try clear hb2); (try clear hk); (try clear hi)))
              go_roundg k1
              case measure => have := HK1.out; omega
              case rel => exact ⟨(y364), (t367), (wrap64 (x7_1 + 1)), (by first | rfl | simp [*]), (by first | rfl | simp [*]), H', ⟨by have := HK1.out; omega⟩, ⟨by (with_reducible repeat (first | apply Kd.R_alloc | apply Kd.R_drewN | apply Kd.R_drew)); exact HO366.out⟩, ⟨bl_ HB.out⟩⟩
            · rw [if_neg c8] at H
              exact absurd H (by simp)
          · rw [if_neg c7] at H
            have c7b0 : decide (x7_1 < ((rd_T27 l0 a1).f2)) = false := decide_eq_false c7
            clear c7
            obtain rfl := Option.some.inj H
            have p363 : 0 ≤ (a1 : Int) := of_decide_eq_true (by assumption)
            have q363 : a1 < (l0.length : Int) := of_decide_eq_true (by assumption)
            obtain ⟨ad363, e363, hx363_0, hx363_1, hx363_2⟩ := at_T27 HR0.out a1 p363 q363
            cases e363
            replace hx363_0 := (HB.out.cell (World.block_lt_of_cell? w _ hx363_0)).trans hx363_0
            replace hx363_1 := (HB.out.cell (World.block_lt_of_cell? w _ hx363_1)).trans hx363_1
            replace hx363_2 := (HB.out.cell (World.block_lt_of_cell? w _ hx363_2)).trans hx363_2
            replace p363 := eq_true p363
            replace q363 := eq_true q363
            go_wp2
            go_ret
            exact ⟨_, by first | rfl | simp [*], by (with_reducible repeat (first | apply Kd.R_alloc | apply Kd.R_drewN | apply Kd.R_drew)); exact HO_5.out, bl_ HB.out⟩
        · rw [if_neg c6] at H
          exact absurd H (by simp)
      · rw [if_neg c5] at H
        exact absurd H (by simp)
end Go.Proofs.YtjdlepjgniokdaaGreatDoor.PA

end
section

namespace Go.Proofs.YtjdlepjgniokdaaGreatDoor.PA
open Go.RowKit Go.Proofs.YtjdlepjgniokdaaGreatDoorW.PrintWords Go.Proofs.YtjdlepjgniokdaaGreatDoorW.PrintLast Go.Proofs.YtjdlepjgniokdaaGreatDoorW.PrintMore
attribute [local go_sem] max2_int min2_int max_two min_two max_three min_three max_four min_four
set_option linter.unusedVariables false
set_option linter.unusedSimpArgs false
mutual
def spec_l5Depth.l0 : Nat → List (S27) → Int → List Int → Int → Option (Int)
  | 0, _, _, _, _ => none
  | k + 1, x0, x5, x6, x7 => if x7 < (x6.length : Int) then (if 0 ≤ x7 then ((spec_l5Depth.f k x0 (rd x6 x7)).bind fun t372 => (spec_l5Depth.l0 k x0 (mx x5 t372) x6 (wrap64 (x7 + 1)))) else (none)) else (some (wrap64 (x5 + 1)))
def spec_l5Depth.f : Nat → List (S27) → Int → Option (Int)
  | 0, _, _ => none
  | k + 1, l0, a1 => (spec_l5Kids.f k l0 a1).bind fun t368 => (spec_l5Depth.l0 k l0 0 t368 0)
end
set_option maxHeartbeats 8000000 in
set_option maxRecDepth 100000 in
theorem spec_l5Depth.calls (k : Nat) : ∀ (A0 : Option Addr) (c0 : Nat) (l0 : List (S27)) (a1 : Int) (r : Int) (w : World) (hr0 : Kd.C k27 w A0 l0.length l0) (hc0 : l0.length ≤ c0) (h : spec_l5Depth.f k l0 a1 = some r),
    Calls Tryz.prog 74 #[.slice A0 l0.length c0, .int .i64 a1] w fun e w' => e = .returned (.int .i64 r) ∧ Below w.heap.size w w' := by
  induction k using Nat.strongRecOn with
  | _ k ih =>
  intro A0 c0 l0 a1 r w hr0 hc0 h
  cases k with
  | zero => exact absurd h (by simp [spec_l5Depth.f])
  | succ k =>
  simp only [spec_l5Depth.f] at h
  have HR0 := Aside0.mk hr0
  have HC0 := Aside0.mk hc0
  clear hr0 hc0
  have HB := Aside0.mk (Below.refl w.heap.size w)
  have H : ((spec_l5Kids.f k l0 a1).bind fun t368 => (spec_l5Depth.l0 k l0 0 t368 0)) = some r := h
  clear h
  replace H := Option.bind_eq_some_iff.mp H
  obtain ⟨t368, A30, H⟩ := H
  replace H : (spec_l5Depth.l0 k l0 0 t368 0) = some r := H
  have A3 := Aside0.mk A30
  clear A30
  have H' := Aside0.mk H
  clear H
  go_enter Tryz.func74, Tryz.ntmps74
  go_wp2_with (first | ((with_reducible refine gate_callee (f := 71) rfl ?_); refine goesL_ (some 10) rfl rfl Tryz.func71 (by kernel_rfl) rfl #[.slice A0 l0.length c0, .int .i64 a1] rfl (by (try simp only [List.map_toArray, List.map_cons, List.map_nil]); first | done | rfl | (simp only [List.length_drop, List.length_take]; rfl) | (simp only [Int.mul_one, Int.one_mul, Int.add_zero, Int.zero_add, pxw]; rfl)) ?_; (with_reducible refine (spec_l5Kids.calls k _ _ l0 a1 t368 _ ?side1 ?side2 A3.out).mono ?_); (case side1 => repeat (first | exact HR0.out | (with_reducible refine Kd.C_alloc ?_ _) | (with_reducible refine Kd.C_drewN ?_ _) | (with_reducible refine Kd.C_drew ?_))); (case side2 => exact HC0.out); rintro e w4 ⟨v369, rfl, ho0, hb⟩; refine ⟨_, rfl, ?_⟩; have n0_ := Aside0.mk (Kd.R_lower ho0 (below_size (bl_ HB.out))); have n1_ := Aside0.mk (below_step (bl_ HB.out) hb); clear HB; have HO370 := n0_; have HB := n1_; clear n0_ n1_; (try clear hb); (try clear hb2); (try clear hk); (try clear hi); (try clear ho0)))
  go_loopg [5, 7] k (fun kq v5 v7 w' => ∃ (x5_1 : Int) (x7_1 : Int), v5 = .int .i64 x5_1 ∧ v7 = .int .i64 x7_1 ∧ Aside0 (spec_l5Depth.l0 kq l0 x5_1 t368 x7_1 = some r) ∧ Aside0 (kq ≤ k) ∧ Aside0 (Kd.R (Kd.int .i64) 3 w' w.heap.size (fun _ => True) v369 t368) ∧ Aside0 (Below w.heap.size w w'))
  case atStart => exact ⟨(0), (0), (by first | rfl | simp [*]), (by first | rfl | simp [*]), H', ⟨Nat.le_refl _⟩, ⟨by (with_reducible repeat (first | apply Kd.R_alloc | apply Kd.R_drewN | apply Kd.R_drew)); exact HO370.out⟩, ⟨bl_ HB.out⟩⟩
  case round =>
    clear H'
    try clear p2
    obtain ⟨x5_1, x7_1, rfl, rfl, HA, HK1, HO_6, HB⟩ := hrel
    cases gk with
    | zero => exact absurd HA.out (by simp [spec_l5Depth.l0])
    | succ k1 =>
      have H := HA.out
      clear HA
      simp only [spec_l5Depth.l0] at H
      by_cases c5 : x7_1 < (t368.length : Int)
      · rw [if_pos c5] at H
        have c5b0 : decide (x7_1 < (t368.length : Int)) = true := decide_eq_true c5
        clear c5
        by_cases c6 : 0 ≤ x7_1
        · rw [if_pos c6] at H
          have c6b0 : decide (0 ≤ x7_1) = true := decide_eq_true c6
          clear c6
          replace H := Option.bind_eq_some_iff.mp H
          obtain ⟨t372, A70, H⟩ := H
          replace H : (spec_l5Depth.l0 k1 l0 (mx x5_1 t372) t368 (wrap64 (x7_1 + 1))) = some r := H
          have A7 := Aside0.mk A70
          clear A70
          obtain ⟨ji8, hji8⟩ : ∃ j_ : Int, (mx x5_1 t372) = j_ := ⟨_, rfl⟩
          replace H : (spec_l5Depth.l0 k1 l0 ji8 t368 (wrap64 (x7_1 + 1))) = some r := by first | (rw [hji8] at H; exact H) | (simp only [hji8] at H ⊢; exact H)
          (try rw [hji8] at A7)
          have hji8_ : (if x5_1 < t372 then t372 else x5_1) = ji8 := hji8
          have H' := Aside0.mk H
          clear H
          obtain ⟨Ao9, co9, eo9⟩ := Kd.R_slice HO_6.out
          subst eo9
          have p371 : 0 ≤ (x7_1 : Int) := of_decide_eq_true (by assumption)
          have q371 : x7_1 < (t368.length : Int) := of_decide_eq_true (by assumption)
          obtain ⟨ad371, e371, hx371_0⟩ := Kd.at_int (Kd.R_reads' HO_6.out).2.2 x7_1 p371 q371
          cases e371
          replace p371 := eq_true p371
          replace q371 := eq_true q371
          go_wp2_with (first | ((with_reducible refine gate_callee (f := 74) rfl ?_); refine goesL_ (some 23) rfl rfl Tryz.func74 (by kernel_rfl) rfl #[.slice A0 l0.length c0, .int .i64 (rd t368 x7_1)] rfl (by (try simp only [List.map_toArray, List.map_cons, List.map_nil]); first | done | rfl | (simp only [List.length_drop, List.length_take]; rfl) | (simp only [Int.mul_one, Int.one_mul, Int.add_zero, Int.zero_add, pxw]; rfl)) ?_; (with_reducible refine (ih k1 (by have := HK1.out; omega) _ _ l0 (rd t368 x7_1) t372 _ ?side1 ?side2 A7.out).mono ?_); (case side1 => repeat (first | exact (Kd.C_below HR0.out HB.out) | (with_reducible refine Kd.C_alloc ?_ _) | (with_reducible refine Kd.C_drewN ?_ _) | (with_reducible refine Kd.C_drew ?_))); (case side2 => exact HC0.out); rintro e w10 ⟨rfl, hb⟩; refine ⟨_, rfl, ?_⟩; have n0_ := Aside0.mk (Kd.R_below (rl_ HO_6.out) hb); have n1_ := Aside0.mk (below_step (bl_ HB.out) hb); clear HO_6; clear HB; have HO_6 := n0_; have HB := n1_; clear n0_ n1_; (try clear hb); (try clear hb2); (try clear hk); (try clear hi)))
          go_roundg k1
          case measure => have := HK1.out; omega
          case rel => exact ⟨(ji8), (wrap64 (x7_1 + 1)), (by first | rfl | (simp; done) | (simp only [← hji8] <;> (first | rfl | simp)) | (simp [*]; done)), (by first | rfl | simp [*]), H', ⟨by have := HK1.out; omega⟩, ⟨by (with_reducible repeat (first | apply Kd.R_alloc | apply Kd.R_drewN | apply Kd.R_drew)); exact HO_6.out⟩, ⟨bl_ HB.out⟩⟩
        · rw [if_neg c6] at H
          exact absurd H (by simp)
      · rw [if_neg c5] at H
        have c5b0 : decide (x7_1 < (t368.length : Int)) = false := decide_eq_false c5
        clear c5
        obtain rfl := Option.some.inj H
        obtain ⟨Ao11, co11, eo11⟩ := Kd.R_slice HO_6.out
        subst eo11
        go_wp2
        go_ret
        exact ⟨by first | rfl | simp [*], bl_ HB.out⟩
end Go.Proofs.YtjdlepjgniokdaaGreatDoor.PA

end
section

namespace Go.Proofs.YtjdlepjgniokdaaGreatDoor.PA
open Go.RowKit Go.Proofs.YtjdlepjgniokdaaGreatDoorW.PrintWords Go.Proofs.YtjdlepjgniokdaaGreatDoorW.PrintLast Go.Proofs.YtjdlepjgniokdaaGreatDoorW.PrintMore
attribute [local go_sem] max2_int min2_int max_two min_two max_three min_three max_four min_four
set_option linter.unusedVariables false
set_option linter.unusedSimpArgs false
def spec_ExprValid.l0 : Nat → List (S27) → Int → Option (Bool)
  | 0, _, _ => none
  | k + 1, x0, x3 => if x3 < (x0.length : Int) then (if 0 ≤ x3 then ((spec_CellValid.f k ((rd_T27 x0 x3).f0) ((rd_T27 x0 x3).f1) ((rd_T27 x0 x3).f2)).bind fun t374 => (if t374 = true then (spec_ExprValid.l0 k x0 (wrap64 (x3 + 1))) else (some false))) else (none)) else ((spec_l1In.f (x0.length : Int) 1 60).bind fun t375 => (if t375 = true then ((spec_l5End.f k x0 0).bind fun t376 => (if t376 = (x0.length : Int) then ((spec_l5Depth.f k x0 0).bind fun t377 => (some (decide (t377 ≤ 12)))) else (some false))) else (some false)))
def spec_ExprValid.f (k : Nat) (l0 : List (S27)) : Option (Bool) := spec_ExprValid.l0 k l0 0
set_option maxHeartbeats 8000000 in
set_option maxRecDepth 100000 in
theorem spec_ExprValid.calls (k : Nat) (A0 : Option Addr) (c0 : Nat) (l0 : List (S27)) (r : Bool) (w : World) (hr0 : Kd.C k27 w A0 l0.length l0) (hc0 : l0.length ≤ c0) (h : spec_ExprValid.f k l0 = some r) :
    Calls Tryz.prog 25 #[.slice A0 l0.length c0] w fun e w' => e = .returned (.bool r) ∧ Below w.heap.size w w' := by
  have hu27 := Tryz.underlying27
  have HR0 := Aside0.mk hr0
  have HC0 := Aside0.mk hc0
  clear hr0 hc0
  have HB := Aside0.mk (Below.refl w.heap.size w)
  have H : (spec_ExprValid.l0 k l0 0) = some r := h
  clear h
  have H' := Aside0.mk H
  clear H
  go_enter Tryz.func25, Tryz.ntmps25
  go_wp2
  go_loopg [3] k (fun kq v3 w' => ∃ (x3_1 : Int), v3 = .int .i64 x3_1 ∧ Aside0 (spec_ExprValid.l0 kq l0 x3_1 = some r) ∧ Aside0 (kq ≤ k) ∧ Aside0 (Below w.heap.size w w'))
  case atStart => exact ⟨(0), (by first | rfl | simp [*]), H', ⟨Nat.le_refl _⟩, ⟨bl_ HB.out⟩⟩
  case round =>
    clear H'
    obtain ⟨x3_1, rfl, HA, HK1, HB⟩ := hrel
    cases gk with
    | zero => exact absurd HA.out (by simp [spec_ExprValid.l0])
    | succ k1 =>
      have H := HA.out
      clear HA
      simp only [spec_ExprValid.l0] at H
      by_cases c2 : x3_1 < (l0.length : Int)
      · rw [if_pos c2] at H
        have c2b0 : decide (x3_1 < (l0.length : Int)) = true := decide_eq_true c2
        clear c2
        by_cases c3 : 0 ≤ x3_1
        · rw [if_pos c3] at H
          have c3b0 : decide (0 ≤ x3_1) = true := decide_eq_true c3
          clear c3
          replace H := Option.bind_eq_some_iff.mp H
          obtain ⟨t374, A40, H⟩ := H
          replace H : (if t374 = true then (spec_ExprValid.l0 k1 l0 (wrap64 (x3_1 + 1))) else (some false)) = some r := H
          have A4 := Aside0.mk A40
          clear A40
          have HU_ := Aside0.mk H
          clear H
          have p373 : 0 ≤ (x3_1 : Int) := of_decide_eq_true (by assumption)
          have q373 : x3_1 < (l0.length : Int) := of_decide_eq_true (by assumption)
          obtain ⟨ad373, e373, hx373_0, hx373_1, hx373_2⟩ := at_T27 HR0.out x3_1 p373 q373
          cases e373
          replace hx373_0 := (HB.out.cell (World.block_lt_of_cell? w _ hx373_0)).trans hx373_0
          replace hx373_1 := (HB.out.cell (World.block_lt_of_cell? w _ hx373_1)).trans hx373_1
          replace hx373_2 := (HB.out.cell (World.block_lt_of_cell? w _ hx373_2)).trans hx373_2
          replace p373 := eq_true p373
          replace q373 := eq_true q373
          go_upto_if 15 with (first | ((with_reducible refine gate_callee (f := 72) rfl ?_); refine goesL_ (some 14) rfl rfl Tryz.func72 (by kernel_rfl) rfl #[.agg #[.int .i64 ((rd_T27 l0 x3_1).f0), .string ((rd_T27 l0 x3_1).f1), .int .i64 ((rd_T27 l0 x3_1).f2)]] rfl (by (try simp only [List.map_toArray, List.map_cons, List.map_nil]); first | done | rfl | (simp only [List.length_drop, List.length_take]; rfl) | (simp only [Int.mul_one, Int.one_mul, Int.add_zero, Int.zero_add, pxw]; rfl)) ?_; (with_reducible refine (spec_CellValid.calls k1 ((rd_T27 l0 x3_1).f0) ((rd_T27 l0 x3_1).f1) ((rd_T27 l0 x3_1).f2) t374 _ A4.out).mono ?_); rintro e w5 ⟨rfl, hb⟩; refine ⟨_, rfl, ?_⟩; have n0_ := Aside0.mk (below_step (bl_ HB.out) hb); clear HB; have HB := n0_; clear n0_; (try clear hb); (try clear hb2); (try clear hk); (try clear hi)))
          (try simp only [Act.put, List.setIfInBounds_toArray, List.set_cons_zero, List.set_cons_succ])
          have H := HU_.out
          clear HU_
          by_cases c6 : t374 = true
          · subst c6
            have H1 : (spec_ExprValid.l0 k1 l0 (wrap64 (x3_1 + 1))) = some r := by rw [if_pos rfl] at H; exact H
            clear H
            have H := H1
            clear H1
            have H' := Aside0.mk H
            clear H
            go_wp2
            go_roundg k1
            case measure => have := HK1.out; omega
            case rel => exact ⟨(wrap64 (x3_1 + 1)), (by first | rfl | simp [*]), H', ⟨by have := HK1.out; omega⟩, ⟨bl_ HB.out⟩⟩
          · replace c6 := Bool.eq_false_iff.mpr c6
            subst c6
            have H1 : (some false) = some r := by rw [if_neg (show ¬ (false = true) by decide)] at H; exact H
            clear H
            have H := H1
            clear H1
            obtain rfl := Option.some.inj H
            go_wp2
            go_ret
            exact ⟨by first | rfl | simp [*], bl_ HB.out⟩
        · rw [if_neg c3] at H
          exact absurd H (by simp)
      · rw [if_neg c2] at H
        have c2b0 : decide (x3_1 < (l0.length : Int)) = false := decide_eq_false c2
        clear c2
        replace H := Option.bind_eq_some_iff.mp H
        obtain ⟨t375, A70, H⟩ := H
        replace H : (if t375 = true then ((spec_l5End.f k1 l0 0).bind fun t376 => (if t376 = (l0.length : Int) then ((spec_l5Depth.f k1 l0 0).bind fun t377 => (some (decide (t377 ≤ 12)))) else (some false))) else (some false)) = some r := H
        have A7 := Aside0.mk A70
        clear A70
        by_cases c8 : t375 = true
        · subst c8
          have H1 : ((spec_l5End.f k1 l0 0).bind fun t376 => (if t376 = (l0.length : Int) then ((spec_l5Depth.f k1 l0 0).bind fun t377 => (some (decide (t377 ≤ 12)))) else (some false))) = some r := by rw [if_pos rfl] at H; exact H
          clear H
          have H := H1
          clear H1
          replace H := Option.bind_eq_some_iff.mp H
          obtain ⟨t376, A90, H⟩ := H
          replace H : (if t376 = (l0.length : Int) then ((spec_l5Depth.f k1 l0 0).bind fun t377 => (some (decide (t377 ≤ 12)))) else (some false)) = some r := H
          have A9 := Aside0.mk A90
          clear A90
          by_cases c10 : t376 = (l0.length : Int)
          · rw [if_pos c10] at H
            have c10b0 : (t376 == (l0.length : Int)) = true := beq_iff_eq.mpr c10
            have c10b1 : (t376 != (l0.length : Int)) = false := bne_eq_false_iff_eq.mpr c10
            clear c10
            replace H := Option.bind_eq_some_iff.mp H
            obtain ⟨t377, A110, H⟩ := H
            replace H : (some (decide (t377 ≤ 12))) = some r := H
            have A11 := Aside0.mk A110
            clear A110
            obtain rfl := Option.some.inj H
            go_wp2_with (first | ((with_reducible refine gate_callee (f := 70) rfl ?_); refine goesL_ (some 18) rfl rfl Tryz.func70 (by kernel_rfl) rfl #[.int .i64 (l0.length : Int), .int .i64 1, .int .i64 60] rfl (by (try simp only [List.map_toArray, List.map_cons, List.map_nil]); first | done | rfl | (simp only [List.length_drop, List.length_take]; rfl) | (simp only [Int.mul_one, Int.one_mul, Int.add_zero, Int.zero_add, pxw]; rfl)) ?_; (with_reducible refine (spec_l1In.calls (l0.length : Int) 1 60 true _ A7.out).mono ?_); rintro e w' ⟨rfl, ⟨nd, rfl⟩⟩; refine ⟨_, rfl, ?_⟩) | (go_at_call 73; (with_reducible refine (spec_l5End.calls k1 _ _ l0 0 t376 _ ?side1 ?side2 A9.out).mono ?_); (case side1 => repeat (first | exact (Kd.C_below HR0.out (bl_ HB.out)) | (with_reducible refine Kd.C_alloc ?_ _) | (with_reducible refine Kd.C_drewN ?_ _) | (with_reducible refine Kd.C_drew ?_))); (case side2 => exact HC0.out); rintro e w12 ⟨rfl, hb⟩; have n0_ := Aside0.mk (below_step (bl_ HB.out) hb); clear HB; have HB := n0_; clear n0_; (try clear hb); (try clear hb2); (try clear hk); (try clear hi)) | (go_at_call 74; (with_reducible refine (spec_l5Depth.calls k1 _ _ l0 0 t377 _ ?side1 ?side2 A11.out).mono ?_); (case side1 => repeat (first | exact (Kd.C_below HR0.out HB.out) | (with_reducible refine Kd.C_alloc ?_ _) | (with_reducible refine Kd.C_drewN ?_ _) | (with_reducible refine Kd.C_drew ?_))); (case side2 => exact HC0.out); rintro e w13 ⟨rfl, hb⟩; have n0_ := Aside0.mk (below_step (bl_ HB.out) hb); clear HB; have HB := n0_; clear n0_; (try clear hb); (try clear hb2); (try clear hk); (try clear hi)))
            go_ret
            exact ⟨by first | rfl | simp [*], bl_ HB.out⟩
          · rw [if_neg c10] at H
            have c10b0 : (t376 == (l0.length : Int)) = false := beq_eq_false_iff_ne.mpr c10
            have c10b1 : (t376 != (l0.length : Int)) = true := bne_iff_ne.mpr c10
            obtain rfl := Option.some.inj H
            go_wp2_with (first | ((with_reducible refine gate_callee (f := 70) rfl ?_); refine goesL_ (some 18) rfl rfl Tryz.func70 (by kernel_rfl) rfl #[.int .i64 (l0.length : Int), .int .i64 1, .int .i64 60] rfl (by (try simp only [List.map_toArray, List.map_cons, List.map_nil]); first | done | rfl | (simp only [List.length_drop, List.length_take]; rfl) | (simp only [Int.mul_one, Int.one_mul, Int.add_zero, Int.zero_add, pxw]; rfl)) ?_; (with_reducible refine (spec_l1In.calls (l0.length : Int) 1 60 true _ A7.out).mono ?_); rintro e w' ⟨rfl, ⟨nd, rfl⟩⟩; refine ⟨_, rfl, ?_⟩) | (go_at_call 73; (with_reducible refine (spec_l5End.calls k1 _ _ l0 0 t376 _ ?side1 ?side2 A9.out).mono ?_); (case side1 => repeat (first | exact (Kd.C_below HR0.out (bl_ HB.out)) | (with_reducible refine Kd.C_alloc ?_ _) | (with_reducible refine Kd.C_drewN ?_ _) | (with_reducible refine Kd.C_drew ?_))); (case side2 => exact HC0.out); rintro e w14 ⟨rfl, hb⟩; have n0_ := Aside0.mk (below_step (bl_ HB.out) hb); clear HB; have HB := n0_; clear n0_; (try clear hb); (try clear hb2); (try clear hk); (try clear hi)))
            go_ret
            exact ⟨by first | rfl | simp [*], bl_ HB.out⟩
        · replace c8 := Bool.eq_false_iff.mpr c8
          subst c8
          have H1 : (some false) = some r := by rw [if_neg (show ¬ (false = true) by decide)] at H; exact H
          clear H
          have H := H1
          clear H1
          obtain rfl := Option.some.inj H
          go_wp2_with (first | ((with_reducible refine gate_callee (f := 70) rfl ?_); refine goesL_ (some 18) rfl rfl Tryz.func70 (by kernel_rfl) rfl #[.int .i64 (l0.length : Int), .int .i64 1, .int .i64 60] rfl (by (try simp only [List.map_toArray, List.map_cons, List.map_nil]); first | done | rfl | (simp only [List.length_drop, List.length_take]; rfl) | (simp only [Int.mul_one, Int.one_mul, Int.add_zero, Int.zero_add, pxw]; rfl)) ?_; (with_reducible refine (spec_l1In.calls (l0.length : Int) 1 60 false _ A7.out).mono ?_); rintro e w' ⟨rfl, ⟨nd, rfl⟩⟩; refine ⟨_, rfl, ?_⟩))
          go_ret
          exact ⟨by first | rfl | simp [*], bl_ HB.out⟩
end Go.Proofs.YtjdlepjgniokdaaGreatDoor.PA

end
