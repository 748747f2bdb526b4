/- One law of the program and what its proof stands on, put together by a program out of the texts that print.sh and this session's own programs wrote: the words of the print, contracts of Go functions, plain lemmas, the law. Conditions: those that each theorem names. -/
import Derived.Lib.Bytes
import Derived.Lib.ItoaNum
import Derived.Lib.ItoaLen
import Derived.Lib.Atoi
import Derived.Test.YtjdlepjgniokdaaGreatDoorQve
section

namespace Go.Proofs.YtjdlepjgniokdaaGreatDoor.PA
open Go.RowKit Go.Proofs.YtjdlepjgniokdaaGreatDoorW.PrintWords Go.Proofs.YtjdlepjgniokdaaGreatDoorW.PrintLast Go.Proofs.YtjdlepjgniokdaaGreatDoorW.PrintMore
attribute [local go_sem] max2_int min2_int max_two min_two max_three min_three max_four min_four
set_option linter.unusedVariables false
set_option linter.unusedSimpArgs false
def spec_ValueValid.l0 : Nat → List (S27) → List (S27) → Int → Option (Bool)
  | 0, _, _, _ => none
  | k + 1, x0, x3, x4 => if x4 < (x0.length : Int) then (if 0 ≤ x4 then (if ((rd_T27 x0 x4).f0) = 1 then ((spec_ReadFraction.f k ((rd_T27 x0 x4).f1)).bind fun bt387 => (if bt387.2.2 = true then (if x4 < (x3.length : Int) then (spec_ValueValid.l0 k x0 (x3.set (x4 : Int).toNat (⟨(rd_T27 x3 x4).f0, (⟨#[48]⟩ : ByteArray), (rd_T27 x3 x4).f2⟩ : S27)) (wrap64 (x4 + 1))) else (none)) else (some false))) else (if ((rd_T27 x0 x4).f0) = 2 then (spec_ValueValid.l0 k x0 x3 (wrap64 (x4 + 1))) else (if ((rd_T27 x0 x4).f0) = 3 then (spec_ValueValid.l0 k x0 x3 (wrap64 (x4 + 1))) else (if ((rd_T27 x0 x4).f0) = 5 then (spec_ValueValid.l0 k x0 x3 (wrap64 (x4 + 1))) else (some false))))) else (none)) else ((spec_ExprValid.f k x3).bind fun t384 => (some t384))
def spec_ValueValid.f (k : Nat) (l0 : List (S27)) : Option (Bool) := (some (([] : List (S27)) : List (S27))).bind fun y378 => (if y378.length + l0.length < 4398046511104 then (spec_ValueValid.l0 k l0 (y378 ++ l0) 0) else (none))
set_option maxHeartbeats 8000000 in
set_option maxRecDepth 100000 in
theorem spec_ValueValid.calls (k : Nat) (A0 : Option Addr) (c0 : Nat) (l0 : List (S27)) (r : Bool) (w : World) (hr0 : Kd.C k27 w A0 l0.length l0) (hc0 : l0.length ≤ c0) (h : spec_ValueValid.f k l0 = some r) :
    Calls Tryz.prog 16 #[.slice A0 l0.length c0] w fun e w' => e = .returned (.bool r) ∧ Below w.heap.size w w' := by
  have hu76 := Tryz.underlying76
  have HR0 := Aside0.mk hr0
  have HC0 := Aside0.mk hc0
  clear hr0 hc0
  have HB := Aside0.mk (Below.refl w.heap.size w)
  have H : ((some (([] : List (S27)) : List (S27))).bind fun y378 => (if y378.length + l0.length < 4398046511104 then (spec_ValueValid.l0 k l0 (y378 ++ l0) 0) else (none))) = some r := h
  clear h
  obtain ⟨y378, hy378⟩ : ∃ y_ : List (S27), y_ = (([] : List (S27))) := ⟨_, rfl⟩
  replace H : (if y378.length + l0.length < 4398046511104 then (spec_ValueValid.l0 k l0 (y378 ++ l0) 0) else (none)) = some r := by first | (rw [hy378]; with_reducible exact H) | (have H2_ := (Option.bind_some _ _).symm.trans H; rw [hy378]; with_reducible exact H2_) | (have H2_ := (Option.bind_some _ _).symm.trans H; with_reducible exact H2_) | with_reducible exact H | (rw [hy378]; exact H) | exact H
  have Ny378 := Aside0.mk hy378
  clear hy378
  by_cases c2 : y378.length + l0.length < 4398046511104
  · rw [if_pos c2] at H
    have LMc2 := Aside0.mk c2
    clear c2
    obtain ⟨y381, hy381⟩ : ∃ y_ : List (S27), y_ = (y378 ++ l0) := ⟨_, rfl⟩
    replace H : (spec_ValueValid.l0 k l0 y381 0) = some r := by first | (rw [hy381]; with_reducible exact H) | (have H2_ := (Option.bind_some _ _).symm.trans H; rw [hy381]; with_reducible exact H2_) | (have H2_ := (Option.bind_some _ _).symm.trans H; with_reducible exact H2_) | with_reducible exact H | (rw [hy381]; exact H) | exact H
    have Ny381 := Aside0.mk hy381
    clear hy381
    have H' := Aside0.mk H
    clear H
    go_enter Tryz.func16, Tryz.ntmps16
    go_wp2_with (first | ((with_reducible refine gate_dst (N := 7) rfl ?_); refine Kd.R_lit k27 _ 27 ?hg (N := 7) ?hd (xs := ([] : List (S27))) (inner := []) (ok := fun _ => True) (okp := fun _ => True) ?hr ?hp (fun _ hk => hk) trivial (Below.refl _ _) (Nat.le_refl _) (by simp) ?_; (case hd => rfl); (case hg => rfl); (case hr => first | (go_simp; done) | (go_simp; rfl)); (case hp => exact (Reps.none _ _)); intro v379 w3 ho4 hb hg_ hnew_; clear hg_ hnew_; (first | rw [← Ny378.out] at ho4 | (simp only [Int.reduceToNat] at ho4; rw [← Ny378.out] at ho4)); have n0_ := Aside0.mk (Kd.R_lower ho4 (below_size (by repeat (first | (with_reducible first | exact HB.out | apply below_alloc | apply pw_below_drewN | apply below_drew1) | exact HB.out)))); have n1_ := Aside0.mk (below_step (by repeat (first | (with_reducible first | exact HB.out | apply below_alloc | apply pw_below_drewN | apply below_drew1) | exact HB.out)) hb); clear HB; have HO380 := n0_; have HB := n1_; clear n0_ n1_; clear hb ho4) | ((with_reducible refine gate_builtin (b := .append) (xs := #[.tmp 7, .tmp 8]) rfl ?_); at_builtin; refine Kd.R_append_rows k27 (w0 := w) w.heap.size rfl (.tmp 7) (.tmp 8) 23 27 (.agg #[(.int .i64 0), (.string ⟨#[]⟩), (.int .i64 0)]) 32 rfl Tryz.underlying23 info27 rfl (by decide) (by omega) v379 y378 l0 _ _ _ (fun _ => True) (fun _ => False) rfl rfl ?aO ?aR (fun _ _ h => h) (fun _ h => h.elim) ?aF ?aB ?aS ?aL ?_; (case aR => repeat (first | exact (Kd.C_below HR0.out HB.out) | (with_reducible refine Kd.C_alloc ?_ _) | (with_reducible refine Kd.C_drewN ?_ _) | (with_reducible refine Kd.C_drew ?_))); (case aB => exact (by repeat (first | (with_reducible first | exact HB.out | apply below_alloc | apply pw_below_drewN | apply below_drew1) | exact HB.out))); (case aF => exact (fun _ _ => trivial)); (case aO => exact (by (with_reducible repeat (first | apply Kd.R_alloc | apply Kd.R_drewN | apply Kd.R_drew)); exact HO380.out)); (case aS => exact (below_size (by repeat (first | (with_reducible first | exact HB.out | apply below_alloc | apply pw_below_drewN | apply below_drew1) | exact HB.out)))); (case aL => have := LMc2.out; omega); intro v382 w5 ho hb hg hat; rw [← Ny381.out] at ho; have n0_ := Aside0.mk (hb); have n1_ := Aside0.mk (ho); clear HB; clear HO380; have HB := n0_; have HO383 := n1_; clear n0_ n1_; clear ho hb hg hat))
    go_loopg [4] k (fun kq v4 w' => ∃ (x3_1 : List (S27)) (x4_1 : Int), v4 = .int .i64 x4_1 ∧ Aside0 (spec_ValueValid.l0 kq l0 x3_1 x4_1 = some r) ∧ Aside0 (kq ≤ k) ∧ Aside0 (Kd.R k27 27 w' w.heap.size (fun _ => True) v382 x3_1) ∧ Aside0 (Below w.heap.size w w'))
    case atStart => exact ⟨(y381), (0), (by first | rfl | (simp; done) | (simp [*]; done)), H', ⟨Nat.le_refl _⟩, ⟨by (with_reducible repeat (first | apply Kd.R_alloc | apply Kd.R_drewN | apply Kd.R_drew)); exact HO383.out⟩, ⟨by repeat (first | (with_reducible first | exact HB.out | apply below_alloc | apply pw_below_drewN | apply below_drew1) | exact HB.out)⟩⟩
    case round =>
      clear H'
      try clear c1
      try clear c2
      try clear p2
      obtain ⟨x3_1, x4_1, rfl, HA, HK1, HO_3, HB⟩ := hrel
      cases gk with
      | zero => exact absurd HA.out (by simp [spec_ValueValid.l0])
      | succ k1 =>
        have H := HA.out
        clear HA
        simp only [spec_ValueValid.l0] at H
        by_cases c6 : x4_1 < (l0.length : Int)
        · rw [if_pos c6] at H
          have c6b0 : decide (x4_1 < (l0.length : Int)) = true := decide_eq_true c6
          clear c6
          by_cases c7 : 0 ≤ x4_1
          · rw [if_pos c7] at H
            have c7b0 : decide (0 ≤ x4_1) = true := decide_eq_true c7
            clear c7
            by_cases c8 : ((rd_T27 l0 x4_1).f0) = 1
            · rw [if_pos c8] at H
              have c8b0 : (((rd_T27 l0 x4_1).f0) == 1) = true := beq_iff_eq.mpr c8
              have c8b1 : (((rd_T27 l0 x4_1).f0) != 1) = false := bne_eq_false_iff_eq.mpr c8
              clear c8
              replace H := Option.bind_eq_some_iff.mp H
              obtain ⟨⟨t387, t388, t389⟩, A90, H⟩ := H
              replace H : (if t389 = true then (if x4_1 < (x3_1.length : Int) then (spec_ValueValid.l0 k1 l0 (x3_1.set (x4_1 : Int).toNat (⟨(rd_T27 x3_1 x4_1).f0, (⟨#[48]⟩ : ByteArray), (rd_T27 x3_1 x4_1).f2⟩ : S27)) (wrap64 (x4_1 + 1))) else (none)) else (some false)) = some r := H
              have A9 := Aside0.mk A90
              clear A90
              by_cases c10 : t389 = true
              · subst c10
                have H1 : (if x4_1 < (x3_1.length : Int) then (spec_ValueValid.l0 k1 l0 (x3_1.set (x4_1 : Int).toNat (⟨(rd_T27 x3_1 x4_1).f0, (⟨#[48]⟩ : ByteArray), (rd_T27 x3_1 x4_1).f2⟩ : S27)) (wrap64 (x4_1 + 1))) else (none)) = some r := by rw [if_pos rfl] at H; exact H
                clear H
                have H := H1
                clear H1
                by_cases c11 : x4_1 < (x3_1.length : Int)
                · rw [if_pos c11] at H
                  have c11b0 : decide (x4_1 < (x3_1.length : Int)) = true := decide_eq_true c11
                  clear c11
                  obtain ⟨y391, hy391⟩ : ∃ y_ : List (S27), y_ = (x3_1.set (x4_1 : Int).toNat (⟨(rd_T27 x3_1 x4_1).f0, (⟨#[48]⟩ : ByteArray), (rd_T27 x3_1 x4_1).f2⟩ : S27)) := ⟨_, rfl⟩
                  replace H : (spec_ValueValid.l0 k1 l0 y391 (wrap64 (x4_1 + 1))) = some r := by first | (rw [hy391]; with_reducible exact H) | (have H2_ := (Option.bind_some _ _).symm.trans H; rw [hy391]; with_reducible exact H2_) | (have H2_ := (Option.bind_some _ _).symm.trans H; with_reducible exact H2_) | with_reducible exact H | (rw [hy391]; exact H) | exact H
                  have Ny391 := Aside0.mk hy391
                  clear hy391
                  have H' := Aside0.mk H
                  clear H
                  have p385 : 0 ≤ (x4_1 : Int) := of_decide_eq_true (by first | (with_reducible assumption) | assumption)
                  have q385 : x4_1 < (l0.length : Int) := of_decide_eq_true (by first | (with_reducible assumption) | assumption)
                  obtain ⟨ad385, e385, hx385_0, hx385_1, hx385_2⟩ := at_T27 HR0.out x4_1 p385 q385
                  cases e385
                  replace hx385_0 := (HB.out.cell (World.block_lt_of_cell? w _ hx385_0)).trans hx385_0
                  replace hx385_1 := (HB.out.cell (World.block_lt_of_cell? w _ hx385_1)).trans hx385_1
                  replace hx385_2 := (HB.out.cell (World.block_lt_of_cell? w _ hx385_2)).trans hx385_2
                  replace p385 := eq_true p385
                  replace q385 := eq_true q385
                  have p386 : 0 ≤ (x4_1 : Int) := of_decide_eq_true (by first | (with_reducible assumption) | assumption)
                  have q386 : x4_1 < (l0.length : Int) := of_decide_eq_true (by first | (with_reducible assumption) | assumption)
                  obtain ⟨ad386, e386, hx386_0, hx386_1, hx386_2⟩ := at_T27 HR0.out x4_1 p386 q386
                  obtain rfl : ad385 = ad386 := (by injection e386)
                  replace hx386_0 := (HB.out.cell (World.block_lt_of_cell? w _ hx386_0)).trans hx386_0
                  replace hx386_1 := (HB.out.cell (World.block_lt_of_cell? w _ hx386_1)).trans hx386_1
                  replace hx386_2 := (HB.out.cell (World.block_lt_of_cell? w _ hx386_2)).trans hx386_2
                  replace p386 := eq_true p386
                  replace q386 := eq_true q386
                  go_wp2_with (first | ((with_reducible refine gate_callee (f := 62) rfl ?_); refine goesL_ (some 28) rfl rfl Tryz.func62 (by kernel_rfl) rfl #[.string ((rd_T27 l0 x4_1).f1)] rfl (by (try simp only [List.map_toArray, List.map_cons, List.map_nil]); first | done | rfl | (simp only [List.length_drop, List.length_take]; rfl) | (simp only [Int.mul_one, Int.one_mul, Int.add_zero, Int.zero_add, pxw]; rfl)) ?_; (with_reducible refine (spec_ReadFraction.calls k1 ((rd_T27 l0 x4_1).f1) t387 t388 true _ A9.out).mono ?_); rintro e w13 ⟨rfl, hb⟩; refine ⟨_, rfl, ?_⟩; have n0_ := Aside0.mk (Kd.R_below (by (with_reducible repeat (first | apply Kd.R_alloc | apply Kd.R_drewN | apply Kd.R_drew)); exact HO_3.out) hb); have n1_ := Aside0.mk (below_step (by repeat (first | (with_reducible first | exact HB.out | apply below_alloc | apply pw_below_drewN | apply below_drew1) | exact HB.out)) hb); clear HO_3; clear HB; have HO_3 := n0_; have HB := n1_; clear n0_ n1_; (try clear hb); (try clear hb2); (try clear hk); (try clear hi)) | ((with_reducible refine gate_dst (N := 5) rfl ?_); refine box_event ?hg (N := 5) ?hd (cs := #[.int .i64 0, .int .i64 0]) (t := 76) ?hr ?_; (case hd => rfl); (case hg => rfl); (case hr => first | (go_simp; done) | (go_simp; rfl)); intro gb390 hg w14 hbox hb; have n0_ := Aside0.mk (Kd.R_below (by (with_reducible repeat (first | apply Kd.R_alloc | apply Kd.R_drewN | apply Kd.R_drew)); exact HO_3.out) hb); have n1_ := Aside0.mk (below_step (by repeat (first | (with_reducible first | exact HB.out | apply below_alloc | apply pw_below_drewN | apply below_drew1) | exact HB.out)) hb); have n2_ := Aside0.mk (hbox); have n3_ := Aside0.mk ((by rw [hg]; exact (below_size (by repeat (first | (with_reducible first | exact HB.out | apply below_alloc | apply pw_below_drewN | apply below_drew1) | exact HB.out))) : w.heap.size ≤ gb390)); have n4_ := Aside0.mk ((by rw [hg]; exact (below_size (by repeat (first | (with_reducible first | exact HB.out | apply below_alloc | apply pw_below_drewN | apply below_drew1) | exact HB.out))) : w.heap.size ≤ gb390)); clear HO_3; clear HB; have HO_3 := n0_; have HB := n1_; have BK390 := n2_; have GW390 := n3_; have GE390 := n4_; clear n0_ n1_ n2_ n3_ n4_; clear hb hbox hg; have hcz15_0 : w14.cell? ⟨gb390, 0, none⟩ = some (.int .i64 0) := (blk_cell BK390.out 0).trans rfl; have hcz15_1 : w14.cell? ⟨gb390, 1, none⟩ = some (.int .i64 0) := (blk_cell BK390.out 1).trans rfl; have hfz15_0 := blk_frozen BK390.out 0; have hfz15_1 := blk_frozen BK390.out 1) | ((with_reducible refine gate_store (t := 76) (p := 5) rfl ?_); refine store_event (t := 76) (p := 5) (v := ?vo_w16) (w1 := ((w14.setCell ⟨gb390, 0, none⟩ (.int .i64 t387)).setCell ⟨gb390, 1, none⟩ (.int .i64 t388))) ?hg ?ho ?hn ?hr ?_; (case ho => rfl); (case hg => rfl); (case hn => rfl); (case hr => first | (go_simp; done) | (go_simp; rfl)); intro w16 hw; have n0_ : Aside0 (Kd.R k27 27 w16 w.heap.size (fun _ => True) v382 x3_1) := ⟨(by rw [hw]; exact (by (with_reducible repeat (first | apply Kd.R_alloc | apply Kd.R_drewN | apply Kd.R_drew)); exact Kd.R_mono (Kd.R_far (p := ⟨gb390, 1, none⟩) (Kd.R_far (p := ⟨gb390, 0, none⟩) (Kd.R_types HO_3.out BK390.out (by decide)) (fun _ hk => hk.2) (.int .i64 t387)) (fun _ hk => hk.2) (.int .i64 t388)) (fun _ hk => trivial)))⟩; have n1_ : Aside0 (w16.heap[gb390]? = some (.cells #[.int .i64 t387, .int .i64 t388] 76 (0, 0))) := ⟨(by rw [hw]; exact (by (with_reducible repeat (first | refine blk_drewN ?_ _ | refine blk_drew ?_ | refine blk_alloc ?_ _)); refine blk_put (cs := #[.int .i64 t387, .int .i64 0]) ?_ 1 _ rfl; (with_reducible repeat (first | refine blk_drewN ?_ _ | refine blk_drew ?_ | refine blk_alloc ?_ _)); refine blk_put (cs := #[.int .i64 0, .int .i64 0]) ?_ 0 _ rfl; (with_reducible repeat (first | refine blk_drewN ?_ _ | refine blk_drew ?_ | refine blk_alloc ?_ _)); exact BK390.out))⟩; have n2_ : Aside0 (Below w.heap.size w w16) := ⟨(by rw [hw]; exact (by repeat (first | (with_reducible first | exact HB.out | apply below_alloc | apply pw_below_drewN | apply below_drew1 | refine below_set ?_ GE390.out) | exact HB.out)))⟩; clear hw; clear HO_3; clear BK390; clear HB; have HO_3 := n0_; have BK390 := n1_; have HB := n2_; clear n0_ n1_ n2_; have p12 : 0 ≤ (x4_1 : Int) := of_decide_eq_true (by first | (with_reducible assumption) | assumption); have q12 : (x4_1 : Int) < ((x3_1.length : Int) : Int) := of_decide_eq_true (by first | (with_reducible assumption) | assumption); obtain ⟨go12, co12, eo12, gb12, gl12, cl12, HG12⟩ := Kd.R_form HO_3.out (by omega); (first | cases eo12 | (injection eo12 with ea_ en_ ec_; (first | subst ea_ | (injection ea_ with ea_; subst ea_)); subst ec_; clear en_)); have GB12 := Aside0.mk gb12; have GG12 := Aside0.mk HG12; clear gb12 gl12 HG12; obtain ⟨ce12, hcl12, hM12, hcc12, hfr12⟩ := Kd.R_elem HO_3.out z27 (x4_1 : Int) p12 q12; obtain rfl := k27_openM hM12; have hx12_0 : w16.cell? ⟨go12, (x4_1 : Int).toNat * 3, none⟩ = some (.int .i64 ((rd_T27 x3_1 x4_1).f0)) := hcc12 0 _ rfl; have hx12_1 : w16.cell? ⟨go12, (x4_1 : Int).toNat * 3 + 1, none⟩ = some (.string ((rd_T27 x3_1 x4_1).f1)) := hcc12 1 _ rfl; have hx12_2 : w16.cell? ⟨go12, (x4_1 : Int).toNat * 3 + 2, none⟩ = some (.int .i64 ((rd_T27 x3_1 x4_1).f2)) := hcc12 2 _ rfl; have hf12_0 : w16.frozen? ⟨go12, (x4_1 : Int).toNat * 3, none⟩ = false := hfr12 0; have hf12_1 : w16.frozen? ⟨go12, (x4_1 : Int).toNat * 3 + 1, none⟩ = false := hfr12 1; have hf12_2 : w16.frozen? ⟨go12, (x4_1 : Int).toNat * 3 + 2, none⟩ = false := hfr12 2; clear hcl12 hcc12 hfr12 hM12; replace p12 := eq_true p12; replace q12 := eq_true q12; have HX17 := Aside0.mk (show Kd.R k27 27 w16 w.heap.size (fun _ => True) (.slice (some ⟨go12, 0, none⟩) x3_1.length co12) x3_1 from (by (with_reducible repeat (first | apply Kd.R_alloc | apply Kd.R_drewN | apply Kd.R_drew)); exact HO_3.out)); obtain ⟨ce17, hcl17, hM17, hcc17, hfr17⟩ := Kd.R_elem HX17.out z27 (x4_1 : Int) (of_decide_eq_true (by first | (with_reducible assumption) | assumption)) (by have h_ : (x4_1 : Int) < ((x3_1.length : Int) : Int) := of_decide_eq_true (by first | (with_reducible assumption) | assumption); first | exact h_ | (have e_ := (Kd.R_reads' HO_3.out).1; omega) | simpa using h_); obtain rfl := k27_openM hM17; have HP17 := Kd.R_seg HX17.out (x4_1 : Int) (of_decide_eq_true (by first | (with_reducible assumption) | assumption)) (by have h_ : (x4_1 : Int) < ((x3_1.length : Int) : Int) := of_decide_eq_true (by first | (with_reducible assumption) | assumption); first | exact h_ | (have e_ := (Kd.R_reads' HO_3.out).1; omega) | simpa using h_) (seg := [.string (⟨#[48]⟩ : ByteArray)]) (j := 1) hcl17 hcc17 (show 2 ≤ 3 from by decide) (x' := (⟨(rd_T27 x3_1 x4_1).f0, (⟨#[48]⟩ : ByteArray), (rd_T27 x3_1 x4_1).f2⟩ : S27)) (k27_mkM _ _ _ (⟨(rd_T27 x3_1 x4_1).f0, (⟨#[48]⟩ : ByteArray), (rd_T27 x3_1 x4_1).f2⟩ : S27) ) (fun _ hk => hk); have hx17_1 := hcc17 1 _ rfl; (try simp only [show (k27).sz = 3 from rfl, Nat.mul_one, Nat.add_zero] at hx17_1); have hf17_1 := hfr17 1; (try simp only [show (k27).sz = 3 from rfl, Nat.mul_one, Nat.add_zero] at hf17_1); clear hcl17 hcc17 hfr17 hM17) | ((with_reducible refine gate_store (t := 9) (p := 36) rfl ?_); refine store_event (t := 9) (p := 36) (v := ?vo_w18) (w1 := (w16.setCell ⟨go12, (x4_1 : Int).toNat * 3 + 1, none⟩ (.string (⟨#[48]⟩ : ByteArray)))) ?hg ?ho ?hn ?hr ?_; (case ho => rfl); (case hg => rfl); (case hn => rfl); (case hr => first | (go_simp; done) | (go_simp; rfl)); intro w18 hw; have hg : w16.grownBy w18 (some go12) := (by rw [hw]; exact HP17.2); have hp_ : Kd.R k27 27 w18 w.heap.size (fun _ => True) (.slice (some ⟨go12, 0, none⟩) x3_1.length co12) y391 := (by rw [hw, Ny391.out]; exact HP17.1); clear HP17; have n0_ := Aside0.mk (hp_); have n1_ := Aside0.mk (blk_grown (g := gb390) (o := .cells #[.int .i64 t387, .int .i64 t388] 76 (0, 0)) (by (with_reducible repeat (first | refine blk_drewN ?_ _ | refine blk_drew ?_ | refine blk_alloc ?_ _)); exact BK390.out) hg (Kd.R_ne HO_3.out BK390.out (by decide))); have n2_ := Aside0.mk ((by rw [hw]; exact below_set (HB.out) GB12.out : Below w.heap.size w w18)); clear HO_3; clear BK390; clear HB; have HO_3 := n0_; have BK390 := n1_; have HB := n2_; clear n0_ n1_ n2_; clear hg hw hp_; have p392 : 0 ≤ (x4_1 : Int) := of_decide_eq_true (by first | (with_reducible assumption) | assumption); have q392 : x4_1 < (l0.length : Int) := of_decide_eq_true (by first | (with_reducible assumption) | assumption); obtain ⟨ad392, e392, hx392_0, hx392_1, hx392_2⟩ := at_T27 HR0.out x4_1 p392 q392; obtain rfl : ad385 = ad392 := (by injection e392); replace hx392_0 := (HB.out.cell (World.block_lt_of_cell? w _ hx392_0)).trans hx392_0; replace hx392_1 := (HB.out.cell (World.block_lt_of_cell? w _ hx392_1)).trans hx392_1; replace hx392_2 := (HB.out.cell (World.block_lt_of_cell? w _ hx392_2)).trans hx392_2; replace p392 := eq_true p392; replace q392 := eq_true q392))
                  go_roundg k1
                  case measure => have := HK1.out; omega
                  case rel => exact ⟨(y391), (wrap64 (x4_1 + 1)), (by first | rfl | (simp; done) | (simp [*]; done)), H', ⟨by have := HK1.out; omega⟩, ⟨by (with_reducible repeat (first | apply Kd.R_alloc | apply Kd.R_drewN | apply Kd.R_drew)); exact HO_3.out⟩, ⟨by repeat (first | (with_reducible first | exact HB.out | apply below_alloc | apply pw_below_drewN | apply below_drew1 | refine below_set ?_ GE390.out) | exact HB.out)⟩⟩
                · rw [if_neg c11] at H
                  exact absurd H (by simp)
              · replace c10 := Bool.eq_false_iff.mpr c10
                subst c10
                have H1 : (some false) = some r := by rw [if_neg (show ¬ (false = true) by decide)] at H; exact H
                clear H
                have H := H1
                clear H1
                obtain rfl := Option.some.inj H
                have p385 : 0 ≤ (x4_1 : Int) := of_decide_eq_true (by first | (with_reducible assumption) | assumption)
                have q385 : x4_1 < (l0.length : Int) := of_decide_eq_true (by first | (with_reducible assumption) | assumption)
                obtain ⟨ad385, e385, hx385_0, hx385_1, hx385_2⟩ := at_T27 HR0.out x4_1 p385 q385
                cases e385
                replace hx385_0 := (HB.out.cell (World.block_lt_of_cell? w _ hx385_0)).trans hx385_0
                replace hx385_1 := (HB.out.cell (World.block_lt_of_cell? w _ hx385_1)).trans hx385_1
                replace hx385_2 := (HB.out.cell (World.block_lt_of_cell? w _ hx385_2)).trans hx385_2
                replace p385 := eq_true p385
                replace q385 := eq_true q385
                have p386 : 0 ≤ (x4_1 : Int) := of_decide_eq_true (by first | (with_reducible assumption) | assumption)
                have q386 : x4_1 < (l0.length : Int) := of_decide_eq_true (by first | (with_reducible assumption) | assumption)
                obtain ⟨ad386, e386, hx386_0, hx386_1, hx386_2⟩ := at_T27 HR0.out x4_1 p386 q386
                obtain rfl : ad385 = ad386 := (by injection e386)
                replace hx386_0 := (HB.out.cell (World.block_lt_of_cell? w _ hx386_0)).trans hx386_0
                replace hx386_1 := (HB.out.cell (World.block_lt_of_cell? w _ hx386_1)).trans hx386_1
                replace hx386_2 := (HB.out.cell (World.block_lt_of_cell? w _ hx386_2)).trans hx386_2
                replace p386 := eq_true p386
                replace q386 := eq_true q386
                go_wp2_with (first | ((with_reducible refine gate_callee (f := 62) rfl ?_); refine goesL_ (some 28) rfl rfl Tryz.func62 (by kernel_rfl) rfl #[.string ((rd_T27 l0 x4_1).f1)] rfl (by (try simp only [List.map_toArray, List.map_cons, List.map_nil]); first | done | rfl | (simp only [List.length_drop, List.length_take]; rfl) | (simp only [Int.mul_one, Int.one_mul, Int.add_zero, Int.zero_add, pxw]; rfl)) ?_; (with_reducible refine (spec_ReadFraction.calls k1 ((rd_T27 l0 x4_1).f1) t387 t388 false _ A9.out).mono ?_); rintro e w19 ⟨rfl, hb⟩; refine ⟨_, rfl, ?_⟩; have n0_ := Aside0.mk (Kd.R_below (by (with_reducible repeat (first | apply Kd.R_alloc | apply Kd.R_drewN | apply Kd.R_drew)); exact HO_3.out) hb); have n1_ := Aside0.mk (below_step (by repeat (first | (with_reducible first | exact HB.out | apply below_alloc | apply pw_below_drewN | apply below_drew1) | exact HB.out)) hb); clear HO_3; clear HB; have HO_3 := n0_; have HB := n1_; clear n0_ n1_; (try clear hb); (try clear hb2); (try clear hk); (try clear hi)) | ((with_reducible refine gate_dst (N := 5) rfl ?_); refine box_event ?hg (N := 5) ?hd (cs := #[.int .i64 0, .int .i64 0]) (t := 76) ?hr ?_; (case hd => rfl); (case hg => rfl); (case hr => first | (go_simp; done) | (go_simp; rfl)); intro gb390 hg w20 hbox hb; have n0_ := Aside0.mk (Kd.R_below (by (with_reducible repeat (first | apply Kd.R_alloc | apply Kd.R_drewN | apply Kd.R_drew)); exact HO_3.out) hb); have n1_ := Aside0.mk (below_step (by repeat (first | (with_reducible first | exact HB.out | apply below_alloc | apply pw_below_drewN | apply below_drew1) | exact HB.out)) hb); have n2_ := Aside0.mk (hbox); have n3_ := Aside0.mk ((by rw [hg]; exact (below_size (by repeat (first | (with_reducible first | exact HB.out | apply below_alloc | apply pw_below_drewN | apply below_drew1) | exact HB.out))) : w.heap.size ≤ gb390)); have n4_ := Aside0.mk ((by rw [hg]; exact (below_size (by repeat (first | (with_reducible first | exact HB.out | apply below_alloc | apply pw_below_drewN | apply below_drew1) | exact HB.out))) : w.heap.size ≤ gb390)); clear HO_3; clear HB; have HO_3 := n0_; have HB := n1_; have BK390 := n2_; have GW390 := n3_; have GE390 := n4_; clear n0_ n1_ n2_ n3_ n4_; clear hb hbox hg; have hcz21_0 : w20.cell? ⟨gb390, 0, none⟩ = some (.int .i64 0) := (blk_cell BK390.out 0).trans rfl; have hcz21_1 : w20.cell? ⟨gb390, 1, none⟩ = some (.int .i64 0) := (blk_cell BK390.out 1).trans rfl; have hfz21_0 := blk_frozen BK390.out 0; have hfz21_1 := blk_frozen BK390.out 1))
                go_ret
                exact ⟨by first | rfl | (simp [errW_none, errW_some] <;> rfl) | (simp [*, errW_none, errW_some] <;> rfl), by repeat (first | (with_reducible first | exact HB.out | apply below_alloc | apply pw_below_drewN | apply below_drew1 | refine below_set ?_ GE390.out) | exact HB.out)⟩
            · rw [if_neg c8] at H
              have c8b0 : (((rd_T27 l0 x4_1).f0) == 1) = false := beq_eq_false_iff_ne.mpr c8
              have c8b1 : (((rd_T27 l0 x4_1).f0) != 1) = true := bne_iff_ne.mpr c8
              by_cases c22 : ((rd_T27 l0 x4_1).f0) = 2
              · rw [if_pos c22] at H
                have c22b0 : (((rd_T27 l0 x4_1).f0) == 2) = true := beq_iff_eq.mpr c22
                have c22b1 : (((rd_T27 l0 x4_1).f0) != 2) = false := bne_eq_false_iff_eq.mpr c22
                clear c22
                have H' := Aside0.mk H
                clear H
                have p385 : 0 ≤ (x4_1 : Int) := of_decide_eq_true (by first | (with_reducible assumption) | assumption)
                have q385 : x4_1 < (l0.length : Int) := of_decide_eq_true (by first | (with_reducible assumption) | assumption)
                obtain ⟨ad385, e385, hx385_0, hx385_1, hx385_2⟩ := at_T27 HR0.out x4_1 p385 q385
                cases e385
                replace hx385_0 := (HB.out.cell (World.block_lt_of_cell? w _ hx385_0)).trans hx385_0
                replace hx385_1 := (HB.out.cell (World.block_lt_of_cell? w _ hx385_1)).trans hx385_1
                replace hx385_2 := (HB.out.cell (World.block_lt_of_cell? w _ hx385_2)).trans hx385_2
                replace p385 := eq_true p385
                replace q385 := eq_true q385
                have p393 : 0 ≤ (x4_1 : Int) := of_decide_eq_true (by first | (with_reducible assumption) | assumption)
                have q393 : x4_1 < (l0.length : Int) := of_decide_eq_true (by first | (with_reducible assumption) | assumption)
                obtain ⟨ad393, e393, hx393_0, hx393_1, hx393_2⟩ := at_T27 HR0.out x4_1 p393 q393
                obtain rfl : ad385 = ad393 := (by injection e393)
                replace hx393_0 := (HB.out.cell (World.block_lt_of_cell? w _ hx393_0)).trans hx393_0
                replace hx393_1 := (HB.out.cell (World.block_lt_of_cell? w _ hx393_1)).trans hx393_1
                replace hx393_2 := (HB.out.cell (World.block_lt_of_cell? w _ hx393_2)).trans hx393_2
                replace p393 := eq_true p393
                replace q393 := eq_true q393
                have p394 : 0 ≤ (x4_1 : Int) := of_decide_eq_true (by first | (with_reducible assumption) | assumption)
                have q394 : x4_1 < (l0.length : Int) := of_decide_eq_true (by first | (with_reducible assumption) | assumption)
                obtain ⟨ad394, e394, hx394_0, hx394_1, hx394_2⟩ := at_T27 HR0.out x4_1 p394 q394
                obtain rfl : ad385 = ad394 := (by injection e394)
                replace hx394_0 := (HB.out.cell (World.block_lt_of_cell? w _ hx394_0)).trans hx394_0
                replace hx394_1 := (HB.out.cell (World.block_lt_of_cell? w _ hx394_1)).trans hx394_1
                replace hx394_2 := (HB.out.cell (World.block_lt_of_cell? w _ hx394_2)).trans hx394_2
                replace p394 := eq_true p394
                replace q394 := eq_true q394
                go_wp2
                go_roundg k1
                case measure => have := HK1.out; omega
                case rel => exact ⟨(x3_1), (wrap64 (x4_1 + 1)), (by first | rfl | (simp; done) | (simp [*]; done)), H', ⟨by have := HK1.out; omega⟩, ⟨by (with_reducible repeat (first | apply Kd.R_alloc | apply Kd.R_drewN | apply Kd.R_drew)); exact HO_3.out⟩, ⟨by repeat (first | (with_reducible first | exact HB.out | apply below_alloc | apply pw_below_drewN | apply below_drew1) | exact HB.out)⟩⟩
              · rw [if_neg c22] at H
                have c22b0 : (((rd_T27 l0 x4_1).f0) == 2) = false := beq_eq_false_iff_ne.mpr c22
                have c22b1 : (((rd_T27 l0 x4_1).f0) != 2) = true := bne_iff_ne.mpr c22
                by_cases c23 : ((rd_T27 l0 x4_1).f0) = 3
                · rw [if_pos c23] at H
                  have c23b0 : (((rd_T27 l0 x4_1).f0) == 3) = true := beq_iff_eq.mpr c23
                  have c23b1 : (((rd_T27 l0 x4_1).f0) != 3) = false := bne_eq_false_iff_eq.mpr c23
                  clear c23
                  have H' := Aside0.mk H
                  clear H
                  have p385 : 0 ≤ (x4_1 : Int) := of_decide_eq_true (by first | (with_reducible assumption) | assumption)
                  have q385 : x4_1 < (l0.length : Int) := of_decide_eq_true (by first | (with_reducible assumption) | assumption)
                  obtain ⟨ad385, e385, hx385_0, hx385_1, hx385_2⟩ := at_T27 HR0.out x4_1 p385 q385
                  cases e385
                  replace hx385_0 := (HB.out.cell (World.block_lt_of_cell? w _ hx385_0)).trans hx385_0
                  replace hx385_1 := (HB.out.cell (World.block_lt_of_cell? w _ hx385_1)).trans hx385_1
                  replace hx385_2 := (HB.out.cell (World.block_lt_of_cell? w _ hx385_2)).trans hx385_2
                  replace p385 := eq_true p385
                  replace q385 := eq_true q385
                  have p393 : 0 ≤ (x4_1 : Int) := of_decide_eq_true (by first | (with_reducible assumption) | assumption)
                  have q393 : x4_1 < (l0.length : Int) := of_decide_eq_true (by first | (with_reducible assumption) | assumption)
                  obtain ⟨ad393, e393, hx393_0, hx393_1, hx393_2⟩ := at_T27 HR0.out x4_1 p393 q393
                  obtain rfl : ad385 = ad393 := (by injection e393)
                  replace hx393_0 := (HB.out.cell (World.block_lt_of_cell? w _ hx393_0)).trans hx393_0
                  replace hx393_1 := (HB.out.cell (World.block_lt_of_cell? w _ hx393_1)).trans hx393_1
                  replace hx393_2 := (HB.out.cell (World.block_lt_of_cell? w _ hx393_2)).trans hx393_2
                  replace p393 := eq_true p393
                  replace q393 := eq_true q393
                  have p394 : 0 ≤ (x4_1 : Int) := of_decide_eq_true (by first | (with_reducible assumption) | assumption)
                  have q394 : x4_1 < (l0.length : Int) := of_decide_eq_true (by first | (with_reducible assumption) | assumption)
                  obtain ⟨ad394, e394, hx394_0, hx394_1, hx394_2⟩ := at_T27 HR0.out x4_1 p394 q394
                  obtain rfl : ad385 = ad394 := (by injection e394)
                  replace hx394_0 := (HB.out.cell (World.block_lt_of_cell? w _ hx394_0)).trans hx394_0
                  replace hx394_1 := (HB.out.cell (World.block_lt_of_cell? w _ hx394_1)).trans hx394_1
                  replace hx394_2 := (HB.out.cell (World.block_lt_of_cell? w _ hx394_2)).trans hx394_2
                  replace p394 := eq_true p394
                  replace q394 := eq_true q394
                  have p395 : 0 ≤ (x4_1 : Int) := of_decide_eq_true (by first | (with_reducible assumption) | assumption)
                  have q395 : x4_1 < (l0.length : Int) := of_decide_eq_true (by first | (with_reducible assumption) | assumption)
                  obtain ⟨ad395, e395, hx395_0, hx395_1, hx395_2⟩ := at_T27 HR0.out x4_1 p395 q395
                  obtain rfl : ad385 = ad395 := (by injection e395)
                  replace hx395_0 := (HB.out.cell (World.block_lt_of_cell? w _ hx395_0)).trans hx395_0
                  replace hx395_1 := (HB.out.cell (World.block_lt_of_cell? w _ hx395_1)).trans hx395_1
                  replace hx395_2 := (HB.out.cell (World.block_lt_of_cell? w _ hx395_2)).trans hx395_2
                  replace p395 := eq_true p395
                  replace q395 := eq_true q395
                  go_wp2
                  go_roundg k1
                  case measure => have := HK1.out; omega
                  case rel => exact ⟨(x3_1), (wrap64 (x4_1 + 1)), (by first | rfl | (simp; done) | (simp [*]; done)), H', ⟨by have := HK1.out; omega⟩, ⟨by (with_reducible repeat (first | apply Kd.R_alloc | apply Kd.R_drewN | apply Kd.R_drew)); exact HO_3.out⟩, ⟨by repeat (first | (with_reducible first | exact HB.out | apply below_alloc | apply pw_below_drewN | apply below_drew1) | exact HB.out)⟩⟩
                · rw [if_neg c23] at H
                  have c23b0 : (((rd_T27 l0 x4_1).f0) == 3) = false := beq_eq_false_iff_ne.mpr c23
                  have c23b1 : (((rd_T27 l0 x4_1).f0) != 3) = true := bne_iff_ne.mpr c23
                  by_cases c24 : ((rd_T27 l0 x4_1).f0) = 5
                  · rw [if_pos c24] at H
                    have c24b0 : (((rd_T27 l0 x4_1).f0) == 5) = true := beq_iff_eq.mpr c24
                    have c24b1 : (((rd_T27 l0 x4_1).f0) != 5) = false := bne_eq_false_iff_eq.mpr c24
                    clear c24
                    have H' := Aside0.mk H
                    clear H
                    have p385 : 0 ≤ (x4_1 : Int) := of_decide_eq_true (by first | (with_reducible assumption) | assumption)
                    have q385 : x4_1 < (l0.length : Int) := of_decide_eq_true (by first | (with_reducible assumption) | assumption)
                    obtain ⟨ad385, e385, hx385_0, hx385_1, hx385_2⟩ := at_T27 HR0.out x4_1 p385 q385
                    cases e385
                    replace hx385_0 := (HB.out.cell (World.block_lt_of_cell? w _ hx385_0)).trans hx385_0
                    replace hx385_1 := (HB.out.cell (World.block_lt_of_cell? w _ hx385_1)).trans hx385_1
                    replace hx385_2 := (HB.out.cell (World.block_lt_of_cell? w _ hx385_2)).trans hx385_2
                    replace p385 := eq_true p385
                    replace q385 := eq_true q385
                    have p393 : 0 ≤ (x4_1 : Int) := of_decide_eq_true (by first | (with_reducible assumption) | assumption)
                    have q393 : x4_1 < (l0.length : Int) := of_decide_eq_true (by first | (with_reducible assumption) | assumption)
                    obtain ⟨ad393, e393, hx393_0, hx393_1, hx393_2⟩ := at_T27 HR0.out x4_1 p393 q393
                    obtain rfl : ad385 = ad393 := (by injection e393)
                    replace hx393_0 := (HB.out.cell (World.block_lt_of_cell? w _ hx393_0)).trans hx393_0
                    replace hx393_1 := (HB.out.cell (World.block_lt_of_cell? w _ hx393_1)).trans hx393_1
                    replace hx393_2 := (HB.out.cell (World.block_lt_of_cell? w _ hx393_2)).trans hx393_2
                    replace p393 := eq_true p393
                    replace q393 := eq_true q393
                    have p394 : 0 ≤ (x4_1 : Int) := of_decide_eq_true (by first | (with_reducible assumption) | assumption)
                    have q394 : x4_1 < (l0.length : Int) := of_decide_eq_true (by first | (with_reducible assumption) | assumption)
                    obtain ⟨ad394, e394, hx394_0, hx394_1, hx394_2⟩ := at_T27 HR0.out x4_1 p394 q394
                    obtain rfl : ad385 = ad394 := (by injection e394)
                    replace hx394_0 := (HB.out.cell (World.block_lt_of_cell? w _ hx394_0)).trans hx394_0
                    replace hx394_1 := (HB.out.cell (World.block_lt_of_cell? w _ hx394_1)).trans hx394_1
                    replace hx394_2 := (HB.out.cell (World.block_lt_of_cell? w _ hx394_2)).trans hx394_2
                    replace p394 := eq_true p394
                    replace q394 := eq_true q394
                    have p395 : 0 ≤ (x4_1 : Int) := of_decide_eq_true (by first | (with_reducible assumption) | assumption)
                    have q395 : x4_1 < (l0.length : Int) := of_decide_eq_true (by first | (with_reducible assumption) | assumption)
                    obtain ⟨ad395, e395, hx395_0, hx395_1, hx395_2⟩ := at_T27 HR0.out x4_1 p395 q395
                    obtain rfl : ad385 = ad395 := (by injection e395)
                    replace hx395_0 := (HB.out.cell (World.block_lt_of_cell? w _ hx395_0)).trans hx395_0
                    replace hx395_1 := (HB.out.cell (World.block_lt_of_cell? w _ hx395_1)).trans hx395_1
                    replace hx395_2 := (HB.out.cell (World.block_lt_of_cell? w _ hx395_2)).trans hx395_2
                    replace p395 := eq_true p395
                    replace q395 := eq_true q395
                    have p396 : 0 ≤ (x4_1 : Int) := of_decide_eq_true (by first | (with_reducible assumption) | assumption)
                    have q396 : x4_1 < (l0.length : Int) := of_decide_eq_true (by first | (with_reducible assumption) | assumption)
                    obtain ⟨ad396, e396, hx396_0, hx396_1, hx396_2⟩ := at_T27 HR0.out x4_1 p396 q396
                    obtain rfl : ad385 = ad396 := (by injection e396)
                    replace hx396_0 := (HB.out.cell (World.block_lt_of_cell? w _ hx396_0)).trans hx396_0
                    replace hx396_1 := (HB.out.cell (World.block_lt_of_cell? w _ hx396_1)).trans hx396_1
                    replace hx396_2 := (HB.out.cell (World.block_lt_of_cell? w _ hx396_2)).trans hx396_2
                    replace p396 := eq_true p396
                    replace q396 := eq_true q396
                    go_wp2
                    go_roundg k1
                    case measure => have := HK1.out; omega
                    case rel => exact ⟨(x3_1), (wrap64 (x4_1 + 1)), (by first | rfl | (simp; done) | (simp [*]; done)), H', ⟨by have := HK1.out; omega⟩, ⟨by (with_reducible repeat (first | apply Kd.R_alloc | apply Kd.R_drewN | apply Kd.R_drew)); exact HO_3.out⟩, ⟨by repeat (first | (with_reducible first | exact HB.out | apply below_alloc | apply pw_below_drewN | apply below_drew1) | exact HB.out)⟩⟩
                  · rw [if_neg c24] at H
                    have c24b0 : (((rd_T27 l0 x4_1).f0) == 5) = false := beq_eq_false_iff_ne.mpr c24
                    have c24b1 : (((rd_T27 l0 x4_1).f0) != 5) = true := bne_iff_ne.mpr c24
                    obtain rfl := Option.some.inj H
                    have p385 : 0 ≤ (x4_1 : Int) := of_decide_eq_true (by first | (with_reducible assumption) | assumption)
                    have q385 : x4_1 < (l0.length : Int) := of_decide_eq_true (by first | (with_reducible assumption) | assumption)
                    obtain ⟨ad385, e385, hx385_0, hx385_1, hx385_2⟩ := at_T27 HR0.out x4_1 p385 q385
                    cases e385
                    replace hx385_0 := (HB.out.cell (World.block_lt_of_cell? w _ hx385_0)).trans hx385_0
                    replace hx385_1 := (HB.out.cell (World.block_lt_of_cell? w _ hx385_1)).trans hx385_1
                    replace hx385_2 := (HB.out.cell (World.block_lt_of_cell? w _ hx385_2)).trans hx385_2
                    replace p385 := eq_true p385
                    replace q385 := eq_true q385
                    have p393 : 0 ≤ (x4_1 : Int) := of_decide_eq_true (by first | (with_reducible assumption) | assumption)
                    have q393 : x4_1 < (l0.length : Int) := of_decide_eq_true (by first | (with_reducible assumption) | assumption)
                    obtain ⟨ad393, e393, hx393_0, hx393_1, hx393_2⟩ := at_T27 HR0.out x4_1 p393 q393
                    obtain rfl : ad385 = ad393 := (by injection e393)
                    replace hx393_0 := (HB.out.cell (World.block_lt_of_cell? w _ hx393_0)).trans hx393_0
                    replace hx393_1 := (HB.out.cell (World.block_lt_of_cell? w _ hx393_1)).trans hx393_1
                    replace hx393_2 := (HB.out.cell (World.block_lt_of_cell? w _ hx393_2)).trans hx393_2
                    replace p393 := eq_true p393
                    replace q393 := eq_true q393
                    have p394 : 0 ≤ (x4_1 : Int) := of_decide_eq_true (by first | (with_reducible assumption) | assumption)
                    have q394 : x4_1 < (l0.length : Int) := of_decide_eq_true (by first | (with_reducible assumption) | assumption)
                    obtain ⟨ad394, e394, hx394_0, hx394_1, hx394_2⟩ := at_T27 HR0.out x4_1 p394 q394
                    obtain rfl : ad385 = ad394 := (by injection e394)
                    replace hx394_0 := (HB.out.cell (World.block_lt_of_cell? w _ hx394_0)).trans hx394_0
                    replace hx394_1 := (HB.out.cell (World.block_lt_of_cell? w _ hx394_1)).trans hx394_1
                    replace hx394_2 := (HB.out.cell (World.block_lt_of_cell? w _ hx394_2)).trans hx394_2
                    replace p394 := eq_true p394
                    replace q394 := eq_true q394
                    have p395 : 0 ≤ (x4_1 : Int) := of_decide_eq_true (by first | (with_reducible assumption) | assumption)
                    have q395 : x4_1 < (l0.length : Int) := of_decide_eq_true (by first | (with_reducible assumption) | assumption)
                    obtain ⟨ad395, e395, hx395_0, hx395_1, hx395_2⟩ := at_T27 HR0.out x4_1 p395 q395
                    obtain rfl : ad385 = ad395 := (by injection e395)
                    replace hx395_0 := (HB.out.cell (World.block_lt_of_cell? w _ hx395_0)).trans hx395_0
                    replace hx395_1 := (HB.out.cell (World.block_lt_of_cell? w _ hx395_1)).trans hx395_1
                    replace hx395_2 := (HB.out.cell (World.block_lt_of_cell? w _ hx395_2)).trans hx395_2
                    replace p395 := eq_true p395
                    replace q395 := eq_true q395
                    have p396 : 0 ≤ (x4_1 : Int) := of_decide_eq_true (by first | (with_reducible assumption) | assumption)
                    have q396 : x4_1 < (l0.length : Int) := of_decide_eq_true (by first | (with_reducible assumption) | assumption)
                    obtain ⟨ad396, e396, hx396_0, hx396_1, hx396_2⟩ := at_T27 HR0.out x4_1 p396 q396
                    obtain rfl : ad385 = ad396 := (by injection e396)
                    replace hx396_0 := (HB.out.cell (World.block_lt_of_cell? w _ hx396_0)).trans hx396_0
                    replace hx396_1 := (HB.out.cell (World.block_lt_of_cell? w _ hx396_1)).trans hx396_1
                    replace hx396_2 := (HB.out.cell (World.block_lt_of_cell? w _ hx396_2)).trans hx396_2
                    replace p396 := eq_true p396
                    replace q396 := eq_true q396
                    go_wp2
                    go_ret
                    exact ⟨by first | rfl | (simp [errW_none, errW_some] <;> rfl) | (simp [*, errW_none, errW_some] <;> rfl), by repeat (first | (with_reducible first | exact HB.out | apply below_alloc | apply pw_below_drewN | apply below_drew1) | exact HB.out)⟩
          · rw [if_neg c7] at H
            exact absurd H (by simp)
        · rw [if_neg c6] at H
          have c6b0 : decide (x4_1 < (l0.length : Int)) = false := decide_eq_false c6
          clear c6
          replace H := Option.bind_eq_some_iff.mp H
          obtain ⟨t384, A250, H⟩ := H
          replace H : (some t384) = some r := H
          have A25 := Aside0.mk A250
          clear A250
          obtain rfl := Option.some.inj H
          obtain ⟨Ao26, co26, eo26⟩ := Kd.R_slice HO_3.out
          subst eo26
          go_wp2_with (first | ((with_reducible refine gate_callee (f := 25) rfl ?_); refine goesL_ (some 68) rfl rfl Tryz.func25 (by kernel_rfl) rfl #[.slice Ao26 x3_1.length co26] rfl (by (try simp only [List.map_toArray, List.map_cons, List.map_nil]); first | done | rfl | (simp only [List.length_drop, List.length_take]; rfl) | (simp only [Int.mul_one, Int.one_mul, Int.add_zero, Int.zero_add, pxw]; rfl)) ?_; (with_reducible refine (spec_ExprValid.calls k1 _ _ x3_1 t384 _ ?side1 ?side2 A25.out).mono ?_); (case side1 => repeat (first | exact (Kd.R_reads' HO_3.out).2.2 | (with_reducible refine Kd.C_alloc ?_ _) | (with_reducible refine Kd.C_drewN ?_ _) | (with_reducible refine Kd.C_drew ?_))); (case side2 => exact (Kd.R_reads' HO_3.out).2.1); rintro e w27 ⟨rfl, hb⟩; refine ⟨_, rfl, ?_⟩; have n0_ := Aside0.mk (Kd.R_below (by (with_reducible repeat (first | apply Kd.R_alloc | apply Kd.R_drewN | apply Kd.R_drew)); exact HO_3.out) hb); have n1_ := Aside0.mk (below_step (by repeat (first | (with_reducible first | exact HB.out | apply below_alloc | apply pw_below_drewN | apply below_drew1) | exact HB.out)) hb); clear HO_3; clear HB; have HO_3 := n0_; have HB := n1_; clear n0_ n1_; (try clear hb); (try clear hb2); (try clear hk); (try clear hi)))
          go_ret
          exact ⟨by first | rfl | (simp [errW_none, errW_some] <;> rfl) | (simp [*, errW_none, errW_some] <;> rfl), by repeat (first | (with_reducible first | exact HB.out | apply below_alloc | apply pw_below_drewN | apply below_drew1) | exact HB.out)⟩
  · rw [if_neg c2] at H
    exact absurd H (by simp)
end Go.Proofs.YtjdlepjgniokdaaGreatDoor.PA

end
section

namespace Go.Proofs.YtjdlepjgniokdaaGreatDoor.PA
open Go.RowKit Go.Proofs.YtjdlepjgniokdaaGreatDoorW.PrintWords Go.Proofs.YtjdlepjgniokdaaGreatDoorW.PrintLast Go.Proofs.YtjdlepjgniokdaaGreatDoorW.PrintMore
attribute [local go_sem] max2_int min2_int max_two min_two max_three min_three max_four min_four
set_option linter.unusedVariables false
set_option linter.unusedSimpArgs false
def laws_alive.f (k : Nat)  : Option (Bool) := (impl_TextValid.f k (⟨#[97]⟩ : ByteArray)).bind fun t397 => (some t397)
set_option maxHeartbeats 8000000 in
set_option maxRecDepth 100000 in
theorem laws_alive.calls (k : Nat)  (r : Bool) (w : World) (h : laws_alive.f k  = some r) :
    Calls Tryz.prog 17 #[] w fun e w' => e = .returned (.bool r) ∧ Drawn0 w w' := by
  have H : ((impl_TextValid.f k (⟨#[97]⟩ : ByteArray)).bind fun t397 => (some t397)) = some r := h
  clear h
  replace H := Option.bind_eq_some_iff.mp H
  obtain ⟨t397, A10, H⟩ := H
  replace H : (some t397) = some r := H
  have A1 := Aside0.mk A10
  clear A10
  obtain rfl := Option.some.inj H
  go_enter Tryz.func17, Tryz.ntmps17
  go_wp2_with (first | ((with_reducible refine gate_callee (f := 63) rfl ?_); refine goesL_ (some 1) rfl rfl Tryz.func63 (by kernel_rfl) rfl #[.string (⟨#[97]⟩ : ByteArray)] rfl (by (try simp only [List.map_toArray, List.map_cons, List.map_nil]); first | done | rfl | (simp only [List.length_drop, List.length_take]; rfl) | (simp only [Int.mul_one, Int.one_mul, Int.add_zero, Int.zero_add, pxw]; rfl)) ?_; (with_reducible refine (impl_TextValid.calls k (⟨#[97]⟩ : ByteArray) t397 _ A1.out).mono ?_); rintro e w' ⟨rfl, ⟨nd, rfl⟩⟩; refine ⟨_, rfl, ?_⟩))
  go_ret
  exact ⟨by first | rfl | (simp; done) | (simp [*]; done), by repeat (first | exact Drawn0.refl _ | apply Drawn0.step)⟩
def laws_FnValueValid.f (k : Nat) (l0 : List Int) : Option (Bool) := if (l0.length : Int) > 1048576 then (some true) else ((spec_DrawValueValid.f k l0).bind fun t398 => ((impl_ValueValid.f k t398).bind fun t401 => ((spec_ValueValid.f k t398).bind fun t402 => (if (t401 != t402) = true then (some false) else ((some (([(⟨5, (⟨#[]⟩ : ByteArray), 1⟩ : S27)] : List (S27)) : List (S27))).bind fun y403 => (if y403.length + t398.length < 4398046511104 then (if t401 = true then (if (t398.length : Int) > 40 then ((impl_ValueValid.f k (([(⟨4, (⟨#[97]⟩ : ByteArray), 0⟩ : S27)] : List (S27)))).bind fun t412 => (if t412 = true then (some false) else ((laws_alive.f k).bind fun t413 => (some t413)))) else ((impl_ValueValid.f k (y403 ++ t398)).bind fun t414 => (if t414 = true then ((impl_ValueValid.f k (([(⟨4, (⟨#[97]⟩ : ByteArray), 0⟩ : S27)] : List (S27)))).bind fun t418 => (if t418 = true then (some false) else ((laws_alive.f k).bind fun t419 => (some t419)))) else (some false)))) else ((impl_ValueValid.f k (([(⟨4, (⟨#[97]⟩ : ByteArray), 0⟩ : S27)] : List (S27)))).bind fun t423 => (if t423 = true then (some false) else ((laws_alive.f k).bind fun t424 => (some t424))))) else (none)))))))
set_option maxHeartbeats 8000000 in
set_option maxRecDepth 100000 in
theorem laws_FnValueValid.calls (k : Nat) (A0 : Option Addr) (c0 : Nat) (l0 : List Int) (r : Bool) (w : World) (hr0 : Kd.C (Kd.int .u8) w A0 l0.length l0) (hc0 : l0.length ≤ c0) (hG : Glob w) (h : laws_FnValueValid.f k l0 = some r) :
    Calls Tryz.prog 3 #[.slice A0 l0.length c0] w fun e w' => e = .returned (.bool r) ∧ Below w.heap.size w w' := by
  have hu27 := Tryz.underlying27
  have HG := Aside0.mk hG
  clear hG
  have HR0 := Aside0.mk hr0
  have HC0 := Aside0.mk hc0
  clear hr0 hc0
  have HB := Aside0.mk (Below.refl w.heap.size w)
  have H : (if (l0.length : Int) > 1048576 then (some true) else ((spec_DrawValueValid.f k l0).bind fun t398 => ((impl_ValueValid.f k t398).bind fun t401 => ((spec_ValueValid.f k t398).bind fun t402 => (if (t401 != t402) = true then (some false) else ((some (([(⟨5, (⟨#[]⟩ : ByteArray), 1⟩ : S27)] : List (S27)) : List (S27))).bind fun y403 => (if y403.length + t398.length < 4398046511104 then (if t401 = true then (if (t398.length : Int) > 40 then ((impl_ValueValid.f k (([(⟨4, (⟨#[97]⟩ : ByteArray), 0⟩ : S27)] : List (S27)))).bind fun t412 => (if t412 = true then (some false) else ((laws_alive.f k).bind fun t413 => (some t413)))) else ((impl_ValueValid.f k (y403 ++ t398)).bind fun t414 => (if t414 = true then ((impl_ValueValid.f k (([(⟨4, (⟨#[97]⟩ : ByteArray), 0⟩ : S27)] : List (S27)))).bind fun t418 => (if t418 = true then (some false) else ((laws_alive.f k).bind fun t419 => (some t419)))) else (some false)))) else ((impl_ValueValid.f k (([(⟨4, (⟨#[97]⟩ : ByteArray), 0⟩ : S27)] : List (S27)))).bind fun t423 => (if t423 = true then (some false) else ((laws_alive.f k).bind fun t424 => (some t424))))) else (none)))))))) = some r := h
  clear h
  by_cases c2 : (l0.length : Int) > 1048576
  · rw [if_pos c2] at H
    have c2b0 : decide (1048576 < (l0.length : Int)) = true := decide_eq_true c2
    have c2b1 : decide (1048576 < l0.length) = true := decide_eq_true (by omega)
    clear c2
    obtain rfl := Option.some.inj H
    go_enter Tryz.func3, Tryz.ntmps3
    go_wp2
    go_ret
    exact ⟨by first | rfl | simp [*], bl_ HB.out⟩
  · rw [if_neg c2] at H
    have c2b0 : decide (1048576 < (l0.length : Int)) = false := decide_eq_false c2
    have c2b1 : decide (1048576 < l0.length) = false := decide_eq_false (by omega)
    clear c2
    replace H := Option.bind_eq_some_iff.mp H
    obtain ⟨t398, A30, H⟩ := H
    replace H : ((impl_ValueValid.f k t398).bind fun t401 => ((spec_ValueValid.f k t398).bind fun t402 => (if (t401 != t402) = true then (some false) else ((some (([(⟨5, (⟨#[]⟩ : ByteArray), 1⟩ : S27)] : List (S27)) : List (S27))).bind fun y403 => (if y403.length + t398.length < 4398046511104 then (if t401 = true then (if (t398.length : Int) > 40 then ((impl_ValueValid.f k (([(⟨4, (⟨#[97]⟩ : ByteArray), 0⟩ : S27)] : List (S27)))).bind fun t412 => (if t412 = true then (some false) else ((laws_alive.f k).bind fun t413 => (some t413)))) else ((impl_ValueValid.f k (y403 ++ t398)).bind fun t414 => (if t414 = true then ((impl_ValueValid.f k (([(⟨4, (⟨#[97]⟩ : ByteArray), 0⟩ : S27)] : List (S27)))).bind fun t418 => (if t418 = true then (some false) else ((laws_alive.f k).bind fun t419 => (some t419)))) else (some false)))) else ((impl_ValueValid.f k (([(⟨4, (⟨#[97]⟩ : ByteArray), 0⟩ : S27)] : List (S27)))).bind fun t423 => (if t423 = true then (some false) else ((laws_alive.f k).bind fun t424 => (some t424))))) else (none)))))) = some r := H
    have A3 := Aside0.mk A30
    clear A30
    replace H := Option.bind_eq_some_iff.mp H
    obtain ⟨t401, A40, H⟩ := H
    replace H : ((spec_ValueValid.f k t398).bind fun t402 => (if (t401 != t402) = true then (some false) else ((some (([(⟨5, (⟨#[]⟩ : ByteArray), 1⟩ : S27)] : List (S27)) : List (S27))).bind fun y403 => (if y403.length + t398.length < 4398046511104 then (if t401 = true then (if (t398.length : Int) > 40 then ((impl_ValueValid.f k (([(⟨4, (⟨#[97]⟩ : ByteArray), 0⟩ : S27)] : List (S27)))).bind fun t412 => (if t412 = true then (some false) else ((laws_alive.f k).bind fun t413 => (some t413)))) else ((impl_ValueValid.f k (y403 ++ t398)).bind fun t414 => (if t414 = true then ((impl_ValueValid.f k (([(⟨4, (⟨#[97]⟩ : ByteArray), 0⟩ : S27)] : List (S27)))).bind fun t418 => (if t418 = true then (some false) else ((laws_alive.f k).bind fun t419 => (some t419)))) else (some false)))) else ((impl_ValueValid.f k (([(⟨4, (⟨#[97]⟩ : ByteArray), 0⟩ : S27)] : List (S27)))).bind fun t423 => (if t423 = true then (some false) else ((laws_alive.f k).bind fun t424 => (some t424))))) else (none))))) = some r := H
    have A4 := Aside0.mk A40
    clear A40
    replace H := Option.bind_eq_some_iff.mp H
    obtain ⟨t402, A50, H⟩ := H
    replace H : (if (t401 != t402) = true then (some false) else ((some (([(⟨5, (⟨#[]⟩ : ByteArray), 1⟩ : S27)] : List (S27)) : List (S27))).bind fun y403 => (if y403.length + t398.length < 4398046511104 then (if t401 = true then (if (t398.length : Int) > 40 then ((impl_ValueValid.f k (([(⟨4, (⟨#[97]⟩ : ByteArray), 0⟩ : S27)] : List (S27)))).bind fun t412 => (if t412 = true then (some false) else ((laws_alive.f k).bind fun t413 => (some t413)))) else ((impl_ValueValid.f k (y403 ++ t398)).bind fun t414 => (if t414 = true then ((impl_ValueValid.f k (([(⟨4, (⟨#[97]⟩ : ByteArray), 0⟩ : S27)] : List (S27)))).bind fun t418 => (if t418 = true then (some false) else ((laws_alive.f k).bind fun t419 => (some t419)))) else (some false)))) else ((impl_ValueValid.f k (([(⟨4, (⟨#[97]⟩ : ByteArray), 0⟩ : S27)] : List (S27)))).bind fun t423 => (if t423 = true then (some false) else ((laws_alive.f k).bind fun t424 => (some t424))))) else (none)))) = some r := H
    have A5 := Aside0.mk A50
    clear A50
    have HU_ := Aside0.mk H
    clear H
    go_enter Tryz.func3, Tryz.ntmps3
    go_upto_if 16 with (first | ((with_reducible refine gate_callee (f := 14) rfl ?_); refine goesL_ (some 10) rfl rfl Tryz.func14 (by kernel_rfl) rfl #[.slice A0 l0.length c0] rfl (by (try simp only [List.map_toArray, List.map_cons, List.map_nil]); first | done | rfl | (simp only [List.length_drop, List.length_take]; rfl) | (simp only [Int.mul_one, Int.one_mul, Int.add_zero, Int.zero_add, pxw]; rfl)) ?_; (with_reducible refine (spec_DrawValueValid.calls k _ _ l0 t398 _ ?side1 ?side2 A3.out).mono ?_); (case side1 => repeat (first | exact HR0.out | (with_reducible refine Kd.C_alloc ?_ _) | (with_reducible refine Kd.C_drewN ?_ _) | (with_reducible refine Kd.C_drew ?_))); (case side2 => exact HC0.out); rintro e w6 ⟨v399, rfl, ho0, hb⟩; refine ⟨_, rfl, ?_⟩; have n0_ := Aside0.mk (Kd.R_lower ho0 (below_size (bl_ HB.out))); have n1_ := Aside0.mk (below_step (bl_ HB.out) hb); clear HB; have HO400 := n0_; have HB := n1_; clear n0_ n1_; (try clear hb); (try clear hb2); (try clear hk); (try clear hi); (try clear ho0); obtain ⟨Ao7, co7, eo7⟩ := Kd.R_slice HO400.out; subst eo7) | ((with_reducible refine gate_callee (f := 15) rfl ?_); refine goesL_ (some 12) rfl rfl Tryz.func15 (by kernel_rfl) rfl #[.slice Ao7 t398.length co7] rfl (by (try simp only [List.map_toArray, List.map_cons, List.map_nil]); first | done | rfl | (simp only [List.length_drop, List.length_take]; rfl) | (simp only [Int.mul_one, Int.one_mul, Int.add_zero, Int.zero_add, pxw]; rfl)) ?_; (with_reducible refine (impl_ValueValid.calls k _ _ t398 t401 _ ?side1 ?side2 ?side3 A4.out).mono ?_); (case side1 => repeat (first | exact (Kd.R_reads' HO400.out).2.2 | (with_reducible refine Kd.C_alloc ?_ _) | (with_reducible refine Kd.C_drewN ?_ _) | (with_reducible refine Kd.C_drew ?_))); (case side2 => exact (Kd.R_reads' HO400.out).2.1); (case side3 => exact Glob.below HG.out (bl_ HB.out)); rintro e w8 ⟨rfl, hb⟩; refine ⟨_, rfl, ?_⟩; have n0_ := Aside0.mk (Kd.R_below (rl_ HO400.out) hb); have n1_ := Aside0.mk (below_step (bl_ HB.out) hb); clear HO400; clear HB; have HO400 := n0_; have HB := n1_; clear n0_ n1_; (try clear hb); (try clear hb2); (try clear hk); (try clear hi)) | ((with_reducible refine gate_callee (f := 16) rfl ?_); refine goesL_ (some 15) rfl rfl Tryz.func16 (by kernel_rfl) rfl #[.slice Ao7 t398.length co7] rfl (by (try simp only [List.map_toArray, List.map_cons, List.map_nil]); first | done | rfl | (simp only [List.length_drop, List.length_take]; rfl) | (simp only [Int.mul_one, Int.one_mul, Int.add_zero, Int.zero_add, pxw]; rfl)) ?_; (with_reducible refine (spec_ValueValid.calls k _ _ t398 t402 _ ?side1 ?side2 A5.out).mono ?_); (case side1 => repeat (first | exact (Kd.R_reads' HO400.out).2.2 | (with_reducible refine Kd.C_alloc ?_ _) | (with_reducible refine Kd.C_drewN ?_ _) | (with_reducible refine Kd.C_drew ?_))); (case side2 => exact (Kd.R_reads' HO400.out).2.1); rintro e w9 ⟨rfl, hb⟩; refine ⟨_, rfl, ?_⟩; have n0_ := Aside0.mk (Kd.R_below (rl_ HO400.out) hb); have n1_ := Aside0.mk (below_step (bl_ HB.out) hb); clear HO400; clear HB; have HO400 := n0_; have HB := n1_; clear n0_ n1_; (try clear hb); (try clear hb2); (try clear hk); (try clear hi)))
    (try simp only [Act.put, List.setIfInBounds_toArray, List.set_cons_zero, List.set_cons_succ])
    have H := HU_.out
    clear HU_
    by_cases c10 : (t401 != t402) = true
    · rw [if_pos c10] at H
      have c10b0 : (t401 != t402) = true := c10
      (try (have c10b1 : decide (t401 = t402) = false := by simpa using c10))
      (try (have c10b2 : (t401 == t402) = false := by simpa using c10))
      (try (have c10b3 : ¬ (t401 = t402) := by simpa using c10))
      clear c10
      (first | rw [c10b0] | (simp only [i64_w, i32_w]; rw [c10b0]) | rw [c10b1] | rw [c10b2] | rw [c10b3] | skip)
      obtain rfl := Option.some.inj H
      go_wp2
      go_ret
      exact ⟨by first | rfl | simp [*], bl_ HB.out⟩
    · rw [if_neg c10] at H
      have c10b0 : (t401 != t402) = false := by simpa using c10
      (try (have c10b1 : decide (t401 = t402) = true := by simpa using c10))
      (try (have c10b2 : (t401 == t402) = true := by simpa using c10))
      clear c10
      (first | rw [c10b0] | (simp only [i64_w, i32_w]; rw [c10b0]) | rw [c10b1] | rw [c10b2] | skip)
      obtain ⟨y403, hy403⟩ : ∃ y_ : List (S27), y_ = (([(⟨5, (⟨#[]⟩ : ByteArray), 1⟩ : S27)] : List (S27))) := ⟨_, rfl⟩
      replace H : (if y403.length + t398.length < 4398046511104 then (if t401 = true then (if (t398.length : Int) > 40 then ((impl_ValueValid.f k (([(⟨4, (⟨#[97]⟩ : ByteArray), 0⟩ : S27)] : List (S27)))).bind fun t412 => (if t412 = true then (some false) else ((laws_alive.f k).bind fun t413 => (some t413)))) else ((impl_ValueValid.f k (y403 ++ t398)).bind fun t414 => (if t414 = true then ((impl_ValueValid.f k (([(⟨4, (⟨#[97]⟩ : ByteArray), 0⟩ : S27)] : List (S27)))).bind fun t418 => (if t418 = true then (some false) else ((laws_alive.f k).bind fun t419 => (some t419)))) else (some false)))) else ((impl_ValueValid.f k (([(⟨4, (⟨#[97]⟩ : ByteArray), 0⟩ : S27)] : List (S27)))).bind fun t423 => (if t423 = true then (some false) else ((laws_alive.f k).bind fun t424 => (some t424))))) else (none)) = some r := by first | (rw [hy403]; with_reducible exact H) | (have H2_ := (Option.bind_some _ _).symm.trans H; rw [hy403]; with_reducible exact H2_) | (have H2_ := (Option.bind_some _ _).symm.trans H; with_reducible exact H2_) | with_reducible exact H | (rw [hy403]; exact H) | exact H
      have Ny403 := Aside0.mk hy403
      clear hy403
      by_cases c11 : y403.length + t398.length < 4398046511104
      · rw [if_pos c11] at H
        have LMc11 := Aside0.mk c11
        clear c11
        obtain ⟨y406, hy406⟩ : ∃ y_ : List (S27), y_ = (y403 ++ t398) := ⟨_, rfl⟩
        replace H : (if t401 = true then (if (t398.length : Int) > 40 then ((impl_ValueValid.f k (([(⟨4, (⟨#[97]⟩ : ByteArray), 0⟩ : S27)] : List (S27)))).bind fun t412 => (if t412 = true then (some false) else ((laws_alive.f k).bind fun t413 => (some t413)))) else ((impl_ValueValid.f k y406).bind fun t414 => (if t414 = true then ((impl_ValueValid.f k (([(⟨4, (⟨#[97]⟩ : ByteArray), 0⟩ : S27)] : List (S27)))).bind fun t418 => (if t418 = true then (some false) else ((laws_alive.f k).bind fun t419 => (some t419)))) else (some false)))) else ((impl_ValueValid.f k (([(⟨4, (⟨#[97]⟩ : ByteArray), 0⟩ : S27)] : List (S27)))).bind fun t423 => (if t423 = true then (some false) else ((laws_alive.f k).bind fun t424 => (some t424))))) = some r := by first | (rw [hy406]; with_reducible exact H) | (have H2_ := (Option.bind_some _ _).symm.trans H; rw [hy406]; with_reducible exact H2_) | (have H2_ := (Option.bind_some _ _).symm.trans H; with_reducible exact H2_) | with_reducible exact H | (rw [hy406]; exact H) | exact H
        have Ny406 := Aside0.mk hy406
        clear hy406
        by_cases c12 : t401 = true
        · subst c12
          have H1 : (if (t398.length : Int) > 40 then ((impl_ValueValid.f k (([(⟨4, (⟨#[97]⟩ : ByteArray), 0⟩ : S27)] : List (S27)))).bind fun t412 => (if t412 = true then (some false) else ((laws_alive.f k).bind fun t413 => (some t413)))) else ((impl_ValueValid.f k y406).bind fun t414 => (if t414 = true then ((impl_ValueValid.f k (([(⟨4, (⟨#[97]⟩ : ByteArray), 0⟩ : S27)] : List (S27)))).bind fun t418 => (if t418 = true then (some false) else ((laws_alive.f k).bind fun t419 => (some t419)))) else (some false)))) = some r := by rw [if_pos rfl] at H; exact H
          clear H
          have H := H1
          clear H1
          by_cases c13 : (t398.length : Int) > 40
          · rw [if_pos c13] at H
            have c13b0 : decide (40 < (t398.length : Int)) = true := decide_eq_true c13
            have c13b1 : decide (40 < t398.length) = true := decide_eq_true (by omega)
            clear c13
            obtain ⟨y409, hy409⟩ : ∃ y_ : List (S27), y_ = (([(⟨4, (⟨#[97]⟩ : ByteArray), 0⟩ : S27)] : List (S27))) := ⟨_, rfl⟩
            replace H : ((impl_ValueValid.f k y409).bind fun t412 => (if t412 = true then (some false) else ((laws_alive.f k).bind fun t413 => (some t413)))) = some r := by first | (rw [hy409]; with_reducible exact H) | (have H2_ := (Option.bind_some _ _).symm.trans H; rw [hy409]; with_reducible exact H2_) | (have H2_ := (Option.bind_some _ _).symm.trans H; with_reducible exact H2_) | with_reducible exact H | (rw [hy409]; exact H) | exact H
            have Ny409 := Aside0.mk hy409
            clear hy409
            replace H := Option.bind_eq_some_iff.mp H
            obtain ⟨t412, A140, H⟩ := H
            replace H : (if t412 = true then (some false) else ((laws_alive.f k).bind fun t413 => (some t413))) = some r := H
            have A14 := Aside0.mk A140
            clear A140
            by_cases c15 : t412 = true
            · subst c15
              have H1 : (some false) = some r := by rw [if_pos rfl] at H; exact H
              clear H
              have H := H1
              clear H1
              obtain rfl := Option.some.inj H
              go_wp2_with (first | ((with_reducible refine gate_dst (N := 18) rfl ?_); (try (refine gate_guard (by rfl) ?_; dsimp only)); refine Kd.R_lit k27 _ 27 ?hg (N := 18) ?hd (xs := ([(⟨5, (⟨#[]⟩ : ByteArray), 1⟩ : S27)] : List (S27))) (inner := [.int .i64 5, .string (⟨#[]⟩ : ByteArray), .int .i64 1]) (ok := fun _ => True) (okp := fun _ => True) ?hr ?hp (fun _ hk => hk) trivial (Below.refl _ _) (Nat.le_refl _) (by simp) ?_; (case hd => rfl); (case hg => rfl); (case hr => first | (go_simp; done) | (go_simp; rfl)); (case hp => exact (Reps.c3 (show Kd.M k27 _ _ _ (⟨5, (⟨#[]⟩ : ByteArray), 1⟩ : S27) [.int .i64 5, .string (⟨#[]⟩ : ByteArray), .int .i64 1] from (k27_mkM _ _ _ (⟨5, (⟨#[]⟩ : ByteArray), 1⟩ : S27) )) (Reps.none _ _))); intro v404 w16 ho17 hb hg_ hnew_; clear hg_ hnew_; (first | rw [← Ny403.out] at ho17 | (simp only [Int.reduceToNat] at ho17; rw [← Ny403.out] at ho17)); have n0_ := Aside0.mk (Kd.R_elder' (rl_ HO400.out) (Kd.R_base ho17) hb); have n1_ := Aside0.mk (Kd.R_lower (Kd.R_new' ho17 (Kd.R_lt (rl_ HO400.out))) (below_size (bl_ HB.out))); have n2_ := Aside0.mk (below_step (bl_ HB.out) hb); clear HO400; clear HB; have HO400 := n0_; have HO405 := n1_; have HB := n2_; clear n0_ n1_ n2_; clear hb ho17) | ((with_reducible refine gate_builtin (b := .append) (xs := #[.tmp 18, .tmp 19]) rfl ?_); (try (refine gate_guard (by rfl) ?_; dsimp only)); at_builtin; refine Kd.R_append_rows k27 (w0 := w) w.heap.size rfl (.tmp 18) (.tmp 19) 23 27 (.agg #[(.int .i64 0), (.string ⟨#[]⟩), (.int .i64 0)]) 32 rfl Tryz.underlying23 info27 rfl (by decide) (by omega) v404 y403 t398 _ _ _ (fun k_ => some k_ ≠ (.slice Ao7 t398.length co7 : Value).ownBlock) (fun _ => False) rfl rfl ?aO ?aR (fun _ _ h => h) (fun _ h => h.elim) ?aF ?aB ?aS ?aL ?_; (case aR => repeat (first | exact (Kd.R_reads' HO400.out).2.2 | (with_reducible refine Kd.C_alloc ?_ _) | (with_reducible refine Kd.C_drewN ?_ _) | (with_reducible refine Kd.C_drew ?_))); (case aB => exact (bl_ HB.out)); (case aF => exact (fun k_ hk => Kd.fresh' (Kd.R_lt (rl_ HO400.out)) k_ hk)); (case aO => exact (by (with_reducible repeat (first | apply Kd.R_alloc | apply Kd.R_drewN | apply Kd.R_drew)); exact Kd.R_mono HO405.out (fun _ hk => hk.2))); (case aS => exact (below_size (bl_ HB.out))); (case aL => have := LMc11.out; omega); intro v407 w18 ho hb hg hat; rw [← Ny406.out] at ho; have n0_ := Aside0.mk (Kd.R_after (ok := (fun _ => True)) (rl_ HO400.out) hg hat); have n1_ := Aside0.mk (hb); have n2_ := Aside0.mk (ho); clear HO400; clear HB; clear HO405; have HO400 := n0_; have HB := n1_; have HO408 := n2_; clear n0_ n1_ n2_; clear ho hb hg hat) | ((with_reducible refine gate_dst (N := 34) rfl ?_); (try (refine gate_guard (by rfl) ?_; dsimp only)); refine Kd.R_lit k27 _ 27 ?hg (N := 34) ?hd (xs := ([(⟨4, (⟨#[97]⟩ : ByteArray), 0⟩ : S27)] : List (S27))) (inner := [.int .i64 4, .string (⟨#[97]⟩ : ByteArray), .int .i64 0]) (ok := fun _ => True) (okp := fun _ => True) ?hr ?hp (fun _ hk => hk) trivial (Below.refl _ _) (Nat.le_refl _) (by simp) ?_; (case hd => rfl); (case hg => rfl); (case hr => first | (go_simp; done) | (go_simp; rfl)); (case hp => exact (Reps.c3 (show Kd.M k27 _ _ _ (⟨4, (⟨#[97]⟩ : ByteArray), 0⟩ : S27) [.int .i64 4, .string (⟨#[97]⟩ : ByteArray), .int .i64 0] from (k27_mkM _ _ _ (⟨4, (⟨#[97]⟩ : ByteArray), 0⟩ : S27) )) (Reps.none _ _))); intro v410 w19 ho20 hb hg_ hnew_; clear hg_ hnew_; (first | rw [← Ny409.out] at ho20 | (simp only [Int.reduceToNat] at ho20; rw [← Ny409.out] at ho20)); have n0_ := Aside0.mk (Kd.R_elder' (rl_ HO400.out) (Kd.R_base ho20) hb); have n1_ := Aside0.mk (Kd.R_elder' (rl_ HO408.out) (Kd.R_base ho20) hb); have n2_ := Aside0.mk (Kd.R_lower (Kd.R_new' (Kd.R_new' ho20 (Kd.R_lt (rl_ HO400.out))) (Kd.R_lt (rl_ HO408.out))) (below_size (bl_ HB.out))); have n3_ := Aside0.mk (below_step (bl_ HB.out) hb); clear HO400; clear HO408; clear HB; have HO400 := n0_; have HO408 := n1_; have HO411 := n2_; have HB := n3_; clear n0_ n1_ n2_ n3_; clear hb ho20; obtain ⟨Ao21, co21, eo21⟩ := Kd.R_slice HO411.out; subst eo21) | (go_at_call 15; (with_reducible refine (impl_ValueValid.calls k _ _ y409 true _ ?side1 ?side2 ?side3 A14.out).mono ?_); (case side1 => repeat (first | exact (Kd.R_reads' HO411.out).2.2 | (with_reducible refine Kd.C_alloc ?_ _) | (with_reducible refine Kd.C_drewN ?_ _) | (with_reducible refine Kd.C_drew ?_))); (case side2 => exact (Kd.R_reads' HO411.out).2.1); (case side3 => exact Glob.below HG.out (bl_ HB.out)); rintro e w22 ⟨rfl, hb⟩; have n0_ := Aside0.mk (Kd.R_below (rl_ HO400.out) hb); have n1_ := Aside0.mk (Kd.R_below (rl_ HO408.out) hb); have n2_ := Aside0.mk (Kd.R_below (rl_ HO411.out) hb); have n3_ := Aside0.mk (below_step (bl_ HB.out) hb); clear HO400; clear HO408; clear HO411; clear HB; have HO400 := n0_; have HO408 := n1_; have HO411 := n2_; have HB := n3_; clear n0_ n1_ n2_ n3_; (try clear hb); (try clear hb2); (try clear hk); (try clear hi)))
              go_ret
              exact ⟨by first | rfl | simp [*], bl_ HB.out⟩
            · replace c15 := Bool.eq_false_iff.mpr c15
              subst c15
              have H1 : ((laws_alive.f k).bind fun t413 => (some t413)) = some r := by rw [if_neg (show ¬ (false = true) by decide)] at H; exact H
              clear H
              have H := H1
              clear H1
              replace H := Option.bind_eq_some_iff.mp H
              obtain ⟨t413, A230, H⟩ := H
              replace H : (some t413) = some r := H
              have A23 := Aside0.mk A230
              clear A230
              obtain rfl := Option.some.inj H
              go_wp2_with (first | ((with_reducible refine gate_dst (N := 18) rfl ?_); (try (refine gate_guard (by rfl) ?_; dsimp only)); refine Kd.R_lit k27 _ 27 ?hg (N := 18) ?hd (xs := ([(⟨5, (⟨#[]⟩ : ByteArray), 1⟩ : S27)] : List (S27))) (inner := [.int .i64 5, .string (⟨#[]⟩ : ByteArray), .int .i64 1]) (ok := fun _ => True) (okp := fun _ => True) ?hr ?hp (fun _ hk => hk) trivial (Below.refl _ _) (Nat.le_refl _) (by simp) ?_; (case hd => rfl); (case hg => rfl); (case hr => first | (go_simp; done) | (go_simp; rfl)); (case hp => exact (Reps.c3 (show Kd.M k27 _ _ _ (⟨5, (⟨#[]⟩ : ByteArray), 1⟩ : S27) [.int .i64 5, .string (⟨#[]⟩ : ByteArray), .int .i64 1] from (k27_mkM _ _ _ (⟨5, (⟨#[]⟩ : ByteArray), 1⟩ : S27) )) (Reps.none _ _))); intro v404 w24 ho25 hb hg_ hnew_; clear hg_ hnew_; (first | rw [← Ny403.out] at ho25 | (simp only [Int.reduceToNat] at ho25; rw [← Ny403.out] at ho25)); have n0_ := Aside0.mk (Kd.R_elder' (rl_ HO400.out) (Kd.R_base ho25) hb); have n1_ := Aside0.mk (Kd.R_lower (Kd.R_new' ho25 (Kd.R_lt (rl_ HO400.out))) (below_size (bl_ HB.out))); have n2_ := Aside0.mk (below_step (bl_ HB.out) hb); clear HO400; clear HB; have HO400 := n0_; have HO405 := n1_; have HB := n2_; clear n0_ n1_ n2_; clear hb ho25) | ((with_reducible refine gate_builtin (b := .append) (xs := #[.tmp 18, .tmp 19]) rfl ?_); (try (refine gate_guard (by rfl) ?_; dsimp only)); at_builtin; refine Kd.R_append_rows k27 (w0 := w) w.heap.size rfl (.tmp 18) (.tmp 19) 23 27 (.agg #[(.int .i64 0), (.string ⟨#[]⟩), (.int .i64 0)]) 32 rfl Tryz.underlying23 info27 rfl (by decide) (by omega) v404 y403 t398 _ _ _ (fun k_ => some k_ ≠ (.slice Ao7 t398.length co7 : Value).ownBlock) (fun _ => False) rfl rfl ?aO ?aR (fun _ _ h => h) (fun _ h => h.elim) ?aF ?aB ?aS ?aL ?_; (case aR => repeat (first | exact (Kd.R_reads' HO400.out).2.2 | (with_reducible refine Kd.C_alloc ?_ _) | (with_reducible refine Kd.C_drewN ?_ _) | (with_reducible refine Kd.C_drew ?_))); (case aB => exact (bl_ HB.out)); (case aF => exact (fun k_ hk => Kd.fresh' (Kd.R_lt (rl_ HO400.out)) k_ hk)); (case aO => exact (by (with_reducible repeat (first | apply Kd.R_alloc | apply Kd.R_drewN | apply Kd.R_drew)); exact Kd.R_mono HO405.out (fun _ hk => hk.2))); (case aS => exact (below_size (bl_ HB.out))); (case aL => have := LMc11.out; omega); intro v407 w26 ho hb hg hat; rw [← Ny406.out] at ho; have n0_ := Aside0.mk (Kd.R_after (ok := (fun _ => True)) (rl_ HO400.out) hg hat); have n1_ := Aside0.mk (hb); have n2_ := Aside0.mk (ho); clear HO400; clear HB; clear HO405; have HO400 := n0_; have HB := n1_; have HO408 := n2_; clear n0_ n1_ n2_; clear ho hb hg hat) | ((with_reducible refine gate_dst (N := 34) rfl ?_); (try (refine gate_guard (by rfl) ?_; dsimp only)); refine Kd.R_lit k27 _ 27 ?hg (N := 34) ?hd (xs := ([(⟨4, (⟨#[97]⟩ : ByteArray), 0⟩ : S27)] : List (S27))) (inner := [.int .i64 4, .string (⟨#[97]⟩ : ByteArray), .int .i64 0]) (ok := fun _ => True) (okp := fun _ => True) ?hr ?hp (fun _ hk => hk) trivial (Below.refl _ _) (Nat.le_refl _) (by simp) ?_; (case hd => rfl); (case hg => rfl); (case hr => first | (go_simp; done) | (go_simp; rfl)); (case hp => exact (Reps.c3 (show Kd.M k27 _ _ _ (⟨4, (⟨#[97]⟩ : ByteArray), 0⟩ : S27) [.int .i64 4, .string (⟨#[97]⟩ : ByteArray), .int .i64 0] from (k27_mkM _ _ _ (⟨4, (⟨#[97]⟩ : ByteArray), 0⟩ : S27) )) (Reps.none _ _))); intro v410 w27 ho28 hb hg_ hnew_; clear hg_ hnew_; (first | rw [← Ny409.out] at ho28 | (simp only [Int.reduceToNat] at ho28; rw [← Ny409.out] at ho28)); have n0_ := Aside0.mk (Kd.R_elder' (rl_ HO400.out) (Kd.R_base ho28) hb); have n1_ := Aside0.mk (Kd.R_elder' (rl_ HO408.out) (Kd.R_base ho28) hb); have n2_ := Aside0.mk (Kd.R_lower (Kd.R_new' (Kd.R_new' ho28 (Kd.R_lt (rl_ HO400.out))) (Kd.R_lt (rl_ HO408.out))) (below_size (bl_ HB.out))); have n3_ := Aside0.mk (below_step (bl_ HB.out) hb); clear HO400; clear HO408; clear HB; have HO400 := n0_; have HO408 := n1_; have HO411 := n2_; have HB := n3_; clear n0_ n1_ n2_ n3_; clear hb ho28; obtain ⟨Ao29, co29, eo29⟩ := Kd.R_slice HO411.out; subst eo29) | (go_at_call 15; (with_reducible refine (impl_ValueValid.calls k _ _ y409 false _ ?side1 ?side2 ?side3 A14.out).mono ?_); (case side1 => repeat (first | exact (Kd.R_reads' HO411.out).2.2 | (with_reducible refine Kd.C_alloc ?_ _) | (with_reducible refine Kd.C_drewN ?_ _) | (with_reducible refine Kd.C_drew ?_))); (case side2 => exact (Kd.R_reads' HO411.out).2.1); (case side3 => exact Glob.below HG.out (bl_ HB.out)); rintro e w30 ⟨rfl, hb⟩; have n0_ := Aside0.mk (Kd.R_below (rl_ HO400.out) hb); have n1_ := Aside0.mk (Kd.R_below (rl_ HO408.out) hb); have n2_ := Aside0.mk (Kd.R_below (rl_ HO411.out) hb); have n3_ := Aside0.mk (below_step (bl_ HB.out) hb); clear HO400; clear HO408; clear HO411; clear HB; have HO400 := n0_; have HO408 := n1_; have HO411 := n2_; have HB := n3_; clear n0_ n1_ n2_ n3_; (try clear hb); (try clear hb2); (try clear hk); (try clear hi)) | (go_at_call 17; (with_reducible refine (laws_alive.calls k  t413 _ A23.out).mono ?_); rintro e w' ⟨rfl, ⟨nd, rfl⟩⟩))
              go_ret
              exact ⟨by first | rfl | simp [*], bl_ HB.out⟩
          · rw [if_neg c13] at H
            have c13b0 : decide (40 < (t398.length : Int)) = false := decide_eq_false c13
            have c13b1 : decide (40 < t398.length) = false := decide_eq_false (by omega)
            clear c13
            replace H := Option.bind_eq_some_iff.mp H
            obtain ⟨t414, A310, H⟩ := H
            replace H : (if t414 = true then ((impl_ValueValid.f k (([(⟨4, (⟨#[97]⟩ : ByteArray), 0⟩ : S27)] : List (S27)))).bind fun t418 => (if t418 = true then (some false) else ((laws_alive.f k).bind fun t419 => (some t419)))) else (some false)) = some r := H
            have A31 := Aside0.mk A310
            clear A310
            by_cases c32 : t414 = true
            · subst c32
              have H1 : ((impl_ValueValid.f k (([(⟨4, (⟨#[97]⟩ : ByteArray), 0⟩ : S27)] : List (S27)))).bind fun t418 => (if t418 = true then (some false) else ((laws_alive.f k).bind fun t419 => (some t419)))) = some r := by rw [if_pos rfl] at H; exact H
              clear H
              have H := H1
              clear H1
              obtain ⟨y415, hy415⟩ : ∃ y_ : List (S27), y_ = (([(⟨4, (⟨#[97]⟩ : ByteArray), 0⟩ : S27)] : List (S27))) := ⟨_, rfl⟩
              replace H : ((impl_ValueValid.f k y415).bind fun t418 => (if t418 = true then (some false) else ((laws_alive.f k).bind fun t419 => (some t419)))) = some r := by first | (rw [hy415]; with_reducible exact H) | (have H2_ := (Option.bind_some _ _).symm.trans H; rw [hy415]; with_reducible exact H2_) | (have H2_ := (Option.bind_some _ _).symm.trans H; with_reducible exact H2_) | with_reducible exact H | (rw [hy415]; exact H) | exact H
              have Ny415 := Aside0.mk hy415
              clear hy415
              replace H := Option.bind_eq_some_iff.mp H
              obtain ⟨t418, A330, H⟩ := H
              replace H : (if t418 = true then (some false) else ((laws_alive.f k).bind fun t419 => (some t419))) = some r := H
              have A33 := Aside0.mk A330
              clear A330
              by_cases c34 : t418 = true
              · subst c34
                have H1 : (some false) = some r := by rw [if_pos rfl] at H; exact H
                clear H
                have H := H1
                clear H1
                obtain rfl := Option.some.inj H
                go_wp2_with (first | ((with_reducible refine gate_dst (N := 18) rfl ?_); (try (refine gate_guard (by rfl) ?_; dsimp only)); refine Kd.R_lit k27 _ 27 ?hg (N := 18) ?hd (xs := ([(⟨5, (⟨#[]⟩ : ByteArray), 1⟩ : S27)] : List (S27))) (inner := [.int .i64 5, .string (⟨#[]⟩ : ByteArray), .int .i64 1]) (ok := fun _ => True) (okp := fun _ => True) ?hr ?hp (fun _ hk => hk) trivial (Below.refl _ _) (Nat.le_refl _) (by simp) ?_; (case hd => rfl); (case hg => rfl); (case hr => first | (go_simp; done) | (go_simp; rfl)); (case hp => exact (Reps.c3 (show Kd.M k27 _ _ _ (⟨5, (⟨#[]⟩ : ByteArray), 1⟩ : S27) [.int .i64 5, .string (⟨#[]⟩ : ByteArray), .int .i64 1] from (k27_mkM _ _ _ (⟨5, (⟨#[]⟩ : ByteArray), 1⟩ : S27) )) (Reps.none _ _))); intro v404 w35 ho36 hb hg_ hnew_; clear hg_ hnew_; (first | rw [← Ny403.out] at ho36 | (simp only [Int.reduceToNat] at ho36; rw [← Ny403.out] at ho36)); have n0_ := Aside0.mk (Kd.R_elder' (rl_ HO400.out) (Kd.R_base ho36) hb); have n1_ := Aside0.mk (Kd.R_lower (Kd.R_new' ho36 (Kd.R_lt (rl_ HO400.out))) (below_size (bl_ HB.out))); have n2_ := Aside0.mk (below_step (bl_ HB.out) hb); clear HO400; clear HB; have HO400 := n0_; have HO405 := n1_; have HB := n2_; clear n0_ n1_ n2_; clear hb ho36) | ((with_reducible refine gate_builtin (b := .append) (xs := #[.tmp 18, .tmp 19]) rfl ?_); (try (refine gate_guard (by rfl) ?_; dsimp only)); at_builtin; refine Kd.R_append_rows k27 (w0 := w) w.heap.size rfl (.tmp 18) (.tmp 19) 23 27 (.agg #[(.int .i64 0), (.string ⟨#[]⟩), (.int .i64 0)]) 32 rfl Tryz.underlying23 info27 rfl (by decide) (by omega) v404 y403 t398 _ _ _ (fun k_ => some k_ ≠ (.slice Ao7 t398.length co7 : Value).ownBlock) (fun _ => False) rfl rfl ?aO ?aR (fun _ _ h => h) (fun _ h => h.elim) ?aF ?aB ?aS ?aL ?_; (case aR => repeat (first | exact (Kd.R_reads' HO400.out).2.2 | (with_reducible refine Kd.C_alloc ?_ _) | (with_reducible refine Kd.C_drewN ?_ _) | (with_reducible refine Kd.C_drew ?_))); (case aB => exact (bl_ HB.out)); (case aF => exact (fun k_ hk => Kd.fresh' (Kd.R_lt (rl_ HO400.out)) k_ hk)); (case aO => exact (by (with_reducible repeat (first | apply Kd.R_alloc | apply Kd.R_drewN | apply Kd.R_drew)); exact Kd.R_mono HO405.out (fun _ hk => hk.2))); (case aS => exact (below_size (bl_ HB.out))); (case aL => have := LMc11.out; omega); intro v407 w37 ho hb hg hat; rw [← Ny406.out] at ho; have n0_ := Aside0.mk (Kd.R_after (ok := (fun _ => True)) (rl_ HO400.out) hg hat); have n1_ := Aside0.mk (hb); have n2_ := Aside0.mk (ho); clear HO400; clear HB; clear HO405; have HO400 := n0_; have HB := n1_; have HO408 := n2_; clear n0_ n1_ n2_; clear ho hb hg hat; obtain ⟨Ao38, co38, eo38⟩ := Kd.R_slice HO408.out; subst eo38) | (go_at_call 15; (with_reducible refine (impl_ValueValid.calls k _ _ y406 true _ ?side1 ?side2 ?side3 A31.out).mono ?_); (case side1 => repeat (first | exact (Kd.R_reads' HO408.out).2.2 | (with_reducible refine Kd.C_alloc ?_ _) | (with_reducible refine Kd.C_drewN ?_ _) | (with_reducible refine Kd.C_drew ?_))); (case side2 => exact (Kd.R_reads' HO408.out).2.1); (case side3 => exact Glob.below HG.out (bl_ HB.out)); rintro e w39 ⟨rfl, hb⟩; have n0_ := Aside0.mk (Kd.R_below (rl_ HO400.out) hb); have n1_ := Aside0.mk (Kd.R_below (rl_ HO408.out) hb); have n2_ := Aside0.mk (below_step (bl_ HB.out) hb); clear HO400; clear HO408; clear HB; have HO400 := n0_; have HO408 := n1_; have HB := n2_; clear n0_ n1_ n2_; (try clear hb); (try clear hb2); (try clear hk); (try clear hi)) | ((with_reducible refine gate_dst (N := 34) rfl ?_); (try (refine gate_guard (by rfl) ?_; dsimp only)); refine Kd.R_lit k27 _ 27 ?hg (N := 34) ?hd (xs := ([(⟨4, (⟨#[97]⟩ : ByteArray), 0⟩ : S27)] : List (S27))) (inner := [.int .i64 4, .string (⟨#[97]⟩ : ByteArray), .int .i64 0]) (ok := fun _ => True) (okp := fun _ => True) ?hr ?hp (fun _ hk => hk) trivial (Below.refl _ _) (Nat.le_refl _) (by simp) ?_; (case hd => rfl); (case hg => rfl); (case hr => first | (go_simp; done) | (go_simp; rfl)); (case hp => exact (Reps.c3 (show Kd.M k27 _ _ _ (⟨4, (⟨#[97]⟩ : ByteArray), 0⟩ : S27) [.int .i64 4, .string (⟨#[97]⟩ : ByteArray), .int .i64 0] from (k27_mkM _ _ _ (⟨4, (⟨#[97]⟩ : ByteArray), 0⟩ : S27) )) (Reps.none _ _))); intro v416 w40 ho41 hb hg_ hnew_; clear hg_ hnew_; (first | rw [← Ny415.out] at ho41 | (simp only [Int.reduceToNat] at ho41; rw [← Ny415.out] at ho41)); have n0_ := Aside0.mk (Kd.R_elder' (rl_ HO400.out) (Kd.R_base ho41) hb); have n1_ := Aside0.mk (Kd.R_elder' (rl_ HO408.out) (Kd.R_base ho41) hb); have n2_ := Aside0.mk (Kd.R_lower (Kd.R_new' (Kd.R_new' ho41 (Kd.R_lt (rl_ HO400.out))) (Kd.R_lt (rl_ HO408.out))) (below_size (bl_ HB.out))); have n3_ := Aside0.mk (below_step (bl_ HB.out) hb); clear HO400; clear HO408; clear HB; have HO400 := n0_; have HO408 := n1_; have HO417 := n2_; have HB := n3_; clear n0_ n1_ n2_ n3_; clear hb ho41; obtain ⟨Ao42, co42, eo42⟩ := Kd.R_slice HO417.out; subst eo42) | (go_at_call 15; (with_reducible refine (impl_ValueValid.calls k _ _ y415 true _ ?side1 ?side2 ?side3 A33.out).mono ?_); (case side1 => repeat (first | exact (Kd.R_reads' HO417.out).2.2 | (with_reducible refine Kd.C_alloc ?_ _) | (with_reducible refine Kd.C_drewN ?_ _) | (with_reducible refine Kd.C_drew ?_))); (case side2 => exact (Kd.R_reads' HO417.out).2.1); (case side3 => exact Glob.below HG.out (bl_ HB.out)); rintro e w43 ⟨rfl, hb⟩; have n0_ := Aside0.mk (Kd.R_below (rl_ HO400.out) hb); have n1_ := Aside0.mk (Kd.R_below (rl_ HO408.out) hb); have n2_ := Aside0.mk (Kd.R_below (rl_ HO417.out) hb); have n3_ := Aside0.mk (below_step (bl_ HB.out) hb); clear HO400; clear HO408; clear HO417; clear HB; have HO400 := n0_; have HO408 := n1_; have HO417 := n2_; have HB := n3_; clear n0_ n1_ n2_ n3_; (try clear hb); (try clear hb2); (try clear hk); (try clear hi)))
                go_ret
                exact ⟨by first | rfl | simp [*], bl_ HB.out⟩
              · replace c34 := Bool.eq_false_iff.mpr c34
                subst c34
                have H1 : ((laws_alive.f k).bind fun t419 => (some t419)) = some r := by rw [if_neg (show ¬ (false = true) by decide)] at H; exact H
                clear H
                have H := H1
                clear H1
                replace H := Option.bind_eq_some_iff.mp H
                obtain ⟨t419, A440, H⟩ := H
                replace H : (some t419) = some r := H
                have A44 := Aside0.mk A440
                clear A440
                obtain rfl := Option.some.inj H
                go_wp2_with (first | ((with_reducible refine gate_dst (N := 18) rfl ?_); (try (refine gate_guard (by rfl) ?_; dsimp only)); refine Kd.R_lit k27 _ 27 ?hg (N := 18) ?hd (xs := ([(⟨5, (⟨#[]⟩ : ByteArray), 1⟩ : S27)] : List (S27))) (inner := [.int .i64 5, .string (⟨#[]⟩ : ByteArray), .int .i64 1]) (ok := fun _ => True) (okp := fun _ => True) ?hr ?hp (fun _ hk => hk) trivial (Below.refl _ _) (Nat.le_refl _) (by simp) ?_; (case hd => rfl); (case hg => rfl); (case hr => first | (go_simp; done) | (go_simp; rfl)); (case hp => exact (Reps.c3 (show Kd.M k27 _ _ _ (⟨5, (⟨#[]⟩ : ByteArray), 1⟩ : S27) [.int .i64 5, .string (⟨#[]⟩ : ByteArray), .int .i64 1] from (k27_mkM _ _ _ (⟨5, (⟨#[]⟩ : ByteArray), 1⟩ : S27) )) (Reps.none _ _))); intro v404 w45 ho46 hb hg_ hnew_; clear hg_ hnew_; (first | rw [← Ny403.out] at ho46 | (simp only [Int.reduceToNat] at ho46; rw [← Ny403.out] at ho46)); have n0_ := Aside0.mk (Kd.R_elder' (rl_ HO400.out) (Kd.R_base ho46) hb); have n1_ := Aside0.mk (Kd.R_lower (Kd.R_new' ho46 (Kd.R_lt (rl_ HO400.out))) (below_size (bl_ HB.out))); have n2_ := Aside0.mk (below_step (bl_ HB.out) hb); clear HO400; clear HB; have HO400 := n0_; have HO405 := n1_; have HB := n2_; clear n0_ n1_ n2_; clear hb ho46) | ((with_reducible refine gate_builtin (b := .append) (xs := #[.tmp 18, .tmp 19]) rfl ?_); (try (refine gate_guard (by rfl) ?_; dsimp only)); at_builtin; refine Kd.R_append_rows k27 (w0 := w) w.heap.size rfl (.tmp 18) (.tmp 19) 23 27 (.agg #[(.int .i64 0), (.string ⟨#[]⟩), (.int .i64 0)]) 32 rfl Tryz.underlying23 info27 rfl (by decide) (by omega) v404 y403 t398 _ _ _ (fun k_ => some k_ ≠ (.slice Ao7 t398.length co7 : Value).ownBlock) (fun _ => False) rfl rfl ?aO ?aR (fun _ _ h => h) (fun _ h => h.elim) ?aF ?aB ?aS ?aL ?_; (case aR => repeat (first | exact (Kd.R_reads' HO400.out).2.2 | (with_reducible refine Kd.C_alloc ?_ _) | (with_reducible refine Kd.C_drewN ?_ _) | (with_reducible refine Kd.C_drew ?_))); (case aB => exact (bl_ HB.out)); (case aF => exact (fun k_ hk => Kd.fresh' (Kd.R_lt (rl_ HO400.out)) k_ hk)); (case aO => exact (by (with_reducible repeat (first | apply Kd.R_alloc | apply Kd.R_drewN | apply Kd.R_drew)); exact Kd.R_mono HO405.out (fun _ hk => hk.2))); (case aS => exact (below_size (bl_ HB.out))); (case aL => have := LMc11.out; omega); intro v407 w47 ho hb hg hat; rw [← Ny406.out] at ho; have n0_ := Aside0.mk (Kd.R_after (ok := (fun _ => True)) (rl_ HO400.out) hg hat); have n1_ := Aside0.mk (hb); have n2_ := Aside0.mk (ho); clear HO400; clear HB; clear HO405; have HO400 := n0_; have HB := n1_; have HO408 := n2_; clear n0_ n1_ n2_; clear ho hb hg hat; obtain ⟨Ao48, co48, eo48⟩ := Kd.R_slice HO408.out; subst eo48) | (go_at_call 15; (with_reducible refine (impl_ValueValid.calls k _ _ y406 true _ ?side1 ?side2 ?side3 A31.out).mono ?_); (case side1 => repeat (first | exact (Kd.R_reads' HO408.out).2.2 | (with_reducible refine Kd.C_alloc ?_ _) | (with_reducible refine Kd.C_drewN ?_ _) | (with_reducible refine Kd.C_drew ?_))); (case side2 => exact (Kd.R_reads' HO408.out).2.1); (case side3 => exact Glob.below HG.out (bl_ HB.out)); rintro e w49 ⟨rfl, hb⟩; have n0_ := Aside0.mk (Kd.R_below (rl_ HO400.out) hb); have n1_ := Aside0.mk (Kd.R_below (rl_ HO408.out) hb); have n2_ := Aside0.mk (below_step (bl_ HB.out) hb); clear HO400; clear HO408; clear HB; have HO400 := n0_; have HO408 := n1_; have HB := n2_; clear n0_ n1_ n2_; (try clear hb); (try clear hb2); (try clear hk); (try clear hi)) | ((with_reducible refine gate_dst (N := 34) rfl ?_); (try (refine gate_guard (by rfl) ?_; dsimp only)); refine Kd.R_lit k27 _ 27 ?hg (N := 34) ?hd (xs := ([(⟨4, (⟨#[97]⟩ : ByteArray), 0⟩ : S27)] : List (S27))) (inner := [.int .i64 4, .string (⟨#[97]⟩ : ByteArray), .int .i64 0]) (ok := fun _ => True) (okp := fun _ => True) ?hr ?hp (fun _ hk => hk) trivial (Below.refl _ _) (Nat.le_refl _) (by simp) ?_; (case hd => rfl); (case hg => rfl); (case hr => first | (go_simp; done) | (go_simp; rfl)); (case hp => exact (Reps.c3 (show Kd.M k27 _ _ _ (⟨4, (⟨#[97]⟩ : ByteArray), 0⟩ : S27) [.int .i64 4, .string (⟨#[97]⟩ : ByteArray), .int .i64 0] from (k27_mkM _ _ _ (⟨4, (⟨#[97]⟩ : ByteArray), 0⟩ : S27) )) (Reps.none _ _))); intro v416 w50 ho51 hb hg_ hnew_; clear hg_ hnew_; (first | rw [← Ny415.out] at ho51 | (simp only [Int.reduceToNat] at ho51; rw [← Ny415.out] at ho51)); have n0_ := Aside0.mk (Kd.R_elder' (rl_ HO400.out) (Kd.R_base ho51) hb); have n1_ := Aside0.mk (Kd.R_elder' (rl_ HO408.out) (Kd.R_base ho51) hb); have n2_ := Aside0.mk (Kd.R_lower (Kd.R_new' (Kd.R_new' ho51 (Kd.R_lt (rl_ HO400.out))) (Kd.R_lt (rl_ HO408.out))) (below_size (bl_ HB.out))); have n3_ := Aside0.mk (below_step (bl_ HB.out) hb); clear HO400; clear HO408; clear HB; have HO400 := n0_; have HO408 := n1_; have HO417 := n2_; have HB := n3_; clear n0_ n1_ n2_ n3_; clear hb ho51; obtain ⟨Ao52, co52, eo52⟩ := Kd.R_slice HO417.out; subst eo52) | (go_at_call 15; (with_reducible refine (impl_ValueValid.calls k _ _ y415 false _ ?side1 ?side2 ?side3 A33.out).mono ?_); (case side1 => repeat (first | exact (Kd.R_reads' HO417.out).2.2 | (with_reducible refine Kd.C_alloc ?_ _) | (with_reducible refine Kd.C_drewN ?_ _) | (with_reducible refine Kd.C_drew ?_))); (case side2 => exact (Kd.R_reads' HO417.out).2.1); (case side3 => exact Glob.below HG.out (bl_ HB.out)); rintro e w53 ⟨rfl, hb⟩; have n0_ := Aside0.mk (Kd.R_below (rl_ HO400.out) hb); have n1_ := Aside0.mk (Kd.R_below (rl_ HO408.out) hb); have n2_ := Aside0.mk (Kd.R_below (rl_ HO417.out) hb); have n3_ := Aside0.mk (below_step (bl_ HB.out) hb); clear HO400; clear HO408; clear HO417; clear HB; have HO400 := n0_; have HO408 := n1_; have HO417 := n2_; have HB := n3_; clear n0_ n1_ n2_ n3_; (try clear hb); (try clear hb2); (try clear hk); (try clear hi)) | (go_at_call 17; (with_reducible refine (laws_alive.calls k  t419 _ A44.out).mono ?_); rintro e w' ⟨rfl, ⟨nd, rfl⟩⟩))
                go_ret
                exact ⟨by first | rfl | simp [*], bl_ HB.out⟩
            · replace c32 := Bool.eq_false_iff.mpr c32
              subst c32
              have H1 : (some false) = some r := by rw [if_neg (show ¬ (false = true) by decide)] at H; exact H
              clear H
              have H := H1
              clear H1
              obtain rfl := Option.some.inj H
              go_wp2_with (first | ((with_reducible refine gate_dst (N := 18) rfl ?_); (try (refine gate_guard (by rfl) ?_; dsimp only)); refine Kd.R_lit k27 _ 27 ?hg (N := 18) ?hd (xs := ([(⟨5, (⟨#[]⟩ : ByteArray), 1⟩ : S27)] : List (S27))) (inner := [.int .i64 5, .string (⟨#[]⟩ : ByteArray), .int .i64 1]) (ok := fun _ => True) (okp := fun _ => True) ?hr ?hp (fun _ hk => hk) trivial (Below.refl _ _) (Nat.le_refl _) (by simp) ?_; (case hd => rfl); (case hg => rfl); (case hr => first | (go_simp; done) | (go_simp; rfl)); (case hp => exact (Reps.c3 (show Kd.M k27 _ _ _ (⟨5, (⟨#[]⟩ : ByteArray), 1⟩ : S27) [.int .i64 5, .string (⟨#[]⟩ : ByteArray), .int .i64 1] from (k27_mkM _ _ _ (⟨5, (⟨#[]⟩ : ByteArray), 1⟩ : S27) )) (Reps.none _ _))); intro v404 w54 ho55 hb hg_ hnew_; clear hg_ hnew_; (first | rw [← Ny403.out] at ho55 | (simp only [Int.reduceToNat] at ho55; rw [← Ny403.out] at ho55)); have n0_ := Aside0.mk (Kd.R_elder' (rl_ HO400.out) (Kd.R_base ho55) hb); have n1_ := Aside0.mk (Kd.R_lower (Kd.R_new' ho55 (Kd.R_lt (rl_ HO400.out))) (below_size (bl_ HB.out))); have n2_ := Aside0.mk (below_step (bl_ HB.out) hb); clear HO400; clear HB; have HO400 := n0_; have HO405 := n1_; have HB := n2_; clear n0_ n1_ n2_; clear hb ho55) | ((with_reducible refine gate_builtin (b := .append) (xs := #[.tmp 18, .tmp 19]) rfl ?_); (try (refine gate_guard (by rfl) ?_; dsimp only)); at_builtin; refine Kd.R_append_rows k27 (w0 := w) w.heap.size rfl (.tmp 18) (.tmp 19) 23 27 (.agg #[(.int .i64 0), (.string ⟨#[]⟩), (.int .i64 0)]) 32 rfl Tryz.underlying23 info27 rfl (by decide) (by omega) v404 y403 t398 _ _ _ (fun k_ => some k_ ≠ (.slice Ao7 t398.length co7 : Value).ownBlock) (fun _ => False) rfl rfl ?aO ?aR (fun _ _ h => h) (fun _ h => h.elim) ?aF ?aB ?aS ?aL ?_; (case aR => repeat (first | exact (Kd.R_reads' HO400.out).2.2 | (with_reducible refine Kd.C_alloc ?_ _) | (with_reducible refine Kd.C_drewN ?_ _) | (with_reducible refine Kd.C_drew ?_))); (case aB => exact (bl_ HB.out)); (case aF => exact (fun k_ hk => Kd.fresh' (Kd.R_lt (rl_ HO400.out)) k_ hk)); (case aO => exact (by (with_reducible repeat (first | apply Kd.R_alloc | apply Kd.R_drewN | apply Kd.R_drew)); exact Kd.R_mono HO405.out (fun _ hk => hk.2))); (case aS => exact (below_size (bl_ HB.out))); (case aL => have := LMc11.out; omega); intro v407 w56 ho hb hg hat; rw [← Ny406.out] at ho; have n0_ := Aside0.mk (Kd.R_after (ok := (fun _ => True)) (rl_ HO400.out) hg hat); have n1_ := Aside0.mk (hb); have n2_ := Aside0.mk (ho); clear HO400; clear HB; clear HO405; have HO400 := n0_; have HB := n1_; have HO408 := n2_; clear n0_ n1_ n2_; clear ho hb hg hat; obtain ⟨Ao57, co57, eo57⟩ := Kd.R_slice HO408.out; subst eo57) | (go_at_call 15; (with_reducible refine (impl_ValueValid.calls k _ _ y406 false _ ?side1 ?side2 ?side3 A31.out).mono ?_); (case side1 => repeat (first | exact (Kd.R_reads' HO408.out).2.2 | (with_reducible refine Kd.C_alloc ?_ _) | (with_reducible refine Kd.C_drewN ?_ _) | (with_reducible refine Kd.C_drew ?_))); (case side2 => exact (Kd.R_reads' HO408.out).2.1); (case side3 => exact Glob.below HG.out (bl_ HB.out)); rintro e w58 ⟨rfl, hb⟩; have n0_ := Aside0.mk (Kd.R_below (rl_ HO400.out) hb); have n1_ := Aside0.mk (Kd.R_below (rl_ HO408.out) hb); have n2_ := Aside0.mk (below_step (bl_ HB.out) hb); clear HO400; clear HO408; clear HB; have HO400 := n0_; have HO408 := n1_; have HB := n2_; clear n0_ n1_ n2_; (try clear hb); (try clear hb2); (try clear hk); (try clear hi)))
              go_ret
              exact ⟨by first | rfl | simp [*], bl_ HB.out⟩
        · replace c12 := Bool.eq_false_iff.mpr c12
          subst c12
          have H1 : ((impl_ValueValid.f k (([(⟨4, (⟨#[97]⟩ : ByteArray), 0⟩ : S27)] : List (S27)))).bind fun t423 => (if t423 = true then (some false) else ((laws_alive.f k).bind fun t424 => (some t424)))) = some r := by rw [if_neg (show ¬ (false = true) by decide)] at H; exact H
          clear H
          have H := H1
          clear H1
          obtain ⟨y420, hy420⟩ : ∃ y_ : List (S27), y_ = (([(⟨4, (⟨#[97]⟩ : ByteArray), 0⟩ : S27)] : List (S27))) := ⟨_, rfl⟩
          replace H : ((impl_ValueValid.f k y420).bind fun t423 => (if t423 = true then (some false) else ((laws_alive.f k).bind fun t424 => (some t424)))) = some r := by first | (rw [hy420]; with_reducible exact H) | (have H2_ := (Option.bind_some _ _).symm.trans H; rw [hy420]; with_reducible exact H2_) | (have H2_ := (Option.bind_some _ _).symm.trans H; with_reducible exact H2_) | with_reducible exact H | (rw [hy420]; exact H) | exact H
          have Ny420 := Aside0.mk hy420
          clear hy420
          replace H := Option.bind_eq_some_iff.mp H
          obtain ⟨t423, A590, H⟩ := H
          replace H : (if t423 = true then (some false) else ((laws_alive.f k).bind fun t424 => (some t424))) = some r := H
          have A59 := Aside0.mk A590
          clear A590
          by_cases c60 : t423 = true
          · subst c60
            have H1 : (some false) = some r := by rw [if_pos rfl] at H; exact H
            clear H
            have H := H1
            clear H1
            obtain rfl := Option.some.inj H
            go_wp2_with (first | ((with_reducible refine gate_dst (N := 18) rfl ?_); (try (refine gate_guard (by rfl) ?_; dsimp only)); refine Kd.R_lit k27 _ 27 ?hg (N := 18) ?hd (xs := ([(⟨5, (⟨#[]⟩ : ByteArray), 1⟩ : S27)] : List (S27))) (inner := [.int .i64 5, .string (⟨#[]⟩ : ByteArray), .int .i64 1]) (ok := fun _ => True) (okp := fun _ => True) ?hr ?hp (fun _ hk => hk) trivial (Below.refl _ _) (Nat.le_refl _) (by simp) ?_; (case hd => rfl); (case hg => rfl); (case hr => first | (go_simp; done) | (go_simp; rfl)); (case hp => exact (Reps.c3 (show Kd.M k27 _ _ _ (⟨5, (⟨#[]⟩ : ByteArray), 1⟩ : S27) [.int .i64 5, .string (⟨#[]⟩ : ByteArray), .int .i64 1] from (k27_mkM _ _ _ (⟨5, (⟨#[]⟩ : ByteArray), 1⟩ : S27) )) (Reps.none _ _))); intro v404 w61 ho62 hb hg_ hnew_; clear hg_ hnew_; (first | rw [← Ny403.out] at ho62 | (simp only [Int.reduceToNat] at ho62; rw [← Ny403.out] at ho62)); have n0_ := Aside0.mk (Kd.R_elder' (rl_ HO400.out) (Kd.R_base ho62) hb); have n1_ := Aside0.mk (Kd.R_lower (Kd.R_new' ho62 (Kd.R_lt (rl_ HO400.out))) (below_size (bl_ HB.out))); have n2_ := Aside0.mk (below_step (bl_ HB.out) hb); clear HO400; clear HB; have HO400 := n0_; have HO405 := n1_; have HB := n2_; clear n0_ n1_ n2_; clear hb ho62) | ((with_reducible refine gate_builtin (b := .append) (xs := #[.tmp 18, .tmp 19]) rfl ?_); (try (refine gate_guard (by rfl) ?_; dsimp only)); at_builtin; refine Kd.R_append_rows k27 (w0 := w) w.heap.size rfl (.tmp 18) (.tmp 19) 23 27 (.agg #[(.int .i64 0), (.string ⟨#[]⟩), (.int .i64 0)]) 32 rfl Tryz.underlying23 info27 rfl (by decide) (by omega) v404 y403 t398 _ _ _ (fun k_ => some k_ ≠ (.slice Ao7 t398.length co7 : Value).ownBlock) (fun _ => False) rfl rfl ?aO ?aR (fun _ _ h => h) (fun _ h => h.elim) ?aF ?aB ?aS ?aL ?_; (case aR => repeat (first | exact (Kd.R_reads' HO400.out).2.2 | (with_reducible refine Kd.C_alloc ?_ _) | (with_reducible refine Kd.C_drewN ?_ _) | (with_reducible refine Kd.C_drew ?_))); (case aB => exact (bl_ HB.out)); (case aF => exact (fun k_ hk => Kd.fresh' (Kd.R_lt (rl_ HO400.out)) k_ hk)); (case aO => exact (by (with_reducible repeat (first | apply Kd.R_alloc | apply Kd.R_drewN | apply Kd.R_drew)); exact Kd.R_mono HO405.out (fun _ hk => hk.2))); (case aS => exact (below_size (bl_ HB.out))); (case aL => have := LMc11.out; omega); intro v407 w63 ho hb hg hat; rw [← Ny406.out] at ho; have n0_ := Aside0.mk (Kd.R_after (ok := (fun _ => True)) (rl_ HO400.out) hg hat); have n1_ := Aside0.mk (hb); have n2_ := Aside0.mk (ho); clear HO400; clear HB; clear HO405; have HO400 := n0_; have HB := n1_; have HO408 := n2_; clear n0_ n1_ n2_; clear ho hb hg hat) | ((with_reducible refine gate_dst (N := 34) rfl ?_); (try (refine gate_guard (by rfl) ?_; dsimp only)); refine Kd.R_lit k27 _ 27 ?hg (N := 34) ?hd (xs := ([(⟨4, (⟨#[97]⟩ : ByteArray), 0⟩ : S27)] : List (S27))) (inner := [.int .i64 4, .string (⟨#[97]⟩ : ByteArray), .int .i64 0]) (ok := fun _ => True) (okp := fun _ => True) ?hr ?hp (fun _ hk => hk) trivial (Below.refl _ _) (Nat.le_refl _) (by simp) ?_; (case hd => rfl); (case hg => rfl); (case hr => first | (go_simp; done) | (go_simp; rfl)); (case hp => exact (Reps.c3 (show Kd.M k27 _ _ _ (⟨4, (⟨#[97]⟩ : ByteArray), 0⟩ : S27) [.int .i64 4, .string (⟨#[97]⟩ : ByteArray), .int .i64 0] from (k27_mkM _ _ _ (⟨4, (⟨#[97]⟩ : ByteArray), 0⟩ : S27) )) (Reps.none _ _))); intro v421 w64 ho65 hb hg_ hnew_; clear hg_ hnew_; (first | rw [← Ny420.out] at ho65 | (simp only [Int.reduceToNat] at ho65; rw [← Ny420.out] at ho65)); have n0_ := Aside0.mk (Kd.R_elder' (rl_ HO400.out) (Kd.R_base ho65) hb); have n1_ := Aside0.mk (Kd.R_elder' (rl_ HO408.out) (Kd.R_base ho65) hb); have n2_ := Aside0.mk (Kd.R_lower (Kd.R_new' (Kd.R_new' ho65 (Kd.R_lt (rl_ HO400.out))) (Kd.R_lt (rl_ HO408.out))) (below_size (bl_ HB.out))); have n3_ := Aside0.mk (below_step (bl_ HB.out) hb); clear HO400; clear HO408; clear HB; have HO400 := n0_; have HO408 := n1_; have HO422 := n2_; have HB := n3_; clear n0_ n1_ n2_ n3_; clear hb ho65; obtain ⟨Ao66, co66, eo66⟩ := Kd.R_slice HO422.out; subst eo66) | (go_at_call 15; (with_reducible refine (impl_ValueValid.calls k _ _ y420 true _ ?side1 ?side2 ?side3 A59.out).mono ?_); (case side1 => repeat (first | exact (Kd.R_reads' HO422.out).2.2 | (with_reducible refine Kd.C_alloc ?_ _) | (with_reducible refine Kd.C_drewN ?_ _) | (with_reducible refine Kd.C_drew ?_))); (case side2 => exact (Kd.R_reads' HO422.out).2.1); (case side3 => exact Glob.below HG.out (bl_ HB.out)); rintro e w67 ⟨rfl, hb⟩; have n0_ := Aside0.mk (Kd.R_below (rl_ HO400.out) hb); have n1_ := Aside0.mk (Kd.R_below (rl_ HO408.out) hb); have n2_ := Aside0.mk (Kd.R_below (rl_ HO422.out) hb); have n3_ := Aside0.mk (below_step (bl_ HB.out) hb); clear HO400; clear HO408; clear HO422; clear HB; have HO400 := n0_; have HO408 := n1_; have HO422 := n2_; have HB := n3_; clear n0_ n1_ n2_ n3_; (try clear hb); (try clear hb2); (try clear hk); (try clear hi)))
            go_ret
            exact ⟨by first | rfl | simp [*], bl_ HB.out⟩
          · replace c60 := Bool.eq_false_iff.mpr c60
            subst c60
            have H1 : ((laws_alive.f k).bind fun t424 => (some t424)) = some r := by rw [if_neg (show ¬ (false = true) by decide)] at H; exact H
            clear H
            have H := H1
            clear H1
            replace H := Option.bind_eq_some_iff.mp H
            obtain ⟨t424, A680, H⟩ := H
            replace H : (some t424) = some r := H
            have A68 := Aside0.mk A680
            clear A680
            obtain rfl := Option.some.inj H
            go_wp2_with (first | ((with_reducible refine gate_dst (N := 18) rfl ?_); (try (refine gate_guard (by rfl) ?_; dsimp only)); refine Kd.R_lit k27 _ 27 ?hg (N := 18) ?hd (xs := ([(⟨5, (⟨#[]⟩ : ByteArray), 1⟩ : S27)] : List (S27))) (inner := [.int .i64 5, .string (⟨#[]⟩ : ByteArray), .int .i64 1]) (ok := fun _ => True) (okp := fun _ => True) ?hr ?hp (fun _ hk => hk) trivial (Below.refl _ _) (Nat.le_refl _) (by simp) ?_; (case hd => rfl); (case hg => rfl); (case hr => first | (go_simp; done) | (go_simp; rfl)); (case hp => exact (Reps.c3 (show Kd.M k27 _ _ _ (⟨5, (⟨#[]⟩ : ByteArray), 1⟩ : S27) [.int .i64 5, .string (⟨#[]⟩ : ByteArray), .int .i64 1] from (k27_mkM _ _ _ (⟨5, (⟨#[]⟩ : ByteArray), 1⟩ : S27) )) (Reps.none _ _))); intro v404 w69 ho70 hb hg_ hnew_; clear hg_ hnew_; (first | rw [← Ny403.out] at ho70 | (simp only [Int.reduceToNat] at ho70; rw [← Ny403.out] at ho70)); have n0_ := Aside0.mk (Kd.R_elder' (rl_ HO400.out) (Kd.R_base ho70) hb); have n1_ := Aside0.mk (Kd.R_lower (Kd.R_new' ho70 (Kd.R_lt (rl_ HO400.out))) (below_size (bl_ HB.out))); have n2_ := Aside0.mk (below_step (bl_ HB.out) hb); clear HO400; clear HB; have HO400 := n0_; have HO405 := n1_; have HB := n2_; clear n0_ n1_ n2_; clear hb ho70) | ((with_reducible refine gate_builtin (b := .append) (xs := #[.tmp 18, .tmp 19]) rfl ?_); (try (refine gate_guard (by rfl) ?_; dsimp only)); at_builtin; refine Kd.R_append_rows k27 (w0 := w) w.heap.size rfl (.tmp 18) (.tmp 19) 23 27 (.agg #[(.int .i64 0), (.string ⟨#[]⟩), (.int .i64 0)]) 32 rfl Tryz.underlying23 info27 rfl (by decide) (by omega) v404 y403 t398 _ _ _ (fun k_ => some k_ ≠ (.slice Ao7 t398.length co7 : Value).ownBlock) (fun _ => False) rfl rfl ?aO ?aR (fun _ _ h => h) (fun _ h => h.elim) ?aF ?aB ?aS ?aL ?_; (case aR => repeat (first | exact (Kd.R_reads' HO400.out).2.2 | (with_reducible refine Kd.C_alloc ?_ _) | (with_reducible refine Kd.C_drewN ?_ _) | (with_reducible refine Kd.C_drew ?_))); (case aB => exact (bl_ HB.out)); (case aF => exact (fun k_ hk => Kd.fresh' (Kd.R_lt (rl_ HO400.out)) k_ hk)); (case aO => exact (by (with_reducible repeat (first | apply Kd.R_alloc | apply Kd.R_drewN | apply Kd.R_drew)); exact Kd.R_mono HO405.out (fun _ hk => hk.2))); (case aS => exact (below_size (bl_ HB.out))); (case aL => have := LMc11.out; omega); intro v407 w71 ho hb hg hat; rw [← Ny406.out] at ho; have n0_ := Aside0.mk (Kd.R_after (ok := (fun _ => True)) (rl_ HO400.out) hg hat); have n1_ := Aside0.mk (hb); have n2_ := Aside0.mk (ho); clear HO400; clear HB; clear HO405; have HO400 := n0_; have HB := n1_; have HO408 := n2_; clear n0_ n1_ n2_; clear ho hb hg hat) | ((with_reducible refine gate_dst (N := 34) rfl ?_); (try (refine gate_guard (by rfl) ?_; dsimp only)); refine Kd.R_lit k27 _ 27 ?hg (N := 34) ?hd (xs := ([(⟨4, (⟨#[97]⟩ : ByteArray), 0⟩ : S27)] : List (S27))) (inner := [.int .i64 4, .string (⟨#[97]⟩ : ByteArray), .int .i64 0]) (ok := fun _ => True) (okp := fun _ => True) ?hr ?hp (fun _ hk => hk) trivial (Below.refl _ _) (Nat.le_refl _) (by simp) ?_; (case hd => rfl); (case hg => rfl); (case hr => first | (go_simp; done) | (go_simp; rfl)); (case hp => exact (Reps.c3 (show Kd.M k27 _ _ _ (⟨4, (⟨#[97]⟩ : ByteArray), 0⟩ : S27) [.int .i64 4, .string (⟨#[97]⟩ : ByteArray), .int .i64 0] from (k27_mkM _ _ _ (⟨4, (⟨#[97]⟩ : ByteArray), 0⟩ : S27) )) (Reps.none _ _))); intro v421 w72 ho73 hb hg_ hnew_; clear hg_ hnew_; (first | rw [← Ny420.out] at ho73 | (simp only [Int.reduceToNat] at ho73; rw [← Ny420.out] at ho73)); have n0_ := Aside0.mk (Kd.R_elder' (rl_ HO400.out) (Kd.R_base ho73) hb); have n1_ := Aside0.mk (Kd.R_elder' (rl_ HO408.out) (Kd.R_base ho73) hb); have n2_ := Aside0.mk (Kd.R_lower (Kd.R_new' (Kd.R_new' ho73 (Kd.R_lt (rl_ HO400.out))) (Kd.R_lt (rl_ HO408.out))) (below_size (bl_ HB.out))); have n3_ := Aside0.mk (below_step (bl_ HB.out) hb); clear HO400; clear HO408; clear HB; have HO400 := n0_; have HO408 := n1_; have HO422 := n2_; have HB := n3_; clear n0_ n1_ n2_ n3_; clear hb ho73; obtain ⟨Ao74, co74, eo74⟩ := Kd.R_slice HO422.out; subst eo74) | (go_at_call 15; (with_reducible refine (impl_ValueValid.calls k _ _ y420 false _ ?side1 ?side2 ?side3 A59.out).mono ?_); (case side1 => repeat (first | exact (Kd.R_reads' HO422.out).2.2 | (with_reducible refine Kd.C_alloc ?_ _) | (with_reducible refine Kd.C_drewN ?_ _) | (with_reducible refine Kd.C_drew ?_))); (case side2 => exact (Kd.R_reads' HO422.out).2.1); (case side3 => exact Glob.below HG.out (bl_ HB.out)); rintro e w75 ⟨rfl, hb⟩; have n0_ := Aside0.mk (Kd.R_below (rl_ HO400.out) hb); have n1_ := Aside0.mk (Kd.R_below (rl_ HO408.out) hb); have n2_ := Aside0.mk (Kd.R_below (rl_ HO422.out) hb); have n3_ := Aside0.mk (below_step (bl_ HB.out) hb); clear HO400; clear HO408; clear HO422; clear HB; have HO400 := n0_; have HO408 := n1_; have HO422 := n2_; have HB := n3_; clear n0_ n1_ n2_ n3_; (try clear hb); (try clear hb2); (try clear hk); (try clear hi)) | (go_at_call 17; (with_reducible refine (laws_alive.calls k  t424 _ A68.out).mono ?_); rintro e w' ⟨rfl, ⟨nd, rfl⟩⟩))
            go_ret
            exact ⟨by first | rfl | simp [*], bl_ HB.out⟩
      · rw [if_neg c11] at H
        exact absurd H (by simp)
def laws_FnValueValid.Pure : Prop := ∀ (l0 : List Int), l0.length ≤ maxLen → l0.length * 1 ≤ 140737488351232 → (∀ x ∈ l0, (Lit.int .u8 x).wf = true) → ∃ k, laws_FnValueValid.f k l0 = some true
end Go.Proofs.YtjdlepjgniokdaaGreatDoor.PA

end
section

namespace Go.Proofs.YtjdlepjgniokdaaGreatDoor.Base
open Go.RowKit Go.Proofs.YtjdlepjgniokdaaGreatDoorW.PrintWords
theorem Ev.succ {α : Type} {g : Nat → Option α} {r : α} (h : Ev (fun k => g (k + 1)) r) : Ev g r := Ev.step (fun _ => rfl) h
theorem Ev.some {α : Type} {r q : α} (h : q = r) : Ev (fun _ => Option.some q) r := by subst h; exact Ev.now _
theorem Ev.ofEq {α : Type} {o : Option α} {r : α} (h : o = Option.some r) : Ev (fun _ => o) r := ⟨0, fun _ _ => h⟩
theorem Ev.bind0 {α β : Type} {o : Option α} {f : Nat → α → Option β} {a : α} {r : β} (h : o = Option.some a) (k : Ev (fun n => f n a) r) : Ev (fun n => o.bind (f n)) r :=
  Ev.bind (g := fun _ => o) (Ev.ofEq h) k
theorem wrap64_id {x : Int} (h0 : -9223372036854775808 ≤ x) (h1 : x < 9223372036854775808) : wrap64 x = x := by
  unfold wrap64
  omega
def bs (s : ByteArray) : List UInt8 := s.data.toList
theorem bs_length (s : ByteArray) : (bs s).length = s.size := data_length s
theorem bs_inj {s t : ByteArray} (h : bs s = bs t) : s = t := by
  obtain ⟨⟨l⟩⟩ := s
  obtain ⟨⟨m⟩⟩ := t
  simp only [bs] at h
  subst h
  rfl
theorem bs_append (s t : ByteArray) : bs (s ++ t) = bs s ++ bs t := by
  simp [bs, ByteArray.data_append]
theorem bs_mk (l : List UInt8) : bs ⟨l.toArray⟩ = l := by simp [bs]
theorem toList_nil (s : ByteArray) : s.toList = ([] : List UInt8) ↔ bs s = [] := by
  rw [Go.Lib.toList_data]
  rfl
theorem bt_get (s : ByteArray) (i : Nat) (h : i < s.size) : bt s i = (((bs s)[i]'(by rw [bs_length]; exact h)).toNat : Int) := by
  have : ((i : Int)).toNat = i := by omega
  simp only [bt, this, dif_pos h]
  rfl
end Go.Proofs.YtjdlepjgniokdaaGreatDoor.Base

end
section

namespace Go.Proofs.YtjdlepjgniokdaaGreatDoor.Pure
open Go.RowKit Go.Proofs.YtjdlepjgniokdaaGreatDoor.PA Go.Proofs.YtjdlepjgniokdaaGreatDoorW.PrintWords Go.Proofs.YtjdlepjgniokdaaGreatDoor.Base
set_option linter.unusedVariables false
set_option linter.unusedSimpArgs false
theorem xor_nat (a b : Nat) (ha : a < 2 ^ 62) (hb : b < 2 ^ 62) : Go.bits .xor .i64 a b = ((a ^^^ b : Nat) : Int) := by
  have ha' : a % 2 ^ 64 = a := Nat.mod_eq_of_lt (by omega)
  have hb' : b % 2 ^ 64 = b := Nat.mod_eq_of_lt (by omega)
  have hx : a ^^^ b < 2 ^ 62 := Nat.xor_lt_two_pow ha hb
  simp only [Go.bits, BitVec.ofInt_natCast, BitVec.toNat_xor, BitVec.toNat_ofNat]
  show IntKind.i64.wrap _ = _
  rw [show IntKind.i64.bits = 64 from rfl, ha', hb', IntKind.wrap_i64]
  omega
theorem xor_nonneg (a b : Int) (ha : 0 ≤ a) (ha' : a < 2 ^ 62) (hb : 0 ≤ b) (hb' : b < 2 ^ 62) : 0 ≤ Go.bits .xor .i64 a b ∧ Go.bits .xor .i64 a b < 2 ^ 62 := by
  obtain ⟨x, rfl⟩ := Int.eq_ofNat_of_zero_le ha
  obtain ⟨y, rfl⟩ := Int.eq_ofNat_of_zero_le hb
  have h1 : x < 2 ^ 62 := by omega
  have h2 : y < 2 ^ 62 := by omega
  have := Nat.xor_lt_two_pow h1 h2
  rw [xor_nat x y h1 h2]
  omega
def Code (l : List Int) : Prop := l.length ≤ 2000 ∧ ∀ x ∈ l, 0 ≤ x ∧ x ≤ 255
theorem rd_code {l : List Int} (h : Code l) (i : Int) : 0 ≤ rd l i ∧ rd l i ≤ 255 := by
  unfold rd
  rw [List.getD_eq_getElem?_getD]
  by_cases hi : i.toNat < l.length
  · rw [List.getElem?_eq_getElem hi]
    exact h.2 _ (List.getElem_mem hi)
  · rw [List.getElem?_eq_none (by omega)]
    simp
theorem tmod_range (a n : Int) (ha : 0 ≤ a) (hn : 0 < n) : 0 ≤ Int.tmod a n ∧ Int.tmod a n < n :=
  ⟨Int.tmod_nonneg _ ha, Int.tmod_lt_of_pos _ hn⟩
set_option maxRecDepth 4000 in
theorem pick_ev {l : List Int} (h : Code l) (p n : Int) (hp : 0 ≤ p) (hp' : p < 1073741824) :
    ∃ r, Ev (fun k => spec_l20Rd_pick.f k l p n) (r, p + 1) ∧ 0 ≤ r ∧ (n < 1 → r = 0) ∧ (1 ≤ n → r < n) := by
  simp only [spec_l20Rd_pick.f]
  rw [wrap64_id (x := p + 1) (by omega) (by omega)]
  by_cases hn : n < 1
  · refine ⟨0, ?_, by omega, fun _ => rfl, fun _ => by omega⟩
    simp only [hn, if_true]
    apply Ev.succ
    simp only [spec_l20Rd_pick.j0, if_true]
    exact Ev.now _
  · simp only [hn, if_false]
    by_cases hl : (l.length : Int) = 0
    · refine ⟨0, ?_, by omega, fun _ => rfl, fun _ => by omega⟩
      apply Ev.succ
      simp only [spec_l20Rd_pick.j0, hl, beq_self_eq_true, if_true]
      exact Ev.now _
    · have hb : ((l.length : Int) == 0) = false := by simpa using hl
      have hlen := h.1
      have hpos : (0 : Int) < l.length := by omega
      have e1 : p + 1 - 1 = p := by omega
      have n0 : ¬ n = 0 := by omega
      by_cases hlt : p < (l.length : Int)
      · have r1 := rd_code h p
        have t1 := tmod_range (rd l p) n r1.1 (by omega)
        refine ⟨Int.tmod (rd l p) n, ?_, t1.1, fun h => h.elim, fun _ => t1.2⟩
        apply Ev.succ
        simp only [spec_l20Rd_pick.j0, hb, Bool.false_eq_true, if_false, e1, wrap64_id (x := p) (by omega) (by omega), hlt, if_true, hp, n0, wrap64_id (x := rd l p) (by omega) (by omega)]
        exact Ev.now _
      · have m1 := tmod_range p (l.length : Int) hp hpos
        have m2 := tmod_range (p * 7 + 3) (l.length : Int) (by omega) hpos
        have r1 := rd_code h (Int.tmod p (l.length : Int))
        have r2 := rd_code h (Int.tmod (p * 7 + 3) (l.length : Int))
        have d1 : 0 ≤ Int.tdiv p (l.length : Int) := Int.tdiv_nonneg hp (by omega)
        have d2 : Int.tdiv p (l.length : Int) ≤ p := by
          rw [Int.tdiv_eq_ediv_of_nonneg hp]
          exact Int.ediv_le_self _ hp
        generalize hX : rd l (Int.tmod p (l.length : Int)) * 131 + rd l (Int.tmod (p * 7 + 3) (l.length : Int)) * 1117 + p * 29 + Int.tdiv p (l.length : Int) * 53 = X
        have x0 : 0 ≤ X ∧ X < 1099511627776 := by omega
        have d3 : 0 ≤ Int.tdiv X 64 := Int.tdiv_nonneg x0.1 (by omega)
        have d4 : Int.tdiv X 64 ≤ X := by
          rw [Int.tdiv_eq_ediv_of_nonneg x0.1]
          exact Int.ediv_le_self _ x0.1
        have xr := xor_nonneg X (Int.tdiv X 64) x0.1 (by omega) d3 (by omega)
        have t1 := tmod_range (Go.bits .xor .i64 X (Int.tdiv X 64)) n xr.1 (by omega)
        refine ⟨Int.tmod (Go.bits .xor .i64 X (Int.tdiv X 64)) n, ?_, t1.1, fun h => h.elim, fun _ => t1.2⟩
        apply Ev.succ
        simp only [spec_l20Rd_pick.j0, hb, Bool.false_eq_true, if_false, e1, wrap64_id (x := p) (by omega) (by omega), hlt, hl, wrap64_id (x := p * 7) (by omega) (by omega), wrap64_id (x := p * 7 + 3) (by omega) (by omega), m1.1, m1.2, m2.1, m2.2, if_true, n0,
          wrap64_id (x := rd l (Int.tmod p (l.length : Int))) (by omega) (by omega), wrap64_id (x := rd l (Int.tmod (p * 7 + 3) (l.length : Int))) (by omega) (by omega),
          wrap64_id (x := rd l (Int.tmod p (l.length : Int)) * 131) (by omega) (by omega), wrap64_id (x := rd l (Int.tmod (p * 7 + 3) (l.length : Int)) * 1117) (by omega) (by omega),
          wrap64_id (x := rd l (Int.tmod p (l.length : Int)) * 131 + rd l (Int.tmod (p * 7 + 3) (l.length : Int)) * 1117) (by omega) (by omega), wrap64_id (x := p * 29) (by omega) (by omega),
          wrap64_id (x := rd l (Int.tmod p (l.length : Int)) * 131 + rd l (Int.tmod (p * 7 + 3) (l.length : Int)) * 1117 + p * 29) (by omega) (by omega), wrap64_id (x := Int.tdiv p (l.length : Int)) (by omega) (by omega), wrap64_id (x := Int.tdiv p (l.length : Int) * 53) (by omega) (by omega), hX, wrap64_id (x := X) (by omega) (by omega), wrap64_id (x := Int.tdiv X 64) (by omega) (by omega)]
        exact Ev.now _
theorem odd_ev {l : List Int} (h : Code l) (p n : Int) (hp : 0 ≤ p) (hp' : p < 1073741824) :
    ∃ b q, Ev (fun k => spec_l20Rd_odd.f k l p n) (b, q) ∧ p ≤ q ∧ q ≤ p + 1 ∧ (n ≤ 0 → b = false) := by
  simp only [spec_l20Rd_odd.f]
  by_cases hn : n > 0
  · obtain ⟨r, hr, _⟩ := pick_ev h p n hp hp'
    refine ⟨r == wrap64 (n - 1), p + 1, ?_, by omega, by omega, fun h => absurd hn (by omega)⟩
    simp only [hn, if_true]
    exact Ev.bind hr (Ev.now _)
  · refine ⟨false, p, ?_, by omega, by omega, fun _ => rfl⟩
    simp only [hn, if_false]
    exact Ev.now _
theorem open_ev (l : List Int) (hw : ∀ x ∈ l, (Lit.int .u8 x).wf = true) : ∃ m, spec_l20Open.f l = some (m, 0) ∧ Code m := by
  have hb : ∀ x ∈ l, 0 ≤ x ∧ x ≤ 255 := fun x hx => by
    have := hw x hx
    simp [Lit.wf, IntKind.min, IntKind.max, IntKind.bits, IntKind.signed] at this
    omega
  unfold spec_l20Open.f
  by_cases h : (l.length : Int) > 2000
  · refine ⟨l.take 2000, by simp only [h, if_true, show (2000 : Int) ≤ l.length from by omega], ?_, ?_⟩
    · simp only [List.length_take]
      omega
    · exact fun x hx => hb x (List.mem_of_mem_take hx)
  · exact ⟨l, by simp only [h, if_false], by omega, hb⟩
end Go.Proofs.YtjdlepjgniokdaaGreatDoor.Pure

end
section

namespace Go.Proofs.YtjdlepjgniokdaaGreatDoor.Pure
open Go.RowKit Go.Proofs.YtjdlepjgniokdaaGreatDoor.PA Go.Proofs.YtjdlepjgniokdaaGreatDoorW.PrintWords Go.Proofs.YtjdlepjgniokdaaGreatDoor.Base
set_option linter.unusedVariables false
set_option linter.unusedSimpArgs false
def okByte (b : UInt8) : Bool := b == 10 || (32 ≤ b && b ≤ 126)
def textOk (s : ByteArray) : Bool := (bs s).all okByte && decide (s.size ≤ 20000)
theorem in_spec (a b c : Int) : spec_l1In.f a b c = some (decide (b ≤ a ∧ a ≤ c)) := by
  unfold spec_l1In.f
  by_cases h : b ≤ a <;> simp [h]
theorem in_impl (a b c : Int) : impl_in.f a b c = some (decide (b ≤ a ∧ a ≤ c)) := by
  unfold impl_in.f
  by_cases h : b ≤ a <;> simp [h]
theorem okByte_iff (b : UInt8) : okByte b = (decide ((b.toNat : Int) = 10) || decide (32 ≤ (b.toNat : Int) ∧ (b.toNat : Int) ≤ 126)) := by
  have h1 : (b == 10) = decide ((b.toNat : Int) = 10) := by
    rw [Bool.eq_iff_iff]
    simp only [beq_iff_eq, decide_eq_true_eq]
    constructor
    · rintro rfl; rfl
    · intro h; apply UInt8.toNat_inj.1; have : b.toNat = 10 := by omega
      rw [this]; rfl
  have h2 : (32 ≤ b && b ≤ 126 : Bool) = decide (32 ≤ (b.toNat : Int) ∧ (b.toNat : Int) ≤ 126) := by
    rw [Bool.eq_iff_iff]
    simp [UInt8.le_iff_toNat_le]
    omega
  unfold okByte
  rw [h1, h2]
theorem drop_cons {l : List UInt8} {i : Nat} (h : i < l.length) : l.drop i = l[i] :: l.drop (i + 1) := List.drop_eq_getElem_cons h
theorem tv_spec_from (s : ByteArray) (hs : s.size ≤ 140737488351232) (d : Nat) : ∀ i : Nat, i + d = s.size → Ev (fun k => spec_TextValid.l0 k s i) (((bs s).drop i).all okByte && decide (s.size ≤ 20000)) := by
  induction d with
  | zero =>
    intro i hi
    apply Ev.succ
    simp only [spec_TextValid.l0]
    simp only [show ¬ ((i : Int) < (s.size : Int)) from by omega, if_false]
    apply Ev.some
    rw [List.drop_of_length_le (by rw [bs_length]; omega)]
    have : ((s.size : Int) ≤ 20000) ↔ s.size ≤ 20000 := by omega
    simp [this]
  | succ d ih =>
    intro i hi
    apply Ev.succ
    simp only [spec_TextValid.l0]
    have hb := bt_get s i (by omega)
    have hlt : i < (bs s).length := by rw [bs_length]; omega
    rw [drop_cons hlt, List.all_cons, okByte_iff]
    rw [wrap64_id (x := (i : Int) + 1) (by omega) (by omega)]
    have hr := bt_range s i
    simp only [show ((i : Int) < (s.size : Int)) from by omega, show (0 : Int) ≤ i from by omega, if_true, ← hb, in_spec]
    rw [wrap64_id (x := bt s i) (by omega) (by omega)]
    have ih' := ih (i + 1) (by omega)
    by_cases h10 : bt s i = 10
    · simp only [h10, if_true]
      simpa using ih'
    · simp only [h10, if_false, Option.bind_some]
      by_cases hr' : 32 ≤ bt s i ∧ bt s i ≤ 126
      · simp only [hr', and_self, decide_true, if_true]
        simpa using ih'
      · simp only [hr', decide_false, Bool.false_eq_true, if_false]
        apply Ev.some
        simp
theorem tv_impl_eq : ∀ k s i, impl_TextValid.l0 k s i = spec_TextValid.l0 k s i
  | 0, _, _ => rfl
  | k + 1, s, i => by
    simp only [impl_TextValid.l0, spec_TextValid.l0, in_impl, in_spec, tv_impl_eq k]
theorem tv_spec (s : ByteArray) (hs : s.size ≤ 140737488351232) : Ev (fun k => spec_TextValid.f k s) (textOk s) := by
  have := tv_spec_from s hs s.size 0 (by omega)
  simpa [textOk, spec_TextValid.f] using this
theorem tv_impl (s : ByteArray) (hs : s.size ≤ 140737488351232) : Ev (fun k => impl_TextValid.f k s) (textOk s) := by
  refine Ev.congr (fun k => ?_) (tv_spec s hs)
  simp only [impl_TextValid.f, spec_TextValid.f, tv_impl_eq]
end Go.Proofs.YtjdlepjgniokdaaGreatDoor.Pure

end
section

namespace Go.Proofs.YtjdlepjgniokdaaGreatDoor.Pure
open Go.RowKit Go.Proofs.YtjdlepjgniokdaaGreatDoor.PA Go.Proofs.YtjdlepjgniokdaaGreatDoorW.PrintWords Go.Proofs.YtjdlepjgniokdaaGreatDoorW.PrintMore Go.Proofs.YtjdlepjgniokdaaGreatDoor.Base
set_option linter.unusedVariables false
set_option linter.unusedSimpArgs false
theorem gcd_step (a b : Int) : Int.gcd b (Int.tmod a b) = Int.gcd a b := by
  unfold Int.gcd
  rw [Int.natAbs_tmod, Nat.gcd_comm b.natAbs, ← Nat.gcd_rec, Nat.gcd_comm]
theorem tmod_abs (a b : Int) (h : b ≠ 0) : (Int.tmod a b).natAbs < b.natAbs := by
  rw [Int.natAbs_tmod]
  exact Nat.mod_lt _ (by omega)
theorem mx_abs (a : Int) (h : a.natAbs < 4611686018427387904) : mx a (wrap64 (-a)) = (a.natAbs : Int) := by
  rw [wrap64_id (by omega) (by omega)]
  unfold mx
  split <;> omega
theorem gcd_spec : ∀ (n : Nat) (a b : Int), b.natAbs < n → a.natAbs < 4611686018427387904 → b.natAbs < 4611686018427387904 → Ev (fun k => spec_l2Gcd.l0 k a b) (Int.gcd a b : Int)
  | 0, _, _, h, _, _ => by omega
  | n + 1, a, b, h, ha, hb => by
    apply Ev.succ
    simp only [spec_l2Gcd.l0]
    by_cases h0 : b = 0
    · subst h0
      simp only [if_true, mx_abs a ha]
      exact Ev.some (by simp)
    · simp only [h0, if_false]
      have := tmod_abs a b h0
      have ih := gcd_spec n b (Int.tmod a b) (by omega) (by omega) (by omega)
      rwa [gcd_step] at ih
theorem gcd_impl : ∀ (n : Nat) (a b : Int), b.natAbs < n → 0 ≤ a → 0 ≤ b → Ev (fun k => impl_divisor.l0 k a b) (Int.gcd a b : Int)
  | 0, _, _, h, _, _ => by omega
  | n + 1, a, b, h, ha, hb => by
    apply Ev.succ
    simp only [impl_divisor.l0]
    by_cases h0 : b = 0
    · subst h0
      simp only [if_true]
      exact Ev.some (by simp; omega)
    · simp only [h0, if_false]
      have := tmod_abs a b h0
      have ih := gcd_impl n b (Int.tmod a b) (by omega) hb (Int.tmod_nonneg _ ha)
      rwa [gcd_step] at ih
def fracOk (a b : Int) : Bool := decide (-1000000000 ≤ a ∧ a ≤ 1000000000) && (decide (1 ≤ b ∧ b ≤ 1000000) && decide (Int.gcd a b = 1))
theorem dec_one (n : Nat) : ((n : Int) == 1) = decide (n = 1) := by
  rw [Bool.eq_iff_iff]; simp; omega
theorem fv_spec (a b : Int) : Ev (fun k => spec_FractionValid.f k a b) (fracOk a b) := by
  simp only [spec_FractionValid.f, in_spec, fracOk, Option.bind_some]
  by_cases h1 : -1000000000 ≤ a ∧ a ≤ 1000000000
  · by_cases h2 : 1 ≤ b ∧ b ≤ 1000000
    · simp only [h1, h2, and_self, decide_true, if_true, Bool.true_and]
      exact Ev.bind (gcd_spec _ a b (Nat.lt_succ_self _) (by omega) (by omega)) (Ev.some (dec_one _))
    · simp only [h1, h2, and_self, decide_true, if_true, Bool.true_and, decide_false, Bool.false_eq_true, if_false]
      exact Ev.some (by simp)
  · simp only [h1, decide_false, Bool.false_eq_true, if_false]
    exact Ev.some (by simp)
theorem fv_impl (a b : Int) : Ev (fun k => impl_FractionValid.f k a b) (fracOk a b) := by
  simp only [impl_FractionValid.f, in_impl, fracOk, Option.bind_some]
  by_cases h1 : -1000000000 ≤ a ∧ a ≤ 1000000000
  · by_cases h2 : 1 ≤ b ∧ b ≤ 1000000
    · simp only [h1, h2, and_self, decide_true, if_true, Bool.true_and, mx_abs a (by omega), impl_divisor.f]
      refine Ev.bind (gcd_impl _ (a.natAbs : Int) b (Nat.lt_succ_self _) (by omega) (by omega)) (Ev.some ?_)
      rw [dec_one]
      exact decide_eq_decide.2 (by simp [Int.gcd])
    · simp only [h1, h2, and_self, decide_true, if_true, Bool.true_and, decide_false, Bool.false_eq_true, if_false]
      exact Ev.some (by simp)
  · simp only [h1, decide_false, Bool.false_eq_true, if_false]
    exact Ev.some (by simp)
def makeP (a b : Int) : Int × Int × Bool :=
  if fracOk (a.tdiv (Int.gcd a b)) (b.tdiv (Int.gcd a b)) = true then (a.tdiv (Int.gcd a b), b.tdiv (Int.gcd a b), true) else (0, 0, false)
theorem tdiv_abs (a b : Int) : (a.tdiv b).natAbs ≤ a.natAbs := by
  rw [Int.natAbs_tdiv]
  exact Nat.div_le_self _ _
theorem make_spec (a b : Int) (ha : a.natAbs < 4611686018427387904) (hb : 1 ≤ b) (hb' : b < 4611686018427387904) : Ev (fun k => spec_l2Make.f k a b) (makeP a b) := by
  simp only [spec_l2Make.f, spec_l2Gcd.f]
  refine Ev.bind (gcd_spec _ a b (Nat.lt_succ_self _) ha (by omega)) ?_
  have hg : 0 < Int.gcd a b := Int.gcd_pos_of_ne_zero_right _ (by omega)
  have h1 := tdiv_abs a (Int.gcd a b)
  have h2 := tdiv_abs b (Int.gcd a b)
  simp only [show ¬ ((Int.gcd a b : Int) = 0) from by omega, if_false]
  rw [wrap64_id (x := a.tdiv _) (by omega) (by omega), wrap64_id (x := b.tdiv _) (by omega) (by omega)]
  refine Ev.bind (fv_spec _ _) ?_
  unfold makeP
  split
  · exact Ev.some (by simp_all)
  · exact Ev.some (by simp_all)
theorem make_impl (a b : Int) (h0 : 0 ≤ a) (ha : a < 4611686018427387904) (hb : 1 ≤ b) (hb' : b < 4611686018427387904) : Ev (fun k => impl_reduced.f k a b) (makeP a b) := by
  simp only [impl_reduced.f, show ¬ (b < 0) from by omega, if_false]
  apply Ev.succ
  simp only [impl_reduced.j0, impl_divisor.f]
  rw [mx_abs a (by omega), show (a.natAbs : Int) = a from by omega]
  refine Ev.bind (gcd_impl _ a b (Nat.lt_succ_self _) h0 (by omega)) ?_
  have hg : 0 < Int.gcd a b := Int.gcd_pos_of_ne_zero_right _ (by omega)
  have h1 := tdiv_abs a (Int.gcd a b)
  have h2 := tdiv_abs b (Int.gcd a b)
  simp only [show ¬ ((Int.gcd a b : Int) = 0) from by omega, if_false]
  rw [wrap64_id (x := a.tdiv _) (by omega) (by omega), wrap64_id (x := b.tdiv _) (by omega) (by omega)]
  refine Ev.bind (fv_impl _ _) ?_
  unfold makeP
  split
  · exact Ev.some (by simp_all)
  · exact Ev.some (by simp_all)
open Go.Lib in
theorem dec_last (n : Nat) : decDigits n = (decDigits n).dropLast ++ [UInt8.ofNat (48 + n % 10)] := by
  rw [decDigits]
  split
  · rename_i h
    simp [Nat.mod_eq_of_lt h]
  · simp
theorem bs_num (x : Int) (h : 0 ≤ x) (h' : x < 10) : bs (strOfNums ([(wrap64 (48 + x)) % 256] : List Int)) = [UInt8.ofNat (48 + x.toNat)] := by
  rw [wrap64_id (by omega) (by omega), show (48 + x) % 256 = 48 + x from by omega]
  have : (48 + x).toNat = 48 + x.toNat := by omega
  simp [strOfNums, bs, this]
open Go.Lib in
theorem num_spec (n : Nat) : ∀ m : Nat, m < n → m < 4611686018427387904 → ∀ acc : ByteArray, acc.size + m ≤ 9223372036854775807 → Ev (fun k => spec_l2Number.l0 k m acc) ⟨((decDigits m).dropLast ++ bs acc).toArray⟩ := by
  induction n with
  | zero => intro m h; omega
  | succ n ih =>
    intro m h h2 acc hs
    apply Ev.succ
    simp only [spec_l2Number.l0]
    by_cases h9 : (m : Int) > 9
    · have e1 : Int.tdiv (m : Int) 10 = ((m / 10 : Nat) : Int) := by rw [Int.tdiv_eq_ediv_of_nonneg (by omega)]; omega
      have e2 : Int.tmod ((m / 10 : Nat) : Int) 10 = ((m / 10 % 10 : Nat) : Int) := by rw [Int.tmod_eq_emod_of_nonneg (by omega)]; omega
      have e3 := bs_num ((m / 10 % 10 : Nat) : Int) (by omega) (by omega)
      have e4 : (strOfNums ([(wrap64 (48 + ((m / 10 % 10 : Nat) : Int))) % 256] : List Int)).size = 1 := by
        rw [← bs_length, e3]; rfl
      simp only [h9, if_true, Option.bind_some, e1]
      rw [wrap64_id (x := ((m / 10 : Nat) : Int)) (by omega) (by omega), e2, e4]
      simp only [show 1 + acc.size ≤ 9223372036854775807 from by omega, if_true]
      have := ih (m / 10) (by omega) (by omega) (strOfNums ([(wrap64 (48 + ((m / 10 % 10 : Nat) : Int))) % 256] : List Int) ++ acc) (by rw [ByteArray.size_append, e4]; omega)
      rw [bs_append, e3, ← List.append_assoc] at this
      have h3 : (((m / 10 % 10 : Nat) : Int)).toNat = m / 10 % 10 := by omega
      rw [h3, ← dec_last (m / 10)] at this
      have e5 : (decDigits m).dropLast = decDigits (m / 10) := by
        rw [decDigits, dif_neg (by omega)]; simp
      rw [e5]
      exact this
    · simp only [h9, if_false]
      apply Ev.some
      apply bs_inj
      rw [bs_mk, decDigits, dif_pos (by omega)]
      simp
      rfl
theorem number (m : Nat) (h : m < 4611686018427387904) : Ev (fun k => spec_l2Number.f k m) ⟨(Go.Lib.itoa m).toArray⟩ := by
  simp only [spec_l2Number.f]
  have e2 : Int.tmod (m : Int) 10 = ((m % 10 : Nat) : Int) := by rw [Int.tmod_eq_emod_of_nonneg (by omega)]; omega
  have e3 := bs_num ((m % 10 : Nat) : Int) (by omega) (by omega)
  have h3 : (((m % 10 : Nat) : Int)).toNat = m % 10 := by omega
  rw [e2]
  have := num_spec _ m (Nat.lt_succ_self _) h (strOfNums ([(wrap64 (48 + ((m % 10 : Nat) : Int))) % 256] : List Int)) (by rw [← bs_length, e3]; simp; omega)
  rw [e3, h3, ← dec_last] at this
  have hi : Go.Lib.itoa (m : Int) = Go.Lib.decDigits m := by
    unfold Go.Lib.itoa
    rw [if_neg (by omega)]
    simp
  rw [hi]
  exact this
theorem itoa_at (m : Nat) (h : m < 4611686018427387904) : strconv_Itoa.f m = some ⟨(Go.Lib.itoa m).toArray⟩ := by
  unfold strconv_Itoa.f
  rw [if_pos (by omega)]
end Go.Proofs.YtjdlepjgniokdaaGreatDoor.Pure

end
section

namespace Go.Proofs.YtjdlepjgniokdaaGreatDoor.Pure
open Go.RowKit Go.Proofs.YtjdlepjgniokdaaGreatDoor.PA Go.Proofs.YtjdlepjgniokdaaGreatDoorW.PrintWords Go.Proofs.YtjdlepjgniokdaaGreatDoorW.PrintMore Go.Proofs.YtjdlepjgniokdaaGreatDoor.Base
set_option linter.unusedVariables false
set_option linter.unusedSimpArgs false
def itoaB (n : Nat) : ByteArray := ⟨(Go.Lib.itoa n).toArray⟩
theorem itoaB_size (n : Nat) (h : n < 4611686018427387904) : (itoaB n).size ≤ 21 := by
  have := Go.Lib.itoa_length_le (n : Int) (by omega) (by omega)
  rw [← bs_length, itoaB, bs_mk]
  exact this
def tailT : Nat → ByteArray → Nat → Nat → ByteArray
  | 0, acc, _, _ => acc
  | d + 1, acc, x, b => if 0 < x then tailT d (acc ++ itoaB (10 * x / b)) (10 * x % b) b else acc
def bodyT (s : ByteArray) (n b : Nat) : ByteArray :=
  if 1000000 % b = 0 then (if 0 < n % b then tailT 6 ((s ++ itoaB (n / b)) ++ ⟨#[46]⟩) (n % b) b else s ++ itoaB (n / b)) else ((s ++ itoaB n) ++ ⟨#[47]⟩) ++ itoaB b
def fracText (a b : Int) : ByteArray :=
  if fracOk a b = true then bodyT (if a < 0 then ⟨#[45]⟩ else ⟨#[]⟩) a.natAbs b.toNat else ⟨#[]⟩
theorem tail_dvd (b x d : Nat) (h : b ∣ x * 10 ^ (d + 1)) : b ∣ (10 * x % b) * 10 ^ d := by
  have e : x * 10 ^ (d + 1) = b * (10 * x / b * 10 ^ d) + (10 * x % b) * 10 ^ d := by
    rw [Nat.pow_succ, ← Nat.mul_assoc, Nat.mul_comm (x * 10 ^ d) 10, ← Nat.mul_assoc, ← Nat.mul_assoc, ← Nat.add_mul, Nat.div_add_mod]
  rw [e] at h
  exact (Nat.dvd_add_right (Nat.dvd_mul_right _ _)).1 h
theorem tail_spec (a : Int) (b : Nat) (hb : 1 ≤ b) (hb' : b ≤ 1000000) : ∀ (d : Nat) (acc : ByteArray) (x : Nat), x < b → b ∣ x * 10 ^ d → acc.size + 30 * d ≤ 4611686018427387904 → Ev (fun k => spec_FractionText.l0 k acc x a b) (tailT d acc x b)
  | 0, acc, x, hx, hd, hs => by
    have h0 : x = 0 := Nat.eq_zero_of_dvd_of_lt (by simpa using hd) hx
    subst h0
    apply Ev.succ
    simp only [spec_FractionText.l0]
    exact Ev.some rfl
  | d + 1, acc, x, hx, hd, hs => by
    apply Ev.succ
    simp only [spec_FractionText.l0, tailT]
    by_cases h : 0 < x
    · have e : wrap64 (10 * (x : Int)) = ((10 * x : Nat) : Int) := by rw [wrap64_id (by omega) (by omega)]; omega
      simp only [show ((x : Int) > 0) from by omega, h, if_true, show ¬ ((b : Int) = 0) from by omega, if_false, e, ← Int.ofNat_tdiv, ← Int.ofNat_tmod]
      have hq : 10 * x / b ≤ 10 * x := Nat.div_le_self _ _
      have hq0 : (0 : Int) ≤ ((10 * x / b : Nat) : Int) := Int.natCast_nonneg _
      rw [wrap64_id (by omega) (by omega)]
      refine Ev.bind (number (10 * x / b) (by omega)) ?_
      have h1 := itoaB_size (10 * x / b) (by omega)
      have h2 : 10 * x % b < b := Nat.mod_lt _ (by omega)
      have ih := tail_spec a b hb hb' d (acc ++ itoaB (10 * x / b)) (10 * x % b) h2 (tail_dvd b x d hd) (by rw [ByteArray.size_append]; omega)
      refine Ev.congr (fun k => ?_) ih
      exact (if_pos (show acc.size + (itoaB (10 * x / b)).size ≤ 9223372036854775807 by omega))
    · simp only [show ¬ ((x : Int) > 0) from by omega, h, if_false]
      exact Ev.some rfl
theorem body_spec (s : ByteArray) (hs : s.size ≤ 1) (n : Nat) (hn : n ≤ 1000000000) (a : Int) (b : Nat) (hb : 1 ≤ b) (hb' : b ≤ 1000000) : Ev (fun k => spec_FractionText.j0 k s n a b) (bodyT s n b) := by
  apply Ev.succ
  have e : ((1000000 : Int) % (b : Int) = 0) = (1000000 % b = 0) := by
    have : (1000000 : Int) % (b : Int) = ((1000000 % b : Nat) : Int) := (Int.natCast_emod 1000000 b).symm
    rw [this]
    exact propext (by omega)
  have hq : n / b ≤ n := Nat.div_le_self _ _
  have hq0 : (0 : Int) ≤ ((n / b : Nat) : Int) := Int.natCast_nonneg _
  have h1 := itoaB_size (n / b) (by omega)
  have h2 : n % b < b := Nat.mod_lt _ (by omega)
  have h3 := itoaB_size n (by omega)
  have h4 := itoaB_size b (by omega)
  have h5 : (s ++ itoaB (n / b)).size ≤ 22 := by rw [ByteArray.size_append]; omega
  simp only [spec_FractionText.j0, bodyT, show ¬ ((b : Int) = 0) from by omega, if_false, e, ← Int.ofNat_tdiv, ← Int.ofNat_tmod]
  by_cases h : 1000000 % b = 0
  · simp only [h, if_true]
    rw [wrap64_id (by omega) (by omega)]
    refine Ev.bind (number (n / b) (by omega)) ?_
    simp only [show s.size + (⟨(Go.Lib.itoa (n / b : Nat)).toArray⟩ : ByteArray).size ≤ 9223372036854775807 from by have := h1; unfold itoaB at this; omega, if_true]
    by_cases h0 : 0 < n % b
    · simp only [show (((n % b : Nat) : Int) > 0) from by omega, h0, if_true, show s.size + (⟨(Go.Lib.itoa (n / b : Nat)).toArray⟩ : ByteArray).size + 1 ≤ 9223372036854775807 from by have := h1; unfold itoaB at this; omega]
      apply Ev.succ
      simp only [spec_FractionText.j1]
      refine tail_spec a b hb hb' 6 _ (n % b) h2 ?_ ?_
      · exact Nat.dvd_trans (Nat.dvd_of_mod_eq_zero h) (Nat.dvd_mul_left _ _)
      · rw [ByteArray.size_append]
        have h6 : (⟨#[46]⟩ : ByteArray).size = 1 := rfl
        have h7 : (s ++ (⟨(Go.Lib.itoa (n / b : Nat)).toArray⟩ : ByteArray)).size ≤ 22 := h5
        omega
    · simp only [show ¬ (((n % b : Nat) : Int) > 0) from by omega, h0, if_false]
      apply Ev.succ
      simp only [spec_FractionText.j1]
      have hz : n % b = 0 := by omega
      rw [hz]
      exact tail_spec a b hb hb' 0 _ 0 (by omega) (by simp) (by have h7 : (s ++ (⟨(Go.Lib.itoa (n / b : Nat)).toArray⟩ : ByteArray)).size ≤ 22 := h5; omega)
  · simp only [h, if_false]
    refine Ev.bind (number n (by omega)) ?_
    have h7 : (⟨(Go.Lib.itoa (n : Nat)).toArray⟩ : ByteArray).size ≤ 21 := h3
    have h8 : (⟨(Go.Lib.itoa (b : Nat)).toArray⟩ : ByteArray).size ≤ 21 := h4
    simp only [show s.size + (⟨(Go.Lib.itoa (n : Nat)).toArray⟩ : ByteArray).size ≤ 9223372036854775807 from by omega, show s.size + (⟨(Go.Lib.itoa (n : Nat)).toArray⟩ : ByteArray).size + 1 ≤ 9223372036854775807 from by omega, if_true]
    refine Ev.bind (number b (by omega)) ?_
    simp only [show s.size + (⟨(Go.Lib.itoa (n : Nat)).toArray⟩ : ByteArray).size + 1 + (⟨(Go.Lib.itoa (b : Nat)).toArray⟩ : ByteArray).size ≤ 9223372036854775807 from by omega, if_true]
    exact Ev.some rfl
theorem text_spec (a b : Int) : Ev (fun k => spec_FractionText.f k a b) (fracText a b) := by
  simp only [spec_FractionText.f]
  refine Ev.bind (fv_spec a b) ?_
  unfold fracText
  by_cases h : fracOk a b = true
  · simp only [h, if_true]
    have h' := h
    simp only [fracOk, Bool.and_eq_true, decide_eq_true_eq] at h'
    obtain ⟨h1, h2, _⟩ := h'
    obtain ⟨n, rfl⟩ : ∃ n : Nat, b = n := ⟨b.toNat, by omega⟩
    have e : (n : Int).toNat = n := by omega
    rw [e]
    by_cases h0 : a < 0
    · simp only [h0, if_true]
      rw [wrap64_id (by omega) (by omega), show (-a) = ((a.natAbs : Nat) : Int) from by omega]
      exact body_spec _ (by decide) _ (by omega) a n (by omega) (by omega)
    · simp only [h0, if_false]
      have := body_spec (⟨#[]⟩ : ByteArray) (by decide) a.natAbs (by omega) a n (by omega) (by omega)
      rw [show ((a.natAbs : Nat) : Int) = a from by omega] at this
      exact this
  · simp only [h, if_false]
    exact Ev.some rfl
theorem tail_impl (a : Int) (b : Nat) (hb : 1 ≤ b) (hb' : b ≤ 1000000) : ∀ (d : Nat) (acc : ByteArray) (x : Nat), x < b → b ∣ x * 10 ^ d → acc.size + 30 * d ≤ 4611686018427387904 → Ev (fun k => impl_FractionText.l0 k acc x a b) (tailT d acc x b)
  | 0, acc, x, hx, hd, hs => by
    have h0 : x = 0 := Nat.eq_zero_of_dvd_of_lt (by simpa using hd) hx
    subst h0
    apply Ev.succ
    simp only [impl_FractionText.l0]
    exact Ev.some rfl
  | d + 1, acc, x, hx, hd, hs => by
    apply Ev.succ
    simp only [impl_FractionText.l0, tailT]
    by_cases h : 0 < x
    · have e : wrap64 ((x : Int) * 10) = ((10 * x : Nat) : Int) := by rw [wrap64_id (by omega) (by omega)]; omega
      simp only [show ((x : Int) > 0) from by omega, h, if_true, show ¬ ((b : Int) = 0) from by omega, if_false, e, ← Int.ofNat_tdiv, ← Int.ofNat_tmod]
      have hq : 10 * x / b ≤ 10 * x := Nat.div_le_self _ _
      have hq0 : (0 : Int) ≤ ((10 * x / b : Nat) : Int) := Int.natCast_nonneg _
      rw [wrap64_id (by omega) (by omega)]
      refine Ev.bind0 (itoa_at (10 * x / b) (by omega)) ?_
      have h1 := itoaB_size (10 * x / b) (by omega)
      have h2 : 10 * x % b < b := Nat.mod_lt _ (by omega)
      have ih := tail_impl a b hb hb' d (acc ++ itoaB (10 * x / b)) (10 * x % b) h2 (tail_dvd b x d hd) (by rw [ByteArray.size_append]; omega)
      refine Ev.congr (fun k => ?_) ih
      exact (if_pos (show acc.size + (itoaB (10 * x / b)).size ≤ 9223372036854775807 by omega))
    · simp only [show ¬ ((x : Int) > 0) from by omega, h, if_false]
      exact Ev.some rfl
theorem body_impl (s : ByteArray) (hs : s.size ≤ 1) (n : Nat) (hn : n ≤ 1000000000) (a : Int) (b : Nat) (hb : 1 ≤ b) (hb' : b ≤ 1000000) : Ev (fun k => impl_FractionText.j0 k s n a b) (bodyT s n b) := by
  apply Ev.succ
  have e : ((1000000 : Int) % (b : Int) = 0) = (1000000 % b = 0) := by
    have : (1000000 : Int) % (b : Int) = ((1000000 % b : Nat) : Int) := (Int.natCast_emod 1000000 b).symm
    rw [this]
    exact propext (by omega)
  have hq : n / b ≤ n := Nat.div_le_self _ _
  have hq0 : (0 : Int) ≤ ((n / b : Nat) : Int) := Int.natCast_nonneg _
  have h1 := itoaB_size (n / b) (by omega)
  have h2 : n % b < b := Nat.mod_lt _ (by omega)
  have h3 := itoaB_size n (by omega)
  have h4 := itoaB_size b (by omega)
  have h5 : (s ++ itoaB (n / b)).size ≤ 22 := by rw [ByteArray.size_append]; omega
  simp only [impl_FractionText.j0, bodyT, show ¬ ((b : Int) = 0) from by omega, if_false, e, ← Int.ofNat_tdiv, ← Int.ofNat_tmod]
  by_cases h : 1000000 % b = 0
  · simp only [h, if_true]
    rw [wrap64_id (by omega) (by omega)]
    refine Ev.bind0 (itoa_at (n / b) (by omega)) ?_
    simp only [show s.size + (⟨(Go.Lib.itoa (n / b : Nat)).toArray⟩ : ByteArray).size ≤ 9223372036854775807 from by have := h1; unfold itoaB at this; omega, if_true]
    by_cases h0 : 0 < n % b
    · simp only [show (((n % b : Nat) : Int) > 0) from by omega, h0, if_true, show s.size + (⟨(Go.Lib.itoa (n / b : Nat)).toArray⟩ : ByteArray).size + 1 ≤ 9223372036854775807 from by have := h1; unfold itoaB at this; omega]
      apply Ev.succ
      simp only [impl_FractionText.j1]
      refine tail_impl a b hb hb' 6 _ (n % b) h2 ?_ ?_
      · exact Nat.dvd_trans (Nat.dvd_of_mod_eq_zero h) (Nat.dvd_mul_left _ _)
      · rw [ByteArray.size_append]
        have h6 : (⟨#[46]⟩ : ByteArray).size = 1 := rfl
        have h7 : (s ++ (⟨(Go.Lib.itoa (n / b : Nat)).toArray⟩ : ByteArray)).size ≤ 22 := h5
        omega
    · simp only [show ¬ (((n % b : Nat) : Int) > 0) from by omega, h0, if_false]
      apply Ev.succ
      simp only [impl_FractionText.j1]
      have hz : n % b = 0 := by omega
      rw [hz]
      exact tail_impl a b hb hb' 0 _ 0 (by omega) (by simp) (by have h7 : (s ++ (⟨(Go.Lib.itoa (n / b : Nat)).toArray⟩ : ByteArray)).size ≤ 22 := h5; omega)
  · simp only [h, if_false]
    refine Ev.bind0 (itoa_at n (by omega)) ?_
    have h7 : (⟨(Go.Lib.itoa (n : Nat)).toArray⟩ : ByteArray).size ≤ 21 := h3
    have h8 : (⟨(Go.Lib.itoa (b : Nat)).toArray⟩ : ByteArray).size ≤ 21 := h4
    simp only [show s.size + (⟨(Go.Lib.itoa (n : Nat)).toArray⟩ : ByteArray).size ≤ 9223372036854775807 from by omega, show s.size + (⟨(Go.Lib.itoa (n : Nat)).toArray⟩ : ByteArray).size + 1 ≤ 9223372036854775807 from by omega, if_true]
    refine Ev.bind0 (itoa_at b (by omega)) ?_
    simp only [show s.size + (⟨(Go.Lib.itoa (n : Nat)).toArray⟩ : ByteArray).size + 1 + (⟨(Go.Lib.itoa (b : Nat)).toArray⟩ : ByteArray).size ≤ 9223372036854775807 from by omega, if_true]
    exact Ev.some rfl
theorem text_impl (a b : Int) : Ev (fun k => impl_FractionText.f k a b) (fracText a b) := by
  simp only [impl_FractionText.f]
  refine Ev.bind (fv_impl a b) ?_
  unfold fracText
  by_cases h : fracOk a b = true
  · simp only [h, if_true]
    have h' := h
    simp only [fracOk, Bool.and_eq_true, decide_eq_true_eq] at h'
    obtain ⟨h1, h2, _⟩ := h'
    obtain ⟨n, rfl⟩ : ∃ n : Nat, b = n := ⟨b.toNat, by omega⟩
    have e : (n : Int).toNat = n := by omega
    rw [e]
    by_cases h0 : a < 0
    · simp only [h0, if_true]
      rw [wrap64_id (by omega) (by omega), show (-a) = ((a.natAbs : Nat) : Int) from by omega]
      exact body_impl _ (by decide) _ (by omega) a n (by omega) (by omega)
    · simp only [h0, if_false]
      have := body_impl (⟨#[]⟩ : ByteArray) (by decide) a.natAbs (by omega) a n (by omega) (by omega)
      rw [show ((a.natAbs : Nat) : Int) = a from by omega] at this
      exact this
  · simp only [h, if_false]
    exact Ev.some rfl
end Go.Proofs.YtjdlepjgniokdaaGreatDoor.Pure

end
section

namespace Go.Proofs.YtjdlepjgniokdaaGreatDoor.Pure
open Go.RowKit Go.Proofs.YtjdlepjgniokdaaGreatDoor.PA Go.Proofs.YtjdlepjgniokdaaGreatDoorW.PrintWords Go.Proofs.YtjdlepjgniokdaaGreatDoorW.PrintMore Go.Proofs.YtjdlepjgniokdaaGreatDoor.Base
set_option linter.unusedVariables false
set_option linter.unusedSimpArgs false
def isDig (b : UInt8) : Bool := 48 ≤ b && b ≤ 57
theorem isDig_iff (b : UInt8) : isDig b = decide (48 ≤ (b.toNat : Int) ∧ (b.toNat : Int) ≤ 57) := by
  unfold isDig
  rw [Bool.eq_iff_iff]
  simp [UInt8.le_iff_toNat_le]
  omega
theorem isDig_true {b : UInt8} (h : isDig b = true) : 48 ≤ b.toNat ∧ b.toNat ≤ 57 := by
  rw [isDig_iff] at h
  simp only [decide_eq_true_eq] at h
  omega
def decA (acc : Nat) (l : List UInt8) : Nat := l.foldl (fun a b => a * 10 + (b.toNat - 48)) acc
theorem decA_append (acc : Nat) (l m : List UInt8) : decA acc (l ++ m) = decA (decA acc l) m := by simp [decA, List.foldl_append]
theorem decA_shift (l : List UInt8) : ∀ acc, decA acc l = acc * 10 ^ l.length + decA 0 l := by
  induction l with
  | nil => intro acc; simp [decA]
  | cons b r ih =>
    intro acc
    have e1 : decA acc (b :: r) = decA (acc * 10 + (b.toNat - 48)) r := rfl
    have e2 : decA 0 (b :: r) = decA (0 * 10 + (b.toNat - 48)) r := rfl
    rw [e1, e2, ih, ih (0 * 10 + (b.toNat - 48)), List.length_cons, Nat.pow_succ, Nat.add_mul, Nat.zero_mul, Nat.zero_add, Nat.mul_assoc, Nat.mul_comm 10, Nat.add_assoc]
theorem decA_lt (l : List UInt8) (h : l.all isDig = true) : ∀ acc, decA acc l < (acc + 1) * 10 ^ l.length := by
  induction l with
  | nil => intro acc; simp [decA]
  | cons b r ih =>
    intro acc
    simp only [List.all_cons, Bool.and_eq_true] at h
    have hb := isDig_true h.1
    have e1 : decA acc (b :: r) = decA (acc * 10 + (b.toNat - 48)) r := rfl
    rw [e1, List.length_cons, Nat.pow_succ, Nat.mul_comm (10 ^ r.length) 10, ← Nat.mul_assoc]
    refine Nat.lt_of_lt_of_le (ih h.2 _) (Nat.mul_le_mul_right _ ?_)
    omega
theorem decA_lt0 (l : List UInt8) (h : l.all isDig = true) : decA 0 l < 10 ^ l.length := by
  have := decA_lt l h 0
  simpa using this
theorem decA_lt_of (l : List UInt8) (h : l.all isDig = true) (n : Nat) (hn : l.length ≤ n) : decA 0 l < 10 ^ n :=
  Nat.lt_of_lt_of_le (decA_lt0 l h) (Nat.pow_le_pow_right (by decide) hn)
theorem tw_mem {α : Type} (p : α → Bool) (l : List α) (x : α) (h : x ∈ l.takeWhile p) : p x = true := by
  induction l with
  | nil => simp at h
  | cons b r ih =>
    rw [List.takeWhile_cons] at h
    split at h
    · rename_i hb
      rcases List.mem_cons.1 h with rfl | h
      · exact hb
      · exact ih h
    · simp at h
def digs (m : Nat) (l : List UInt8) : List UInt8 := (l.take m).takeWhile isDig
theorem digs_all (m : Nat) (l : List UInt8) : (digs m l).all isDig = true := by
  simp only [List.all_eq_true, digs]
  intro x hx
  exact tw_mem _ _ _ hx
theorem digs_len (m : Nat) (l : List UInt8) : (digs m l).length ≤ m :=
  Nat.le_trans (List.takeWhile_sublist _).length_le (List.length_take_le _ _)
theorem digs_pre (m : Nat) (l : List UInt8) : ∃ r, l = digs m l ++ r := by
  obtain ⟨r, hr⟩ := List.takeWhile_prefix (l := l.take m) isDig
  exact ⟨r ++ l.drop m, by rw [← List.append_assoc]; unfold digs; rw [hr, List.take_append_drop]⟩
theorem digs_len' (m : Nat) (l : List UInt8) : (digs m l).length ≤ l.length := by
  obtain ⟨r, hr⟩ := digs_pre m l
  have := congrArg List.length hr
  rw [List.length_append] at this
  omega
def fore (c : UInt8) (l : List UInt8) : List UInt8 := l.takeWhile (· != c)
theorem fore_cases (c : UInt8) (l : List UInt8) : l = fore c l ∨ ∃ b, l = fore c l ++ c :: b := by
  have h := List.takeWhile_append_dropWhile (p := (· != c)) (l := l)
  rcases hd : l.dropWhile (· != c) with _ | ⟨x, b⟩
  · rw [hd, List.append_nil] at h
    exact Or.inl h.symm
  · right
    refine ⟨b, ?_⟩
    have hx : ((x :: b).head (by simp) != c) = false := by
      have := List.head_dropWhile_not (· != c) (l := l) (by rw [hd]; simp)
      simpa [hd] using this
    have hx' : x = c := by simpa using hx
    subst hx'
    rw [hd] at h
    exact h.symm
theorem fore_of (c : UInt8) (a r : List UInt8) (h : ∀ x ∈ a, x ≠ c) (hr : r = [] ∨ ∃ b, r = c :: b) : fore c (a ++ r) = a := by
  unfold fore
  rw [List.takeWhile_append_of_pos (fun x hx => by simpa using h x hx)]
  rcases hr with rfl | ⟨b, rfl⟩
  · simp
  · simp
theorem digs_of (c : UInt8) (hc : isDig c = false) (m : Nat) (l : List UInt8) (h : (fore c l).all isDig = true) (hl : (fore c l).length ≤ m) : digs m l = fore c l := by
  have key : ∀ r, (r = [] ∨ ∃ b, r = c :: b) → digs m (fore c l ++ r) = fore c l := by
    intro r hr
    unfold digs
    rw [List.take_append, List.take_of_length_le hl]
    rw [List.takeWhile_append_of_pos (fun x hx => by simpa using (List.all_eq_true.1 h) x hx)]
    rcases hr with rfl | ⟨b, rfl⟩
    · simp
    · rcases Nat.eq_zero_or_pos (m - (fore c l).length) with h0 | h0
      · simp [h0]
      · obtain ⟨n, hn⟩ : ∃ n, m - (fore c l).length = n + 1 := ⟨_, (Nat.succ_pred_eq_of_pos h0).symm⟩
        simp [hn, hc]
  rcases fore_cases c l with h' | ⟨b, h'⟩
  · have := key [] (Or.inl rfl)
    rw [List.append_nil, ← h'] at this
    rw [this]
    exact h'
  · have := key (c :: b) (Or.inr ⟨b, rfl⟩)
    rwa [← h'] at this
theorem of_digs (c : UInt8) (hc : isDig c = false) (m : Nat) (l : List UInt8) (h : (digs m l).length = l.length ∨ l[(digs m l).length]? = some c) : fore c l = digs m l := by
  obtain ⟨r, hr⟩ := digs_pre m l
  have hne : ∀ x ∈ digs m l, x ≠ c := by
    intro x hx e
    subst e
    have := (List.all_eq_true.1 (digs_all m l)) _ hx
    rw [hc] at this
    cases this
  have hr' : r = [] ∨ ∃ b, r = c :: b := by
    rcases h with h | h
    · left
      have := congrArg List.length hr
      rw [List.length_append] at this
      exact List.eq_nil_of_length_eq_zero (by omega)
    · right
      generalize hd : digs m l = d at *
      rw [hr] at h
      simp only [List.getElem?_append_right (Nat.le_refl _), Nat.sub_self] at h
      rcases r with _ | ⟨x, b⟩
      · simp at h
      · simp at h
        exact ⟨b, by rw [h]⟩
  have := fore_of c (digs m l) r hne hr'
  rwa [← hr] at this
theorem digits_from (s : ByteArray) (hs : s.size ≤ 140737488351232) (lo hi : Int) (d : Nat) : ∀ i : Nat, i + d = s.size → Ev (fun k => impl_digits.l0 k s lo hi i) (((bs s).drop i).all isDig && decide (lo ≤ s.size ∧ s.size ≤ hi)) := by
  induction d with
  | zero =>
    intro i hi'
    apply Ev.succ
    simp only [impl_digits.l0]
    simp only [show ¬ ((i : Int) < (s.size : Int)) from by omega, if_false, in_impl]
    apply Ev.some
    rw [List.drop_of_length_le (by rw [bs_length]; omega)]
    simp
  | succ d ih =>
    intro i hi'
    apply Ev.succ
    simp only [impl_digits.l0]
    have hb := bt_get s i (by omega)
    have hlt : i < (bs s).length := by rw [bs_length]; omega
    rw [drop_cons hlt, List.all_cons, isDig_iff]
    rw [wrap64_id (x := (i : Int) + 1) (by omega) (by omega)]
    have hr := bt_range s i
    simp only [show ((i : Int) < (s.size : Int)) from by omega, show (0 : Int) ≤ i from by omega, if_true, ← hb, in_impl]
    rw [wrap64_id (x := bt s i) (by omega) (by omega)]
    have ih' := ih (i + 1) (by omega)
    simp only [Option.bind_some]
    by_cases hr' : 48 ≤ bt s i ∧ bt s i ≤ 57
    · simp only [hr', and_self, decide_true, if_true]
      simpa using ih'
    · simp only [hr', decide_false, Bool.false_eq_true, if_false]
      exact Ev.some (by simp)
theorem digits_impl (s : ByteArray) (hs : s.size ≤ 140737488351232) (lo hi : Int) : Ev (fun k => impl_digits.f k s lo hi) ((bs s).all isDig && decide (lo ≤ s.size ∧ s.size ≤ hi)) := by
  have := digits_from s hs lo hi s.size 0 (by omega)
  simpa [impl_digits.f] using this
theorem l2_from (s : ByteArray) (hs : s.size ≤ 140737488351232) (m start : Nat) (hm : m ≤ 16) : ∀ (c i acc : Nat), i ≤ s.size → start ≤ i → start + m = i + c → (acc + 1) * 10 ^ c ≤ 10 ^ 17 →
    Ev (fun k => spec_l2Digits.l0 k s i m acc start) (((decA acc (digs c ((bs s).drop i)) : Nat) : Int), ((i + (digs c ((bs s).drop i)).length : Nat) : Int)) := by
  intro c
  induction c with
  | zero =>
    intro i acc hi hst hc ha
    apply Ev.succ
    simp only [spec_l2Digits.l0]
    rw [wrap64_id (x := (start : Int) + m) (by omega) (by omega)]
    have hz : digs 0 ((bs s).drop i) = [] := by simp [digs]
    rw [hz]
    simp only [show ¬ ((i : Int) < (start : Int) + m) from by omega, if_false, show (0 : Int) ≤ i from by omega, if_true]
    have : (((decA acc [] : Nat) : Int), ((i + ([] : List UInt8).length : Nat) : Int)) = ((acc : Int), (i : Int)) := by simp [decA]
    rw [this]
    split
    · split
      · split <;> exact Ev.some rfl
      · exact Ev.some rfl
    · exact Ev.some rfl
  | succ c ih =>
    intro i acc hi hst hc ha
    apply Ev.succ
    simp only [spec_l2Digits.l0]
    rw [wrap64_id (x := (start : Int) + m) (by omega) (by omega)]
    have stop : digs (c + 1) ((bs s).drop i) = [] → Ev (fun _ => some ((acc : Int), (i : Int))) (((decA acc (digs (c + 1) ((bs s).drop i)) : Nat) : Int), ((i + (digs (c + 1) ((bs s).drop i)).length : Nat) : Int)) := by
      intro h
      rw [h]
      exact Ev.some (by simp [decA])
    by_cases hlt : i < s.size
    · have hb := bt_get s i hlt
      have hlt' : i < (bs s).length := by rw [bs_length]; omega
      have e : digs (c + 1) ((bs s).drop i) = if isDig (bs s)[i] = true then (bs s)[i] :: digs c ((bs s).drop (i + 1)) else [] := by
        unfold digs
        rw [drop_cons hlt', List.take_succ_cons, List.takeWhile_cons]
      simp only [show ((i : Int) < (s.size : Int)) from by omega, show (0 : Int) ≤ i from by omega, if_true, show ((i : Int) < (start : Int) + m) from by omega, hb]
      by_cases hd : isDig (bs s)[i] = true
      · have hr := isDig_true hd
        rw [e, if_pos hd]
        generalize hx : (bs s)[i] = x at *
        simp only [show ((x.toNat : Int) ≥ 48) from by omega, show ((x.toNat : Int) ≤ 57) from by omega, if_true]
        have hp : 1 ≤ 10 ^ c := Nat.one_le_pow _ _ (by decide)
        have hacc : acc + 1 ≤ 10 ^ 17 := Nat.le_trans (Nat.le_mul_of_pos_right _ (Nat.pos_of_ne_zero (by rw [Nat.pow_succ]; omega))) ha
        have h17 : (10 : Nat) ^ 17 = 100000000000000000 := by decide
        rw [h17] at hacc
        rw [wrap64_id (x := (i : Int) + 1) (by omega) (by omega), wrap64_id (x := 10 * (acc : Int)) (by omega) (by omega)]
        rw [show ((x.toNat : Int) - 48) % 256 = (x.toNat : Int) - 48 from by omega, wrap64_id (by omega) (by omega)]
        have := ih (i + 1) (acc * 10 + (x.toNat - 48)) (by omega) (by omega) (by omega) (by
          refine Nat.le_trans ?_ ha
          rw [Nat.pow_succ, Nat.mul_comm (10 ^ c) 10, ← Nat.mul_assoc]
          exact Nat.mul_le_mul_right _ (by omega))
        have e1 : decA acc (x :: digs c ((bs s).drop (i + 1))) = decA (acc * 10 + (x.toNat - 48)) (digs c ((bs s).drop (i + 1))) := rfl
        rw [e1, List.length_cons]
        have e2 : (((acc * 10 + (x.toNat - 48) : Nat) : Int)) = 10 * (acc : Int) + ((x.toNat : Int) - 48) := by omega
        rw [e2] at this
        have e3 : i + ((digs c ((bs s).drop (i + 1))).length + 1) = i + 1 + (digs c ((bs s).drop (i + 1))).length := by omega
        rw [e3]
        simpa using this
      · have e' : digs (c + 1) ((bs s).drop i) = [] := by rw [e, if_neg hd]
        have st := stop e'
        have hn := hd
        rw [isDig_iff] at hn
        simp only [decide_eq_true_eq] at hn
        by_cases h48 : ((bs s)[i].toNat : Int) ≥ 48
        · have h57 : ¬ (((bs s)[i].toNat : Int) ≤ 57) := fun h => hn ⟨h48, h⟩
          simp only [h48, h57, if_true, if_false]
          exact st
        · simp only [h48, if_false]
          exact st
    · have e' : digs (c + 1) ((bs s).drop i) = [] := by
        rw [List.drop_of_length_le (by rw [bs_length]; omega)]
        simp [digs]
      simp only [show ¬ ((i : Int) < (s.size : Int)) from by omega, if_false]
      exact stop e'
theorem l2_spec (s : ByteArray) (hs : s.size ≤ 140737488351232) (m : Nat) (hm : m ≤ 16) (i : Nat) (hi : i ≤ s.size) :
    Ev (fun k => spec_l2Digits.f k s i m) (((decA 0 (digs m ((bs s).drop i)) : Nat) : Int), ((i + (digs m ((bs s).drop i)).length : Nat) : Int)) := by
  have := l2_from s hs m i hm m i 0 hi (Nat.le_refl _) rfl (by
    rw [Nat.zero_add, Nat.one_mul]
    exact Nat.pow_le_pow_right (by decide) (by omega))
  simpa [spec_l2Digits.f] using this
theorem decFrom_digs : ∀ (l : List UInt8) (acc : Nat), l.all isDig = true → Go.Lib.decFrom acc l = some (decA acc l)
  | [], acc, _ => rfl
  | b :: r, acc, h => by
    simp only [List.all_cons, Bool.and_eq_true] at h
    have hb := isDig_true h.1
    have e : Go.Lib.digitVal b = some (b.toNat - 48) := by unfold Go.Lib.digitVal; rw [if_pos hb]
    simp only [Go.Lib.decFrom, e]
    exact decFrom_digs r _ h.2
theorem atoi_digs (s : ByteArray) (h : (bs s).all isDig = true) (h1 : 1 ≤ s.size) (h2 : s.size ≤ 18) : strconv_Atoi.f s = some (((decA 0 (bs s) : Nat) : Int), none) := by
  unfold strconv_Atoi.f
  rw [if_pos h2]
  have : Go.Lib.atoi s.data.toList = some ((decA 0 (bs s) : Nat) : Int) := by
    have hl := bs_length s
    change Go.Lib.atoi (bs s) = _
    rcases hb : bs s with _ | ⟨b, r⟩
    · rw [hb] at hl; simp at hl; omega
    · rw [hb] at h
      have h' := h
      simp only [List.all_cons, Bool.and_eq_true] at h'
      have hd := isDig_true h'.1
      have e1 : (b == 45) = false := by
        rw [beq_eq_false_iff_ne]; rintro rfl; simp at hd
      have e2 : (b == 43) = false := by
        rw [beq_eq_false_iff_ne]; rintro rfl; simp at hd
      simp only [Go.Lib.atoi, e1, e2, Bool.false_eq_true, if_false, Go.Lib.decNat, List.isEmpty_cons]
      rw [decFrom_digs _ _ h]
      rfl
  rw [this]
  rfl
theorem index_fore (c : UInt8) (l : List UInt8) : Go.Lib.indexByte l c = if (fore c l).length < l.length then ((fore c l).length : Int) else -1 := by
  induction l with
  | nil => rfl
  | cons b r ih =>
    unfold Go.Lib.indexByte
    by_cases h : b = c
    · subst h
      simp [fore]
    · have h1 : (b == c) = false := by simpa using h
      have h2 : fore c (b :: r) = b :: fore c r := by
        unfold fore
        rw [List.takeWhile_cons, if_pos (by simpa using h)]
      rw [h1, h2, ih]
      simp only [Bool.false_eq_true, if_false, List.length_cons, Nat.add_lt_add_iff_right]
      by_cases h3 : (fore c r).length < r.length
      · simp only [h3, if_true]
        rw [if_neg (by simp)]
        omega
      · simp only [h3, if_false]
        simp
theorem fore_le (c : UInt8) (l : List UInt8) : (fore c l).length ≤ l.length := (List.takeWhile_sublist _).length_le
theorem fore_take (c : UInt8) (l : List UInt8) : l.take (fore c l).length = fore c l := by
  rcases fore_cases c l with h | ⟨b, h⟩
  · rw [← h]; simp
  · generalize fore c l = a at h
    rw [h]; simp
theorem bs_extract (s : ByteArray) (i j : Nat) (h : j ≤ s.size) : bs (s.extract i j) = ((bs s).drop i).take (j - i) := by
  unfold bs
  rw [ByteArray.data_extract, Array.toList_extract]
theorem cut (s : ByteArray) (hs : s.size ≤ 140737488351232) (c : UInt8) : ∃ p q, strings_Cut.f s ⟨#[c]⟩ = some (p, q, decide ((fore c (bs s)).length < s.size)) ∧ bs p = fore c (bs s) ∧ bs q = (bs s).drop ((fore c (bs s)).length + 1) := by
  have hi : stringslite_Index.f s ⟨#[c]⟩ = some (Go.Lib.indexByte (bs s) c) := rfl
  have hl := fore_le c (bs s)
  have hz : (⟨#[c]⟩ : ByteArray).size = 1 := rfl
  simp only [strings_Cut.f, stringslite_Cut.f, hi, Option.bind_some, index_fore, bs_length, hz]
  rw [bs_length] at hl
  by_cases h : (fore c (bs s)).length < s.size
  · simp only [h, if_true, decide_true]
    rw [wrap64_id (by omega) (by omega)]
    simp only [show (((fore c (bs s)).length : Int) ≥ 0) from by omega, show (((fore c (bs s)).length : Int) ≤ (s.size : Int)) from by omega, show (0 : Int) ≤ ((fore c (bs s)).length : Int) + ((1 : Nat) : Int) from by omega,
      show ((fore c (bs s)).length : Int) + ((1 : Nat) : Int) ≤ (s.size : Int) from by omega, if_true, Option.bind_some, show (0 : Int) ≤ ((fore c (bs s)).length : Int) from by omega]
    refine ⟨_, _, rfl, ?_, ?_⟩
    · rw [bs_extract _ _ _ (by omega)]
      simp [fore_take]
    · rw [bs_extract _ _ _ (by omega)]
      have : (((fore c (bs s)).length : Int) + ((1 : Nat) : Int)).toNat = (fore c (bs s)).length + 1 := by omega
      rw [this]
      apply List.take_of_length_le
      rw [List.length_drop, bs_length]
      omega
  · simp only [h, if_false, decide_false]
    simp only [show ¬ ((-1 : Int) ≥ 0) from by omega, if_false, Option.bind_some]
    refine ⟨_, _, rfl, ?_, ?_⟩
    · rcases fore_cases c (bs s) with h' | ⟨b, h'⟩
      · exact h'
      · have := congrArg List.length h'
        rw [List.length_append, List.length_cons, bs_length] at this
        omega
    · rw [List.drop_of_length_le (by rw [bs_length]; omega)]
      rfl
end Go.Proofs.YtjdlepjgniokdaaGreatDoor.Pure

end
section

namespace Go.Proofs.YtjdlepjgniokdaaGreatDoor.Pure
open Go.RowKit Go.Proofs.YtjdlepjgniokdaaGreatDoor.PA Go.Proofs.YtjdlepjgniokdaaGreatDoorW.PrintWords Go.Proofs.YtjdlepjgniokdaaGreatDoorW.PrintMore Go.Proofs.YtjdlepjgniokdaaGreatDoor.Base
set_option linter.unusedVariables false
set_option linter.unusedSimpArgs false
def decB (a : List UInt8) : List UInt8 → Int × Int × Bool
  | [] => makeP (decA 0 a : Nat) 1
  | _ :: b => if (b.all isDig && decide (1 ≤ b.length ∧ b.length ≤ 6)) = true then makeP (decA 0 (a ++ b) : Nat) ((10 ^ b.length : Nat) : Int) else (0, 0, false)
def decP (l : List UInt8) : Int × Int × Bool :=
  if ((fore 46 l).all isDig && decide (1 ≤ (fore 46 l).length ∧ (fore 46 l).length ≤ 10)) = true then decB (fore 46 l) (l.drop (fore 46 l).length) else (0, 0, false)
theorem tens_pow : ∀ n, tens n = ((10 ^ n : Nat) : Int)
  | 0 => rfl
  | n + 1 => by
    rw [tens_at, tens_pow n, Nat.pow_succ]
    omega
theorem pow_le6 {n : Nat} (h : n ≤ 6) : 1 ≤ 10 ^ n ∧ 10 ^ n ≤ 1000000 :=
  ⟨Nat.one_le_pow _ _ (by decide), Nat.le_trans (Nat.pow_le_pow_right (by decide) h) (by decide)⟩
theorem fore_drop (c : UInt8) (l : List UInt8) : l.drop (fore c l).length = [] ∧ ¬ (fore c l).length < l.length ∨ ∃ b, l.drop (fore c l).length = c :: b ∧ l.drop ((fore c l).length + 1) = b ∧ (fore c l).length < l.length ∧ l = fore c l ++ c :: b := by
  rcases fore_cases c l with h | ⟨b, h⟩
  · left
    rw [← h]
    simp
  · right
    refine ⟨b, ?_, ?_, ?_, h⟩
    · generalize fore c l = a at h
      rw [h]; simp
    · generalize fore c l = a at h
      rw [h]
      have : a.length + 1 = (a ++ [c]).length := by simp
      rw [this, show a ++ c :: b = (a ++ [c]) ++ b from by simp, List.drop_left]
    · have := congrArg List.length h
      rw [List.length_append, List.length_cons] at this
      omega
theorem rest_impl (p q : ByteArray) (hp : (bs p).all isDig = true) (hq : (bs q).all isDig = true) (h1 : 1 ≤ p.size) (h2 : p.size ≤ 10) (h3 : q.size ≤ 6) :
    Ev (fun k => impl_DecimalOf.rest k p q) (makeP (decA 0 (bs p ++ bs q) : Nat) ((10 ^ (bs q).length : Nat) : Int)) := by
  have ha : q.data.toList.all (· < 128) = true := by
    simp only [List.all_eq_true] at hq ⊢
    intro x hx
    have := isDig_true (hq x hx)
    simp only [decide_eq_true_eq, UInt8.lt_iff_toNat_lt]
    have : (128 : UInt8).toNat = 128 := rfl
    omega
  have hall : (bs (p ++ q)).all isDig = true := by rw [bs_append, List.all_append, hp, hq]; rfl
  have hsz : (p ++ q).size = p.size + q.size := ByteArray.size_append
  have hpow := pow_le6 h3
  have hlt : decA 0 (bs (p ++ q)) < 10 ^ 16 := decA_lt_of _ hall _ (by rw [bs_length, hsz]; omega)
  simp only [impl_DecimalOf.rest, show p.size + q.size ≤ 18 from by omega, ha, true_and, if_true, atoi_digs (p ++ q) hall (by omega) (by omega), Option.bind_some, tens_pow, bs_length]
  rw [← bs_append]
  exact make_impl _ _ (by omega) (by omega) (by omega) (by omega)
theorem decimal_impl (s : ByteArray) (hs : s.size ≤ 140737488351232) : Ev (fun k => impl_DecimalOf.f k s) (decP (bs s)) := by
  obtain ⟨p, q, hc, hp, hq⟩ := cut s hs 46
  have hpl := bs_length p
  have hfl := fore_le 46 (bs s)
  rw [bs_length] at hfl
  rw [hp] at hpl
  have hql := bs_length q
  rw [hq, List.length_drop, bs_length] at hql
  simp only [impl_DecimalOf.f, hc, Option.bind_some]
  refine Ev.bind (digits_impl p (by omega) 1 10) ?_
  unfold decP
  rw [hp, ← hpl]
  have e : decide ((1 : Int) ≤ ((fore 46 (bs s)).length : Nat) ∧ (((fore 46 (bs s)).length : Nat) : Int) ≤ 10) = decide (1 ≤ (fore 46 (bs s)).length ∧ (fore 46 (bs s)).length ≤ 10) := decide_eq_decide.2 (by omega)
  rw [e]
  by_cases h : ((fore 46 (bs s)).all isDig && decide (1 ≤ (fore 46 (bs s)).length ∧ (fore 46 (bs s)).length ≤ 10)) = true
  · simp only [h, if_true]
    have h' := h
    simp only [Bool.and_eq_true, decide_eq_true_eq] at h'
    obtain ⟨ha, h1, h2⟩ := h'
    rcases fore_drop 46 (bs s) with ⟨hd, hn⟩ | ⟨b, hd, hd1, hn, _⟩
    · rw [bs_length] at hn
      rw [hd]
      simp only [hn, decide_false, Bool.false_eq_true, if_false]
      have hq0 : bs q = [] := by rw [hq, List.drop_of_length_le (by rw [bs_length]; omega)]
      have := rest_impl p q (by rw [hp]; exact ha) (by rw [hq0]; rfl) (by omega) (by omega) (by omega)
      rw [hq0, List.append_nil, hp] at this
      exact this
    · rw [bs_length] at hn
      rw [hd]
      rw [hd1] at hq
      simp only [hn, decide_true, if_true]
      refine Ev.bind (digits_impl q (by omega) 1 6) ?_
      have hbl := bs_length q
      rw [hq] at hbl
      rw [hq, ← hbl]
      have e : decide ((1 : Int) ≤ (b.length : Nat) ∧ ((b.length : Nat) : Int) ≤ 6) = decide (1 ≤ b.length ∧ b.length ≤ 6) := decide_eq_decide.2 (by omega)
      rw [e]
      unfold decB
      by_cases hb : (b.all isDig && decide (1 ≤ b.length ∧ b.length ≤ 6)) = true
      · simp only [hb, if_true]
        have h' := hb
        simp only [Bool.and_eq_true, decide_eq_true_eq] at h'
        have := rest_impl p q (by rw [hp]; exact ha) (by rw [hq]; exact h'.1) (by omega) (by omega) (by omega)
        rw [hp, hq] at this
        exact this
      · simp only [hb, if_false]
        exact Ev.some rfl
  · simp only [h, if_false]
    exact Ev.some rfl
theorem pow_loop (s : ByteArray) (v w : Int) (e : Nat) (he : e ≤ 140737488351232) : ∀ (d i : Nat) (x : Nat), i + d = e → x * 10 ^ d ≤ 1000000 →
    ∀ r, Ev (fun k => if (e : Int) = (s.size : Int) then ((spec_l2Make.f k (wrap64 ((wrap64 (v * ((x * 10 ^ d : Nat) : Int))) + w)) ((x * 10 ^ d : Nat) : Int)).bind fun bt118 => (some (bt118.1, bt118.2.1, bt118.2.2))) else (some (0, 0, false))) r →
    Ev (fun k => spec_DecimalOf.l0 k s v x w e i) r
  | 0, i, x, hi, hx, r, hr => by
    apply Ev.succ
    simp only [spec_DecimalOf.l0]
    simp only [show ¬ ((i : Int) < (e : Int)) from by omega, if_false]
    simpa using hr
  | d + 1, i, x, hi, hx, r, hr => by
    apply Ev.succ
    simp only [spec_DecimalOf.l0]
    have hp : 1 ≤ 10 ^ (d + 1) := Nat.one_le_pow _ _ (by decide)
    have hx' : x ≤ 1000000 := Nat.le_trans (Nat.le_mul_of_pos_right _ hp) hx
    simp only [show ((i : Int) < (e : Int)) from by omega, if_true]
    rw [wrap64_id (by omega) (by omega), wrap64_id (x := (i : Int) + 1) (by omega) (by omega)]
    have e1 : 10 * x * 10 ^ d = x * 10 ^ (d + 1) := by rw [Nat.pow_succ, Nat.mul_comm (10 ^ d) 10, ← Nat.mul_assoc, Nat.mul_comm x 10]
    have := pow_loop s v w e he d (i + 1) (10 * x) (by omega) (by rw [e1]; exact hx) r (by rw [e1]; exact hr)
    have e2 : ((10 * x : Nat) : Int) = 10 * (x : Int) := by omega
    rw [e2] at this
    simpa using this
theorem decimal_spec (s : ByteArray) (hs : s.size ≤ 140737488351232) : Ev (fun k => spec_DecimalOf.f k s) (decP (bs s)) := by
  have h0 := l2_spec s hs 10 (by decide) 0 (by omega)
  simp only [List.drop_zero, Nat.zero_add] at h0
  have hdl := digs_len 10 (bs s)
  have hdl' := digs_len' 10 (bs s)
  rw [bs_length] at hdl'
  have hda := digs_all 10 (bs s)
  have hdv := decA_lt_of _ hda 10 hdl
  simp only [spec_DecimalOf.f]
  refine Ev.bind (a := (((decA 0 (digs 10 (bs s)) : Nat) : Int), (((digs 10 (bs s)).length : Nat) : Int))) h0 ?_
  have good : fore 46 (bs s) = digs 10 (bs s) → 1 ≤ (digs 10 (bs s)).length → decP (bs s) = decB (digs 10 (bs s)) ((bs s).drop (digs 10 (bs s)).length) := by
    intro h h1
    unfold decP
    rw [h, hda]
    simp [h1, hdl]
  have bad : (fore 46 (bs s) ≠ digs 10 (bs s) ∨ (digs 10 (bs s)).length = 0) → decP (bs s) = (0, 0, false) := by
    intro h
    unfold decP
    by_cases hc : ((fore 46 (bs s)).all isDig && decide (1 ≤ (fore 46 (bs s)).length ∧ (fore 46 (bs s)).length ≤ 10)) = true
    · exfalso
      simp only [Bool.and_eq_true, decide_eq_true_eq] at hc
      have := digs_of 46 (by decide) 10 (bs s) hc.1 hc.2.2
      rcases h with h | h
      · exact h this.symm
      · rw [this] at h; omega
    · simp only [hc, if_false]
      rfl
  by_cases hz : (digs 10 (bs s)).length = 0
  · rw [bad (Or.inr hz)]
    simp only [hz]
    exact Ev.some rfl
  · simp only [show ¬ ((((digs 10 (bs s)).length : Nat) : Int) = 0) from by omega, if_false]
    by_cases hlt : (digs 10 (bs s)).length < s.size
    · simp only [show ((((digs 10 (bs s)).length : Nat) : Int) < (s.size : Int)) from by omega, show (0 : Int) ≤ (((digs 10 (bs s)).length : Nat) : Int) from by omega, if_true]
      have hlt' : (digs 10 (bs s)).length < (bs s).length := by rw [bs_length]; exact hlt
      have hb := bt_get s _ hlt
      apply Ev.succ
      simp only [spec_DecimalOf.j0]
      by_cases h46 : (bs s)[(digs 10 (bs s)).length] = 46
      · have hf : fore 46 (bs s) = digs 10 (bs s) := of_digs 46 (by decide) 10 (bs s) (Or.inr (by rw [List.getElem?_eq_getElem hlt', h46]))
        rw [good hf (by omega)]
        have e46 : (bt s (((digs 10 (bs s)).length : Nat) : Int) == 46) = true := by rw [hb, h46]; rfl
        simp only [e46, if_true]
        rcases fore_drop 46 (bs s) with ⟨_, hn⟩ | ⟨b, hd, hd1, hn, hl⟩
        · rw [hf] at hn; omega
        · rw [hf] at hd hd1 hl
          rw [hd]
          have hbl : (digs 10 (bs s)).length + 1 + b.length = s.size := by
            have := congrArg List.length hl
            rw [List.length_append, List.length_cons, bs_length] at this
            omega
          rw [wrap64_id (x := (((digs 10 (bs s)).length : Nat) : Int) + 1) (by omega) (by omega)]
          have h1 := l2_spec s hs 7 (by decide) ((digs 10 (bs s)).length + 1) (by omega)
          rw [hd1] at h1
          generalize hg : digs 10 (bs s) = a at *
          refine Ev.bind (a := (((decA 0 (digs 7 b) : Nat) : Int), ((a.length + 1 + (digs 7 b).length : Nat) : Int))) (by simpa using h1) ?_
          have hul := digs_len 7 b
          have hul' := digs_len' 7 b
          have hua := digs_all 7 b
          simp only [in_spec, Option.bind_some]
          rw [wrap64_id (x := ((a.length + 1 + (digs 7 b).length : Nat) : Int) - (a.length : Int)) (by omega) (by omega), wrap64_id (by omega) (by omega)]
          unfold decB
          by_cases hr : 1 ≤ (digs 7 b).length ∧ (digs 7 b).length ≤ 6
          · simp only [show (1 : Int) ≤ ((a.length + 1 + (digs 7 b).length : Nat) : Int) - (a.length : Int) - 1 ∧ ((a.length + 1 + (digs 7 b).length : Nat) : Int) - (a.length : Int) - 1 ≤ 6 from by omega, and_self, decide_true, if_true]
            have hpow := pow_le6 hr.2
            have := pow_loop s ((decA 0 a : Nat) : Int) ((decA 0 (digs 7 b) : Nat) : Int) (a.length + 1 + (digs 7 b).length) (by omega) (digs 7 b).length (a.length + 1) 1 rfl (by rw [Nat.one_mul]; exact hpow.2)
            have e1 : ((a.length + 1 : Nat) : Int) = (a.length : Int) + 1 := by omega
            rw [e1] at this
            refine this _ ?_
            rw [Nat.one_mul]
            by_cases hend : (digs 7 b).length = b.length
            · simp only [show (((a.length + 1 + (digs 7 b).length : Nat) : Int) = (s.size : Int)) from by omega, if_true]
              have hub : digs 7 b = b := by
                obtain ⟨r, hr'⟩ := digs_pre 7 b
                have := congrArg List.length hr'
                rw [List.length_append] at this
                have : r = [] := List.eq_nil_of_length_eq_zero (by omega)
                rw [this, List.append_nil] at hr'
                exact hr'.symm
              rw [hub] at hua hr hpow ⊢
              have hok : (b.all isDig && decide (1 ≤ b.length ∧ b.length ≤ 6)) = true := by rw [hua]; simpa using hr
              simp only [hok, if_true]
              have hw := decA_lt_of b hua 6 hr.2
              have h10 : (10 : Nat) ^ 10 = 10000000000 := by decide
              have h6 : (10 : Nat) ^ 6 = 1000000 := by decide
              rw [h10] at hdv
              rw [h6] at hw
              have hm : decA 0 a * 10 ^ b.length ≤ 10000000000 * 1000000 := Nat.mul_le_mul (Nat.le_of_lt hdv) hpow.2
              have e2 : ((decA 0 a : Nat) : Int) * ((10 ^ b.length : Nat) : Int) = ((decA 0 a * 10 ^ b.length : Nat) : Int) := (Int.natCast_mul _ _).symm
              rw [e2, wrap64_id (x := ((decA 0 a * 10 ^ b.length : Nat) : Int)) (by omega) (by omega), wrap64_id (by omega) (by omega)]
              have e3 : ((decA 0 a * 10 ^ b.length : Nat) : Int) + ((decA 0 b : Nat) : Int) = ((decA 0 (a ++ b) : Nat) : Int) := by
                rw [decA_append, decA_shift b (decA 0 a)]
                omega
              have e4 : decA 0 (a ++ b) = decA 0 a * 10 ^ b.length + decA 0 b := by rw [decA_append, decA_shift b (decA 0 a)]
              rw [e3]
              exact Ev.bind (make_spec _ _ (by omega) (by omega) (by omega)) (Ev.some rfl)
            · simp only [show ¬ (((a.length + 1 + (digs 7 b).length : Nat) : Int) = (s.size : Int)) from by omega, if_false]
              have hno : ¬ (b.all isDig && decide (1 ≤ b.length ∧ b.length ≤ 6)) = true := by
                intro h
                simp only [Bool.and_eq_true, decide_eq_true_eq] at h
                apply hend
                unfold digs
                rw [List.take_of_length_le (by omega)]
                have := List.takeWhile_append_of_pos (p := isDig) (l₁ := b) (l₂ := []) (fun x hx => List.all_eq_true.1 h.1 x hx)
                simp at this
                rw [this]
              simp only [hno, if_false]
              exact Ev.some rfl
          · have hf' : ¬ ((1 : Int) ≤ ((a.length + 1 + (digs 7 b).length : Nat) : Int) - (a.length : Int) - 1 ∧ ((a.length + 1 + (digs 7 b).length : Nat) : Int) - (a.length : Int) - 1 ≤ 6) := by omega
            simp only [hf', decide_false, Bool.false_eq_true, if_false]
            have hno : ¬ (b.all isDig && decide (1 ≤ b.length ∧ b.length ≤ 6)) = true := by
              intro h
              simp only [Bool.and_eq_true, decide_eq_true_eq] at h
              apply hr
              have := List.takeWhile_append_of_pos (p := isDig) (l₁ := b) (l₂ := []) (fun x hx => List.all_eq_true.1 h.1 x hx)
              simp at this
              unfold digs
              rw [List.take_of_length_le (by omega), this]
              exact h.2
            simp only [hno, if_false]
            exact Ev.some rfl
      · have hf : fore 46 (bs s) ≠ digs 10 (bs s) := by
          intro h
          rcases fore_drop 46 (bs s) with ⟨_, hn⟩ | ⟨b, hd, hd1, hn, hl⟩
          · rw [h] at hn; omega
          · rw [h] at hd
            have := drop_cons hlt'
            rw [hd] at this
            exact h46 (by injection this with h _; exact h.symm)
        rw [bad (Or.inl hf)]
        have e46 : (bt s (((digs 10 (bs s)).length : Nat) : Int) == 46) = false := by
          rw [hb, beq_eq_false_iff_ne]
          intro h
          exact h46 (UInt8.toNat_inj.1 (by simpa using Int.ofNat_inj.1 h))
        simp only [e46, Bool.false_eq_true, if_false, show ¬ ((((digs 10 (bs s)).length : Nat) : Int) = (s.size : Int)) from by omega]
        exact Ev.some rfl
    · have hlen : (digs 10 (bs s)).length = s.size := by omega
      simp only [show ¬ ((((digs 10 (bs s)).length : Nat) : Int) < (s.size : Int)) from by omega, if_false]
      apply Ev.succ
      simp only [spec_DecimalOf.j0, Bool.false_eq_true, if_false, show ((((digs 10 (bs s)).length : Nat) : Int) = (s.size : Int)) from by omega, if_true]
      have hf : fore 46 (bs s) = digs 10 (bs s) := of_digs 46 (by decide) 10 (bs s) (Or.inl (by rw [bs_length]; exact hlen))
      rw [good hf (by omega), List.drop_of_length_le (by rw [bs_length]; omega)]
      have h10 : (10 : Nat) ^ 10 = 10000000000 := by decide
      rw [h10] at hdv
      rw [Int.mul_one, wrap64_id (x := ((decA 0 (digs 10 (bs s)) : Nat) : Int)) (by omega) (by omega), Int.add_zero, wrap64_id (by omega) (by omega)]
      exact Ev.bind (make_spec _ _ (by omega) (by omega) (by omega)) (Ev.some rfl)
end Go.Proofs.YtjdlepjgniokdaaGreatDoor.Pure

end
section

namespace Go.Proofs.YtjdlepjgniokdaaGreatDoor.Pure
open Go.RowKit Go.Proofs.YtjdlepjgniokdaaGreatDoor.PA Go.Proofs.YtjdlepjgniokdaaGreatDoorW.PrintWords Go.Proofs.YtjdlepjgniokdaaGreatDoorW.PrintMore Go.Proofs.YtjdlepjgniokdaaGreatDoor.Base
set_option linter.unusedVariables false
set_option linter.unusedSimpArgs false
def noF : Int × Int × Bool := (0, 0, false)
def finF (s : ByteArray) (n d : Int) : Int × Int × Bool :=
  if s.toList = ([] : List UInt8) then noF else if (fracText n d).toList = s.toList then (n, d, true) else noF
theorem finF_bad (s : ByteArray) (n d : Int) (h : fracOk n d = false) : finF s n d = noF := by
  unfold finF fracText
  rw [h]
  by_cases h0 : s.toList = ([] : List UInt8)
  · simp [h0]
  · have : ¬ ((⟨#[]⟩ : ByteArray).toList = s.toList) := by
      intro e
      apply h0
      rw [← e]
      exact (toList_nil _).2 rfl
    simp [h0, this]
def sg (neg : Bool) (n : Int) : Int := if neg = true then -n else n
theorem sg_ok (neg : Bool) (n d : Int) : fracOk (sg neg n) d = fracOk n d := by
  unfold sg
  split
  · unfold fracOk
    rw [show (decide (-1000000000 ≤ -n ∧ -n ≤ 1000000000)) = decide (-1000000000 ≤ n ∧ n ≤ 1000000000) from decide_eq_decide.2 (by omega)]
    rw [show Int.gcd (-n) d = Int.gcd n d from by simp [Int.gcd]]
  · rfl
theorem ok_zero (n : Int) : fracOk n 0 = false := by simp [fracOk]
def isNeg (s : ByteArray) : Bool := (bs s).head? == some 45
def bodyS (s : ByteArray) : ByteArray := if isNeg s = true then s.extract 1 s.size else s
def slashP (s : ByteArray) (neg : Bool) (a b : List UInt8) : Int × Int × Bool :=
  if (a.all isDig && decide (1 ≤ a.length ∧ a.length ≤ 10)) = true then
    (if (b.all isDig && decide (1 ≤ b.length ∧ b.length ≤ 7)) = true then finF s (sg neg (decA 0 a : Nat)) (decA 0 b : Nat) else noF) else noF
def readX (s : ByteArray) (neg : Bool) (x : List UInt8) : Int × Int × Bool :=
  if (fore 47 x).length < x.length then slashP s neg (fore 47 x) (x.drop ((fore 47 x).length + 1))
  else if (decP x).2.2 = true then finF s (sg neg (decP x).1) (decP x).2.1 else noF
def readF (s : ByteArray) : Int × Int × Bool := readX s (isNeg s) (bs (bodyS s))
theorem makeP_ok (a b : Int) : (makeP a b).2.2 = true → fracOk (makeP a b).1 (makeP a b).2.1 = true := by
  unfold makeP
  split
  · rename_i h; intro _; exact h
  · intro h; cases h
theorem makeP_no (a b : Int) : ¬ (makeP a b).2.2 = true → makeP a b = noF := by
  unfold makeP
  split
  · intro h; exact absurd rfl h
  · intro _; rfl
theorem decP_cases (x : List UInt8) : decP x = noF ∨ ∃ a b, decP x = makeP a b := by
  unfold decP
  split
  · unfold decB
    split
    · exact Or.inr ⟨_, _, rfl⟩
    · split
      · exact Or.inr ⟨_, _, rfl⟩
      · exact Or.inl rfl
  · exact Or.inl rfl
theorem decP_ok (x : List UInt8) (h : (decP x).2.2 = true) : fracOk (decP x).1 (decP x).2.1 = true := by
  rcases decP_cases x with e | ⟨a, b, e⟩
  · rw [e] at h; cases h
  · rw [e] at h ⊢; exact makeP_ok a b h
theorem decP_no (x : List UInt8) (h : ¬ (decP x).2.2 = true) : decP x = noF := by
  rcases decP_cases x with e | ⟨a, b, e⟩
  · exact e
  · rw [e] at h ⊢; exact makeP_no a b h
theorem dig_not (c : UInt8) (hc : isDig c = false) (l : List UInt8) (h : l.all isDig = true) : ¬ c ∈ l := by
  intro hm
  have := (List.all_eq_true.1 h) c hm
  rw [hc] at this
  cases this
theorem decP_slash (x : List UInt8) (h : 47 ∈ x) : decP x = noF := by
  unfold decP
  split
  · rename_i ha
    simp only [Bool.and_eq_true, decide_eq_true_eq] at ha
    have h47 := dig_not 47 (by decide) _ ha.1
    rcases fore_drop 46 x with ⟨hd, hn⟩ | ⟨b, hd, _, _, hl⟩
    · rcases fore_cases 46 x with e | ⟨b, e⟩
      · rw [← e] at h47; exact absurd h h47
      · have := congrArg List.length e
        rw [List.length_append, List.length_cons] at this
        omega
    · rw [hd]
      unfold decB
      split
      · rename_i hb
        cases hb
      · rename_i y b' hb
        injection hb with _ hb
        subst hb
        split
        · rename_i hbd
          simp only [Bool.and_eq_true, decide_eq_true_eq] at hbd
          have hb47 := dig_not 47 (by decide) _ hbd.1
          rw [hl] at h
          rcases List.mem_append.1 h with h | h
          · exact absurd h h47
          · rcases List.mem_cons.1 h with h | h
            · cases h
            · exact absurd h hb47
        · rfl
  · rfl
theorem mem_slash (x : List UInt8) (h : (fore 47 x).length < x.length) : 47 ∈ x := by
  rcases fore_drop 47 x with ⟨_, hn⟩ | ⟨b, _, _, _, hl⟩
  · exact absurd h hn
  · rw [hl]; simp
theorem makeP_one (v : Int) (h : ¬ (makeP v 1).2.2 = true) : fracOk v 1 = false := by
  by_cases hv : fracOk v 1 = true
  · exfalso
    apply h
    have hg : Int.gcd v 1 = 1 := by simp
    simp only [makeP, hg]
    have h1 : v.tdiv ((1 : Nat) : Int) = v := by simp
    have h2 : (1 : Int).tdiv ((1 : Nat) : Int) = 1 := by simp
    rw [h1, h2, hv]
    rfl
  · simpa using hv
theorem fin_spec (s : ByteArray) (n d : Int) : Ev (fun k => if s.toList = ([] : List UInt8) then (some (0, 0, false)) else ((spec_FractionText.f k n d).bind fun t141 => (if t141.toList = s.toList then (some (n, d, true)) else (some (0, 0, false))))) (finF s n d) := by
  unfold finF noF
  by_cases h : s.toList = ([] : List UInt8)
  · simp only [h, if_true]
    exact Ev.some rfl
  · simp only [h, if_false]
    refine Ev.bind (text_spec n d) ?_
    by_cases h' : (fracText n d).toList = s.toList
    · simp only [h', if_true]; exact Ev.some rfl
    · simp only [h', if_false]; exact Ev.some rfl
def sgI (neg : Bool) : Int := if neg = true then -1 else 1
theorem sg_wrap (neg : Bool) (n : Int) (h : n.natAbs < 4611686018427387904) : wrap64 (sgI neg * n) = sg neg n := by
  cases neg
  · simp only [sgI, sg, Bool.false_eq_true, if_false, Int.one_mul]
    exact wrap64_id (by omega) (by omega)
  · simp only [sgI, sg, if_true]
    rw [show (-1 : Int) * n = -n from by omega]
    exact wrap64_id (by omega) (by omega)
theorem j4_false (s x : ByteArray) (neg : Bool) (v e n d : Int) (hn : n.natAbs < 4611686018427387904) (hbad : fracOk (sg neg n) d = false) :
    Ev (fun k => spec_ReadFraction.j4 k s x (sgI neg) v e false n d) noF := by
  apply Ev.succ
  simp only [spec_ReadFraction.j4, Bool.false_eq_true, if_false, sg_wrap neg n hn]
  have := fin_spec s (sg neg n) d
  rw [finF_bad s _ _ hbad] at this
  exact this
theorem j1_spec (s x : ByteArray) (hx : x.size ≤ 140737488351232) (neg : Bool) : Ev (fun k => spec_ReadFraction.j1 k s x (sgI neg)) (readX s neg (bs x)) := by
  apply Ev.succ
  simp only [spec_ReadFraction.j1]
  refine Ev.bind (decimal_spec x hx) ?_
  by_cases hok : (decP (bs x)).2.2 = true
  · simp only [hok, if_true]
    have hf := decP_ok _ hok
    simp only [fracOk, Bool.and_eq_true, decide_eq_true_eq] at hf
    rw [sg_wrap neg _ (by omega)]
    have hns : ¬ (fore 47 (bs x)).length < (bs x).length := by
      intro h
      have := decP_slash _ (mem_slash _ h)
      rw [this] at hok
      cases hok
    unfold readX
    rw [if_neg hns, if_pos hok]
    exact fin_spec s _ _
  · have hno := decP_no _ hok
    have h0 := l2_spec x hx 10 (by decide) 0 (by omega)
    simp only [List.drop_zero, Nat.zero_add] at h0
    have hdl := digs_len 10 (bs x)
    have hdl' := digs_len' 10 (bs x)
    have hda := digs_all 10 (bs x)
    have hdv := decA_lt_of _ hda 10 hdl
    have h10 : (10 : Nat) ^ 10 = 10000000000 := by decide
    rw [h10] at hdv
    rw [bs_length] at hdl'
    simp only [hok, if_false]
    refine Ev.bind (a := (((decA 0 (digs 10 (bs x)) : Nat) : Int), (((digs 10 (bs x)).length : Nat) : Int))) h0 ?_
    rw [hno]
    simp only [noF]
    have bad : ∀ n d : Int, n.natAbs < 4611686018427387904 → fracOk (sg neg n) d = false →
        ¬ (0 < (digs 10 (bs x)).length ∧ (bs x)[(digs 10 (bs x)).length]? = some 47) →
        Ev (fun k => spec_ReadFraction.j3 k s x (sgI neg) ((decA 0 (digs 10 (bs x)) : Nat) : Int) (((digs 10 (bs x)).length : Nat) : Int) n d) noF := by
      intro n d hn hb hc
      apply Ev.succ
      simp only [spec_ReadFraction.j3]
      by_cases hz : 0 < (digs 10 (bs x)).length
      · simp only [show ((((digs 10 (bs x)).length : Nat) : Int) > 0) from by omega, if_true]
        by_cases hlt : (digs 10 (bs x)).length < x.size
        · simp only [show ((((digs 10 (bs x)).length : Nat) : Int) < (x.size : Int)) from by omega, show (0 : Int) ≤ (((digs 10 (bs x)).length : Nat) : Int) from by omega, if_true]
          have hlt' : (digs 10 (bs x)).length < (bs x).length := by rw [bs_length]; exact hlt
          have e : (bt x (((digs 10 (bs x)).length : Nat) : Int) == 47) = false := by
            rw [bt_get x _ hlt, beq_eq_false_iff_ne]
            intro h
            apply hc
            refine ⟨hz, ?_⟩
            rw [List.getElem?_eq_getElem hlt']
            exact congrArg some (UInt8.toNat_inj.1 (by simpa using Int.ofNat_inj.1 h))
          rw [e]
          exact j4_false s x neg _ _ n d hn hb
        · simp only [show ¬ ((((digs 10 (bs x)).length : Nat) : Int) < (x.size : Int)) from by omega, if_false]
          exact j4_false s x neg _ _ n d hn hb
      · simp only [show ¬ ((((digs 10 (bs x)).length : Nat) : Int) > 0) from by omega, if_false]
        exact j4_false s x neg _ _ n d hn hb
    have hz0 : fracOk (sg neg 0) 0 = false := ok_zero _
    by_cases hs : (fore 47 (bs x)).length < (bs x).length
    ·
      unfold readX
      rw [if_pos hs]
      have hne : ¬ (0 < (digs 10 (bs x)).length ∧ (digs 10 (bs x)).length = x.size) := by
        intro h
        have := of_digs 47 (by decide) 10 (bs x) (Or.inl (by rw [bs_length]; exact h.2))
        rw [this, bs_length] at hs
        omega
      have j2f : ∀ r, Ev (fun k => spec_ReadFraction.j3 k s x (sgI neg) ((decA 0 (digs 10 (bs x)) : Nat) : Int) (((digs 10 (bs x)).length : Nat) : Int) 0 0) r →
          Ev (fun k => if (((digs 10 (bs x)).length : Nat) : Int) > 0 then (spec_ReadFraction.j2 k s x (sgI neg) ((decA 0 (digs 10 (bs x)) : Nat) : Int) (((digs 10 (bs x)).length : Nat) : Int) ((((digs 10 (bs x)).length : Nat) : Int) == (x.size : Int)) 0 0) else (spec_ReadFraction.j2 k s x (sgI neg) ((decA 0 (digs 10 (bs x)) : Nat) : Int) (((digs 10 (bs x)).length : Nat) : Int) false 0 0)) r := by
        intro r hr
        by_cases hz : 0 < (digs 10 (bs x)).length
        · simp only [show ((((digs 10 (bs x)).length : Nat) : Int) > 0) from by omega, if_true]
          have e : ((((digs 10 (bs x)).length : Nat) : Int) == (x.size : Int)) = false := by
            rw [beq_eq_false_iff_ne]
            omega
          rw [e]
          apply Ev.succ
          simp only [spec_ReadFraction.j2, Bool.false_eq_true, if_false]
          exact hr
        · simp only [show ¬ ((((digs 10 (bs x)).length : Nat) : Int) > 0) from by omega, if_false]
          apply Ev.succ
          simp only [spec_ReadFraction.j2, Bool.false_eq_true, if_false]
          exact hr
      apply j2f
      unfold slashP
      by_cases ha : ((fore 47 (bs x)).all isDig && decide (1 ≤ (fore 47 (bs x)).length ∧ (fore 47 (bs x)).length ≤ 10)) = true
      · rw [if_pos ha]
        simp only [Bool.and_eq_true, decide_eq_true_eq] at ha
        have hf := digs_of 47 (by decide) 10 (bs x) ha.1 ha.2.2
        rcases fore_drop 47 (bs x) with ⟨_, hn⟩ | ⟨b, hd, hd1, hn, hl⟩
        · exact absurd hs hn
        · rw [hd1]
          rw [hf] at hdv hdl ⊢
          have hlt : (fore 47 (bs x)).length < x.size := by rw [bs_length] at hs; exact hs
          have hbl : (fore 47 (bs x)).length + 1 + b.length = x.size := by
            have := congrArg List.length hl
            rw [List.length_append, List.length_cons, bs_length] at this
            omega
          have e47 : (bt x (((fore 47 (bs x)).length : Nat) : Int) == 47) = true := by
            rw [bt_get x _ hlt]
            have hlt' : (fore 47 (bs x)).length < (bs x).length := hs
            have : (bs x)[(fore 47 (bs x)).length] = 47 := by
              have := drop_cons hlt'
              rw [hd] at this
              injection this with h _
              exact h.symm
            rw [this]; rfl
          have h1 := l2_spec x hx 7 (by decide) ((fore 47 (bs x)).length + 1) (by omega)
          rw [hd1] at h1
          generalize hg : fore 47 (bs x) = a at *
          apply Ev.succ
          simp only [spec_ReadFraction.j3, show (((a.length : Nat) : Int) > 0) from by omega, show (((a.length : Nat) : Int) < (x.size : Int)) from by omega, show (0 : Int) ≤ ((a.length : Nat) : Int) from by omega, if_true, e47]
          apply Ev.succ
          simp only [spec_ReadFraction.j4, if_true]
          rw [wrap64_id (x := (a.length : Int) + 1) (by omega) (by omega)]
          refine Ev.bind (a := (((decA 0 (digs 7 b) : Nat) : Int), ((a.length + 1 + (digs 7 b).length : Nat) : Int))) (by simpa using h1) ?_
          have hul := digs_len 7 b
          have hul' := digs_len' 7 b
          have hua := digs_all 7 b
          have j5f : Ev (fun k => spec_ReadFraction.j5 k s (sgI neg) ((decA 0 a : Nat) : Int) ((decA 0 (digs 7 b) : Nat) : Int) false 0 0) noF := by
            apply Ev.succ
            simp only [spec_ReadFraction.j5, Bool.false_eq_true, if_false, sg_wrap neg 0 (by decide)]
            have := fin_spec s (sg neg 0) 0
            rwa [finF_bad s _ _ hz0] at this
          by_cases hend : (digs 7 b).length = b.length
          · simp only [show (((a.length + 1 + (digs 7 b).length : Nat) : Int) = (x.size : Int)) from by omega, if_true]
            have hub : digs 7 b = b := by
              obtain ⟨r, hr'⟩ := digs_pre 7 b
              have := congrArg List.length hr'
              rw [List.length_append] at this
              have : r = [] := List.eq_nil_of_length_eq_zero (by omega)
              rw [this, List.append_nil] at hr'
              exact hr'.symm
            rw [hub] at hua hul j5f ⊢
            by_cases hd0 : 0 < decA 0 b
            · have hb1 : 1 ≤ b.length := by
                rcases b with _ | ⟨y, b⟩
                · simp [decA] at hd0
                · simp
              have hbok : (b.all isDig && decide (1 ≤ b.length ∧ b.length ≤ 7)) = true := by rw [hua]; simp [hb1, hul]
              rw [if_pos hbok]
              have e : decide (((decA 0 b : Nat) : Int) > 0) = true := by simp only [decide_eq_true_eq]; omega
              rw [e]
              apply Ev.succ
              simp only [spec_ReadFraction.j5, if_true, sg_wrap neg ((decA 0 a : Nat) : Int) (by omega)]
              exact fin_spec s _ _
            · have e : decide (((decA 0 b : Nat) : Int) > 0) = false := by simp only [decide_eq_false_iff_not]; omega
              rw [e]
              have hz : decA 0 b = 0 := by omega
              have hfin : finF s (sg neg ((decA 0 a : Nat) : Int)) ((decA 0 b : Nat) : Int) = noF := by
                rw [hz]; exact finF_bad s _ _ (ok_zero _)
              rw [hfin]
              simp only [ite_self]
              exact j5f
          · simp only [show ¬ (((a.length + 1 + (digs 7 b).length : Nat) : Int) = (x.size : Int)) from by omega, if_false]
            have hno : ¬ (b.all isDig && decide (1 ≤ b.length ∧ b.length ≤ 7)) = true := by
              intro h
              simp only [Bool.and_eq_true, decide_eq_true_eq] at h
              apply hend
              have := List.takeWhile_append_of_pos (p := isDig) (l₁ := b) (l₂ := []) (fun x hx => List.all_eq_true.1 h.1 x hx)
              simp at this
              unfold digs
              rw [List.take_of_length_le (by omega), this]
            rw [if_neg hno]
            exact j5f
      · rw [if_neg ha]
        refine bad 0 0 (by decide) hz0 ?_
        intro h
        have hf := of_digs 47 (by decide) 10 (bs x) (Or.inr h.2)
        apply ha
        rw [hf, hda]
        simp only [Bool.true_and, decide_eq_true_eq]
        omega
    ·
      unfold readX
      rw [if_neg hs, if_neg hok]
      have h47 : ¬ (0 < (digs 10 (bs x)).length ∧ (bs x)[(digs 10 (bs x)).length]? = some 47) := by
        intro h
        have hf := of_digs 47 (by decide) 10 (bs x) (Or.inr h.2)
        rw [hf] at hs
        have : (bs x)[(digs 10 (bs x)).length]? = none := List.getElem?_eq_none (by omega)
        rw [this] at h
        cases h.2
      by_cases hz : 0 < (digs 10 (bs x)).length
      · simp only [show ((((digs 10 (bs x)).length : Nat) : Int) > 0) from by omega, if_true]
        apply Ev.succ
        simp only [spec_ReadFraction.j2]
        by_cases he : (digs 10 (bs x)).length = x.size
        · have e : ((((digs 10 (bs x)).length : Nat) : Int) == (x.size : Int)) = true := by rw [beq_iff_eq]; omega
          simp only [e, if_true]
          refine bad _ 1 (by omega) ?_ h47
          rw [sg_ok]
          apply makeP_one
          have hf : fore 46 (bs x) = digs 10 (bs x) := of_digs 46 (by decide) 10 (bs x) (Or.inl (by rw [bs_length]; exact he))
          have : decP (bs x) = makeP ((decA 0 (digs 10 (bs x)) : Nat) : Int) 1 := by
            unfold decP
            rw [hf, hda, List.drop_of_length_le (by rw [bs_length]; omega)]
            rw [if_pos (by simp only [Bool.true_and, decide_eq_true_eq]; omega)]
            rfl
          rw [this] at hok
          exact hok
        · have e : ((((digs 10 (bs x)).length : Nat) : Int) == (x.size : Int)) = false := by rw [beq_eq_false_iff_ne]; omega
          simp only [e, Bool.false_eq_true, if_false]
          exact bad 0 0 (by decide) hz0 h47
      · simp only [show ¬ ((((digs 10 (bs x)).length : Nat) : Int) > 0) from by omega, if_false]
        apply Ev.succ
        simp only [spec_ReadFraction.j2, Bool.false_eq_true, if_false]
        exact bad 0 0 (by decide) hz0 h47
theorem neg_bt (s : ByteArray) (h : 0 < s.size) : (bt s 0 == 45) = isNeg s := by
  have hb := bt_get s 0 h
  have hl : 0 < (bs s).length := by rw [bs_length]; exact h
  have e : bt s 0 = (((bs s)[0]'hl).toNat : Int) := hb
  rw [e]
  unfold isNeg
  rw [List.head?_eq_getElem?, List.getElem?_eq_getElem hl]
  rw [Bool.eq_iff_iff]
  simp only [beq_iff_eq, Option.some.injEq]
  constructor
  · intro h'
    exact UInt8.toNat_inj.1 (by simpa using Int.ofNat_inj.1 h')
  · intro h'; rw [h']; rfl
theorem size_zero (s : ByteArray) (h : s.toList = ([] : List UInt8)) : s.size = 0 := by
  rw [toList_nil] at h
  rw [← bs_length, h]; rfl
theorem read_spec (s : ByteArray) (hs : s.size ≤ 140737488351232) : Ev (fun k => spec_ReadFraction.f k s) (readF s) := by
  simp only [spec_ReadFraction.f]
  have key : ∀ neg, isNeg s = neg → (neg = true → 1 ≤ s.size) → Ev (fun k => spec_ReadFraction.j0 k s s 1 neg) (readF s) := by
    intro neg hn h1
    unfold readF bodyS
    rw [hn]
    apply Ev.succ
    simp only [spec_ReadFraction.j0]
    cases neg with
    | false => exact j1_spec s s hs false
    | true =>
      have := h1 rfl
      simp only [if_true, show (1 : Int) ≤ (s.size : Int) from by omega]
      exact j1_spec s (s.extract 1 s.size) (by rw [ByteArray.size_extract]; omega) true
  by_cases h0 : s.toList = ([] : List UInt8)
  · simp only [h0, if_true]
    refine key false ?_ (by simp)
    have := size_zero s h0
    unfold isNeg
    rw [toList_nil] at h0
    rw [h0]; rfl
  · have hpos : 0 < s.size := by
      rcases Nat.eq_zero_or_pos s.size with h | h
      · exfalso
        apply h0
        rw [toList_nil]
        exact List.eq_nil_of_length_eq_zero (by rw [bs_length]; exact h)
      · exact h
    simp only [h0, if_false, show (0 : Int) < (s.size : Int) from by omega, if_true]
    rw [neg_bt s hpos]
    exact key _ rfl (fun _ => hpos)
theorem prefix_minus (s : ByteArray) (hs : s.size ≤ 140737488351232) : strings_CutPrefix.f s ⟨#[45]⟩ = some (bodyS s, isNeg s) := by
  have hz : (⟨#[45]⟩ : ByteArray).size = 1 := rfl
  have ht : (⟨#[45]⟩ : ByteArray).toList = [45] := by rw [Go.Lib.toList_data]
  simp only [strings_CutPrefix.f, stringslite_CutPrefix.f, stringslite_HasPrefix.f, hz, ht]
  by_cases h : 1 ≤ s.size
  · simp only [show ((s.size : Int) ≥ ((1 : Nat) : Int)) from by omega, show ((0 : Int) ≤ ((1 : Nat) : Int)) from by omega, show (((1 : Nat) : Int) ≤ (s.size : Int)) from by omega, if_true, Option.bind_some]
    have e : ((s.extract 0 (((1 : Nat) : Int)).toNat).toList == ([45] : List UInt8)) = isNeg s := by
      rw [Go.Lib.toList_data]
      have hx : (s.extract 0 (((1 : Nat) : Int)).toNat).data.toList = (bs s).take 1 := by
        exact bs_extract s 0 1 (by omega)
      rw [hx]
      unfold isNeg
      have hl : 0 < (bs s).length := by rw [bs_length]; omega
      rcases hb : bs s with _ | ⟨b, r⟩
      · rw [hb] at hl; simp at hl
      · rw [Bool.eq_iff_iff]
        simp
    rw [e]
    unfold bodyS
    cases isNeg s
    · rfl
    · rfl
  · have h0 : s.size = 0 := by omega
    have hn : isNeg s = false := by
      unfold isNeg
      have hb : bs s = [] := List.eq_nil_of_length_eq_zero (by rw [bs_length]; exact h0)
      rw [hb]; rfl
    simp only [show ¬ ((s.size : Int) ≥ ((1 : Nat) : Int)) from by omega, if_false, Option.bind_some, Bool.false_eq_true, bodyS, hn]
theorem fin_impl (s : ByteArray) (n d : Int) : Ev (fun k => (impl_FractionText.f k n d).bind fun t252 => (if t252.toList = s.toList then (if s.toList = ([] : List UInt8) then (some (0, 0, false)) else (some (n, d, true))) else (some (0, 0, false)))) (finF s n d) := by
  refine Ev.bind (text_impl n d) ?_
  unfold finF noF
  by_cases h : s.toList = ([] : List UInt8)
  · simp only [h, if_true]
    split <;> exact Ev.some rfl
  · simp only [h, if_false]
    split <;> exact Ev.some rfl
theorem j1_impl (s : ByteArray) (neg ok : Bool) (n d : Int) (hn : n.natAbs < 4611686018427387904) : Ev (fun k => impl_ReadFraction.j1 k s neg ok n d) (if ok = true then finF s (sg neg n) d else noF) := by
  apply Ev.succ
  simp only [impl_ReadFraction.j1]
  cases neg
  · simp only [Bool.false_eq_true, if_false]
    cases ok
    · exact Ev.some rfl
    · simp only [if_true]
      exact fin_impl s n d
  · simp only [if_true]
    cases ok
    · exact Ev.some rfl
    · simp only [if_true]
      rw [wrap64_id (by omega) (by omega)]
      exact fin_impl s (-n) d
theorem read_impl (s : ByteArray) (hs : s.size ≤ 140737488351232) : Ev (fun k => impl_ReadFraction.f k s) (readF s) := by
  simp only [impl_ReadFraction.f, prefix_minus s hs, Option.bind_some]
  have hx : (bodyS s).size ≤ 140737488351232 := by
    unfold bodyS
    split
    · rw [ByteArray.size_extract]; omega
    · exact hs
  unfold readF
  generalize bodyS s = x at *
  generalize isNeg s = neg
  refine Ev.bind (decimal_impl x hx) ?_
  obtain ⟨p, q, hc, hp, hq⟩ := cut x hx 47
  have hpl := bs_length p
  have hfl := fore_le 47 (bs x)
  rw [bs_length] at hfl
  rw [hp] at hpl
  have hql := bs_length q
  rw [hq, List.length_drop, bs_length] at hql
  simp only [hc, Option.bind_some]
  unfold readX
  rw [bs_length]
  by_cases hlt : (fore 47 (bs x)).length < x.size
  · simp only [hlt, decide_true, if_true]
    unfold slashP
    refine Ev.bind (digits_impl p (by omega) 1 10) ?_
    rw [hp, ← hpl]
    have e : decide ((1 : Int) ≤ ((fore 47 (bs x)).length : Nat) ∧ (((fore 47 (bs x)).length : Nat) : Int) ≤ 10) = decide (1 ≤ (fore 47 (bs x)).length ∧ (fore 47 (bs x)).length ≤ 10) := decide_eq_decide.2 (by omega)
    rw [e]
    by_cases h : ((fore 47 (bs x)).all isDig && decide (1 ≤ (fore 47 (bs x)).length ∧ (fore 47 (bs x)).length ≤ 10)) = true
    · simp only [h, if_true]
      refine Ev.bind (digits_impl q (by omega) 1 7) ?_
      have hbl := bs_length q
      rw [← hq, ← hbl]
      have e : decide ((1 : Int) ≤ ((bs q).length : Nat) ∧ (((bs q).length : Nat) : Int) ≤ 7) = decide (1 ≤ (bs q).length ∧ (bs q).length ≤ 7) := decide_eq_decide.2 (by omega)
      rw [e]
      by_cases hb : ((bs q).all isDig && decide (1 ≤ (bs q).length ∧ (bs q).length ≤ 7)) = true
      · simp only [hb, if_true]
        apply Ev.succ
        simp only [impl_ReadFraction.j0, Bool.not_true, Bool.false_eq_true, if_false]
        simp only [Bool.and_eq_true, decide_eq_true_eq] at h hb
        rw [atoi_digs p (by rw [hp]; exact h.1) (by omega) (by omega), atoi_digs q hb.1 (by omega) (by omega)]
        simp only [Option.bind_some]
        have hdv := decA_lt_of _ h.1 10 h.2.2
        have h10 : (10 : Nat) ^ 10 = 10000000000 := by decide
        rw [h10] at hdv
        rw [hp]
        have := j1_impl s neg true ((decA 0 (fore 47 (bs x)) : Nat) : Int) ((decA 0 (bs q) : Nat) : Int) (by omega)
        simpa using this
      · simp only [hb, if_false]
        simp only [Bool.not_eq_true] at hb
        apply Ev.succ
        simp only [impl_ReadFraction.j0, hb, Bool.not_false, if_true]
        exact Ev.some rfl
    · simp only [h, if_false]
      apply Ev.succ
      simp only [impl_ReadFraction.j0, if_true]
      exact Ev.some rfl
  · simp only [hlt, decide_false, Bool.false_eq_true, if_false]
    by_cases hok : (decP (bs x)).2.2 = true
    · have hf := decP_ok _ hok
      simp only [fracOk, Bool.and_eq_true, decide_eq_true_eq] at hf
      exact j1_impl s neg _ _ _ (by omega)
    · have := decP_no _ hok
      rw [this]
      exact j1_impl s neg _ _ _ (by decide)
end Go.Proofs.YtjdlepjgniokdaaGreatDoor.Pure

end
section

namespace Go.Proofs.YtjdlepjgniokdaaGreatDoor.Pure
open Go.RowKit Go.Proofs.YtjdlepjgniokdaaGreatDoor.PA Go.Proofs.YtjdlepjgniokdaaGreatDoorW.PrintWords Go.Proofs.YtjdlepjgniokdaaGreatDoorW.PrintMore Go.Proofs.YtjdlepjgniokdaaGreatDoor.Base
set_option linter.unusedVariables false
set_option linter.unusedSimpArgs false
def endL : List Nat → Nat → Option (List Nat)
  | l, 0 => some l
  | [], _ + 1 => none
  | a :: r, p + 1 => endL r (p + a)
inductive Par : List Nat → Nat → List Nat → Nat → Prop
  | nil (l : List Nat) : Par l 0 l 0
  | cons (a : Nat) (r m : List Nat) (p : Nat) (e : List Nat) (d1 d2 : Nat) : Par r a m d1 → Par m p e d2 → Par (a :: r) (p + 1) e (max (d1 + 1) d2)
theorem endL_zero (l : List Nat) : endL l 0 = some l := by cases l <;> rfl
theorem endL_add (l : List Nat) : ∀ a b, endL l (a + b) = (endL l a).bind fun m => endL m b := by
  induction l with
  | nil =>
    intro a b
    cases a with
    | zero => simp [endL_zero]
    | succ a => rw [show a + 1 + b = (a + b) + 1 from by omega]; rfl
  | cons x r ih =>
    intro a b
    cases a with
    | zero => simp [endL_zero]
    | succ a =>
      rw [show a + 1 + b = (a + b) + 1 from by omega]
      simp only [endL]
      rw [← ih, show a + b + x = a + x + b from by omega]
theorem endL_len (l : List Nat) : ∀ p e, endL l p = some e → e.length ≤ l.length := by
  induction l with
  | nil =>
    intro p e h
    cases p with
    | zero => rw [endL_zero] at h; injection h with h; rw [h]; exact Nat.le_refl _
    | succ p => cases h
  | cons x r ih =>
    intro p e h
    cases p with
    | zero => rw [endL_zero] at h; injection h with h; rw [h]; exact Nat.le_refl _
    | succ p =>
      have := ih _ _ h
      simp only [List.length_cons]
      omega
theorem par_of_end : ∀ (n : Nat) (l : List Nat) (p : Nat) (e : List Nat), l.length < n → endL l p = some e → ∃ d, Par l p e d
  | 0, _, _, _, h, _ => by omega
  | n + 1, l, 0, e, h, he => by
    rw [endL_zero] at he
    injection he with he
    subst he
    exact ⟨0, .nil _⟩
  | n + 1, [], p + 1, e, h, he => by cases he
  | n + 1, a :: r, p + 1, e, h, he => by
    simp only [endL] at he
    rw [Nat.add_comm, endL_add] at he
    rcases hm : endL r a with _ | m
    · rw [hm] at he; cases he
    · rw [hm] at he
      simp only [Option.bind_some] at he
      simp only [List.length_cons] at h
      have hl := endL_len _ _ _ hm
      obtain ⟨d1, h1⟩ := par_of_end n r a m (by omega) hm
      obtain ⟨d2, h2⟩ := par_of_end n m p e (by omega) he
      exact ⟨_, .cons a r m p e d1 d2 h1 h2⟩
theorem end_of_par {l : List Nat} {p : Nat} {e : List Nat} {d : Nat} (h : Par l p e d) : endL l p = some e := by
  induction h with
  | nil l => exact endL_zero l
  | cons a r m p e d1 d2 h1 h2 ih1 ih2 =>
    simp only [endL]
    rw [Nat.add_comm, endL_add, ih1]
    exact ih2
theorem par_len {l : List Nat} {p : Nat} {e : List Nat} {d : Nat} (h : Par l p e d) : e.length + p ≤ l.length ∧ ∃ n, e = l.drop n ∧ n ≤ l.length := by
  induction h with
  | nil l => exact ⟨by omega, 0, rfl, by omega⟩
  | cons a r m p e d1 d2 h1 h2 ih1 ih2 =>
    obtain ⟨i1, n1, e1, l1⟩ := ih1
    obtain ⟨i2, n2, e2, l2⟩ := ih2
    refine ⟨by simp only [List.length_cons]; omega, 1 + n1 + n2, ?_, ?_⟩
    · rw [e2, e1, List.drop_drop]
      rw [show 1 + n1 + n2 = (n1 + n2) + 1 from by omega, List.drop_succ_cons]
    · rw [e1, List.length_drop] at l2
      simp only [List.length_cons]
      omega
theorem par_depth {l : List Nat} {p : Nat} {e : List Nat} {d : Nat} (h : Par l p e d) : ∀ {n : Nat}, l.length ≤ n → d ≤ n := by
  induction h with
  | nil l => intro n _; omega
  | cons a r m p e d1 d2 p1 p2 ih1 ih2 =>
    intro n hn
    simp only [List.length_cons] at hn
    have h1 := ih1 (Nat.le_refl _)
    have h2 := ih2 (Nat.le_refl _)
    have h3 := (par_len p1).1
    omega
theorem par_det {l : List Nat} {p : Nat} {e : List Nat} {d : Nat} (h : Par l p e d) : ∀ {e' : List Nat} {d' : Nat}, Par l p e' d' → e = e' ∧ d = d' := by
  induction h with
  | nil l => intro e' d' h'; cases h'; exact ⟨rfl, rfl⟩
  | cons a r m p e d1 d2 p1 p2 ih1 ih2 =>
    intro e' d' h'
    cases h' with
    | cons a r m' p e' d1' d2' q1 q2 =>
      obtain ⟨rfl, rfl⟩ := ih1 q1
      obtain ⟨rfl, rfl⟩ := ih2 q2
      exact ⟨rfl, rfl⟩
def ars (L : List S27) : List Nat := L.map fun c => c.f2.toNat
theorem ars_len (L : List S27) : (ars L).length = L.length := by simp [ars]
def Low (L : List S27) : Prop := L.length ≤ 60 ∧ ∀ c ∈ L, 0 ≤ c.f2 ∧ c.f2 ≤ 8
theorem low_at {L : List S27} (h : Low L) (i : Nat) (hi : i < L.length) : ∃ a : Nat, a ≤ 8 ∧ (rd_T27 L i).f2 = (a : Int) ∧ (ars L).drop i = a :: (ars L).drop (i + 1) := by
  have hm := h.2 L[i] (List.getElem_mem hi)
  refine ⟨L[i].f2.toNat, by omega, ?_, ?_⟩
  · have e : rd_T27 L i = L[i] := by
      unfold rd_T27
      rw [List.getD_eq_getElem?_getD, show ((i : Int)).toNat = i from by omega, List.getElem?_eq_getElem hi]
      rfl
    rw [e]
    omega
  · have hi' : i < (ars L).length := by rw [ars_len]; exact hi
    rw [List.drop_eq_getElem_cons hi']
    congr 1
    simp [ars]
theorem drop_end {L : List S27} (i : Nat) (h : ¬ i < L.length) : (ars L).drop i = [] := List.drop_of_length_le (by rw [ars_len]; omega)
theorem drop_inj {L : List S27} {i j : Nat} (hi : i ≤ L.length) (hj : j ≤ L.length) (h : (ars L).drop i = (ars L).drop j) : i = j := by
  have := congrArg List.length h
  simp only [List.length_drop, ars_len] at this
  omega
theorem par_pos {L : List S27} {i p : Nat} {m : List Nat} {d : Nat} (hi : i ≤ L.length) (h : Par ((ars L).drop i) p m d) : ∃ j, m = (ars L).drop j ∧ i ≤ j ∧ j ≤ L.length := by
  obtain ⟨_, n, e, hn⟩ := par_len h
  rw [List.length_drop, ars_len] at hn
  exact ⟨i + n, by rw [e, List.drop_drop], by omega, by omega⟩
theorem cons_pos {L : List S27} (h : Low L) {i : Nat} {a : Nat} {r : List Nat} (hi : (ars L).drop i = a :: r) : i < L.length ∧ a ≤ 8 ∧ (rd_T27 L i).f2 = (a : Int) ∧ r = (ars L).drop (i + 1) := by
  have hlt : i < L.length := by
    rcases Nat.lt_or_ge i L.length with h | h'
    · exact h
    · rw [drop_end i (by omega)] at hi; cases hi
  obtain ⟨b, hb, hr, hd⟩ := low_at h i hlt
  rw [hd] at hi
  injection hi with h1 h2
  subst h1
  exact ⟨hlt, hb, hr, h2.symm⟩
theorem mx_max (a b : Nat) : mx (a : Int) (b : Int) = ((max a b : Nat) : Int) := by
  unfold mx
  split <;> omega
theorem measure_par {L : List S27} (hL : Low L) {l : List Nat} {p : Nat} {e : List Nat} {d : Nat} (h : Par l p e d) :
    ∀ e0 e1 i0 dd j a : Nat, l = (ars L).drop e0 → e0 ≤ L.length → e = (ars L).drop e1 → e1 ≤ L.length → i0 < L.length → (rd_T27 L i0).f2 = (a : Int) → j + p = a → a ≤ 8 → dd + L.length ≤ 1000 + e0 →
      Ev (fun k => impl_measure.l0 k L i0 e0 dd j) ((e1 : Int), ((max dd d + 1 : Nat) : Int)) := by
  induction h with
  | nil l =>
    intro e0 e1 i0 dd j a hl h0 he h1 hi ha hj ha8 hdd
    have h60 := hL.1
    have : e0 = e1 := drop_inj h0 h1 (hl.symm.trans he)
    subst this
    apply Ev.succ
    simp only [impl_measure.l0, show (0 : Int) ≤ (i0 : Int) from by omega, show (i0 : Int) < (L.length : Int) from by omega, if_true, ha, show ¬ ((j : Int) < (a : Int)) from by omega, if_false]
    rw [wrap64_id (by omega) (by omega)]
    exact Ev.some (by simp)
  | cons b r m p e d1 d2 p1 p2 ih1 ih2 =>
    intro e0 e1 i0 dd j a hl h0 he h1 hi ha hj ha8 hdd
    have h60 := hL.1
    obtain ⟨hlt, hb8, hbr, hr⟩ := cons_pos hL hl.symm
    subst hr
    obtain ⟨j1, hm, hj1, hj1'⟩ := par_pos (by omega) p1
    have hd1 : d1 ≤ L.length - (e0 + 1) := par_depth p1 (by rw [List.length_drop, ars_len]; exact Nat.le_refl _)
    apply Ev.succ
    simp only [impl_measure.l0, show (0 : Int) ≤ (i0 : Int) from by omega, show (i0 : Int) < (L.length : Int) from by omega, if_true, ha, show ((j : Int) < (a : Int)) from by omega]
    refine Ev.bind (a := ((j1 : Int), ((max 0 d1 + 1 : Nat) : Int))) ?_ ?_
    · apply Ev.succ
      simp only [impl_measure.f, show ¬ ((e0 : Int) ≥ (L.length : Int)) from by omega, if_false]
      rw [wrap64_id (x := (e0 : Int) + 1) (by omega) (by omega)]
      have := ih1 (e0 + 1) j1 e0 0 0 b rfl (by omega) hm hj1' hlt hbr (by omega) hb8 (by omega)
      simpa using this
    · simp only [show ¬ ((j1 : Int) < 0) from by omega, if_false, mx_max]
      rw [wrap64_id (x := (j : Int) + 1) (by omega) (by omega)]
      have := ih2 j1 e1 i0 (max dd (max 0 d1 + 1)) (j + 1) a hm hj1' he h1 hi ha (by omega) ha8 (by omega)
      have e : max (max dd (max 0 d1 + 1)) d2 + 1 = max dd (max (d1 + 1) d2) + 1 := by omega
      rw [e] at this
      simpa using this
theorem measure_none {L : List S27} (hL : Low L) : ∀ (n e0 : Nat), L.length - e0 < n → e0 ≤ L.length → ∀ (q i0 dd j a : Nat), endL ((ars L).drop e0) q = none → i0 < L.length → (rd_T27 L i0).f2 = (a : Int) → j + q = a → a ≤ 8 → dd + L.length ≤ 1000 + e0 →
      Ev (fun k => impl_measure.l0 k L i0 e0 dd j) ((-1 : Int), (0 : Int))
  | 0, _, h, _, _, _, _, _, _, _, _, _, _, _, _ => by omega
  | n + 1, e0, h, h0, 0, i0, dd, j, a, hq, _, _, _, _, _ => by rw [endL_zero] at hq; cases hq
  | n + 1, e0, h, h0, q + 1, i0, dd, j, a, hq, hi, ha, hj, ha8, hdd => by
    have h60 := hL.1
    apply Ev.succ
    simp only [impl_measure.l0, show (0 : Int) ≤ (i0 : Int) from by omega, show (i0 : Int) < (L.length : Int) from by omega, if_true, ha, show ((j : Int) < (a : Int)) from by omega]
    by_cases hlt : e0 < L.length
    · obtain ⟨b, hb8, hbr, hd⟩ := low_at hL e0 hlt
      rw [hd] at hq
      simp only [endL] at hq
      rw [Nat.add_comm q b, endL_add] at hq
      rcases hm : endL ((ars L).drop (e0 + 1)) b with _ | m
      · refine Ev.bind (a := ((-1 : Int), (0 : Int))) ?_ (by simp only [show ((-1 : Int) < 0) from by omega, if_true]; exact Ev.some rfl)
        apply Ev.succ
        simp only [impl_measure.f, show ¬ ((e0 : Int) ≥ (L.length : Int)) from by omega, if_false]
        rw [wrap64_id (x := (e0 : Int) + 1) (by omega) (by omega)]
        have := measure_none hL n (e0 + 1) (by omega) (by omega) b e0 0 0 b hm hlt hbr (by omega) hb8 (by omega)
        simpa using this
      · rw [hm] at hq
        simp only [Option.bind_some] at hq
        obtain ⟨d1, p1⟩ := par_of_end _ _ _ _ (Nat.lt_succ_self _) hm
        obtain ⟨j1, hm1, hj1, hj1'⟩ := par_pos (by omega) p1
        have hd1 : d1 ≤ L.length - (e0 + 1) := par_depth p1 (by rw [List.length_drop, ars_len]; exact Nat.le_refl _)
        refine Ev.bind (a := ((j1 : Int), ((max 0 d1 + 1 : Nat) : Int))) ?_ ?_
        · apply Ev.succ
          simp only [impl_measure.f, show ¬ ((e0 : Int) ≥ (L.length : Int)) from by omega, if_false]
          rw [wrap64_id (x := (e0 : Int) + 1) (by omega) (by omega)]
          have := measure_par hL p1 (e0 + 1) j1 e0 0 0 b rfl (by omega) hm1 hj1' hlt hbr (by omega) hb8 (by omega)
          simpa using this
        · simp only [show ¬ ((j1 : Int) < 0) from by omega, if_false, mx_max]
          rw [wrap64_id (x := (j : Int) + 1) (by omega) (by omega)]
          rw [hm1] at hq
          have := measure_none hL n j1 (by omega) hj1' q i0 (max dd (max 0 d1 + 1)) (j + 1) a hq hi ha (by omega) ha8 (by omega)
          simpa using this
    · refine Ev.bind (a := ((-1 : Int), (0 : Int))) ?_ (by simp only [show ((-1 : Int) < 0) from by omega, if_true]; exact Ev.some rfl)
      apply Ev.succ
      simp only [impl_measure.f, show ((e0 : Int) ≥ (L.length : Int)) from by omega, if_true]
      exact Ev.some rfl
theorem measure_top {L : List S27} (hL : Low L) (h1 : 0 < L.length) {e : List Nat} {d : Nat} (h : Par (ars L) 1 e d) (e1 : Nat) (he : e = (ars L).drop e1) (he1 : e1 ≤ L.length) :
    Ev (fun k => impl_measure.f k L 0) ((e1 : Int), (d : Int)) := by
  have h60 := hL.1
  obtain ⟨b, hb8, hbr, hd⟩ := low_at hL 0 h1
  rw [List.drop_zero] at hd
  rw [hd] at h
  cases h with
  | cons a r m p e d1 d2 p1 p2 =>
    cases p2
    apply Ev.succ
    simp only [impl_measure.f, show ¬ ((0 : Int) ≥ (L.length : Int)) from by omega, if_false]
    rw [wrap64_id (x := (0 : Int) + 1) (by omega) (by omega)]
    have := measure_par hL p1 1 e1 0 0 0 b rfl (by omega) he he1 h1 hbr (by omega) hb8 (by omega)
    have e : max 0 d1 + 1 = max (d1 + 1) 0 := by omega
    rw [e] at this
    simpa using this
theorem measure_top_none {L : List S27} (hL : Low L) (h1 : 0 < L.length) (h : endL (ars L) 1 = none) : Ev (fun k => impl_measure.f k L 0) ((-1 : Int), (0 : Int)) := by
  have h60 := hL.1
  obtain ⟨b, hb8, hbr, hd⟩ := low_at hL 0 h1
  rw [List.drop_zero] at hd
  rw [hd] at h
  simp only [endL] at h
  apply Ev.succ
  simp only [impl_measure.f, show ¬ ((0 : Int) ≥ (L.length : Int)) from by omega, if_false]
  rw [wrap64_id (x := (0 : Int) + 1) (by omega) (by omega)]
  have := measure_none hL _ 1 (Nat.lt_succ_self _) (by omega) b 0 0 0 b (by simpa using h) h1 hbr (by omega) hb8 (by omega)
  simpa using this
def endI (L : List S27) : Option (List Nat) → Int
  | none => -1
  | some m => ((L.length - m.length : Nat) : Int)
theorem endI_drop (L : List S27) (j : Nat) (h : j ≤ L.length) : endI L (some ((ars L).drop j)) = (j : Int) := by
  simp only [endI, List.length_drop, ars_len]
  omega
theorem end_from {L : List S27} (hL : Low L) : ∀ (n i p : Nat), L.length - i < n → i ≤ L.length → p + 8 * (L.length - i) ≤ 2000 → Ev (fun k => spec_l5End.l0 k L i p) (endI L (endL ((ars L).drop i) p))
  | 0, _, _, h, _, _ => by omega
  | n + 1, i, p, h, hi, hp => by
    have h60 := hL.1
    apply Ev.succ
    simp only [spec_l5End.l0]
    by_cases hlt : i < L.length
    · obtain ⟨b, hb8, hbr, hd⟩ := low_at hL i hlt
      simp only [show ((i : Int) < (L.length : Int)) from by omega, if_true]
      cases p with
      | zero =>
        simp only [show ¬ (((0 : Nat) : Int) > 0) from by omega, if_false, endL_zero]
        exact Ev.some (endI_drop L i hi).symm
      | succ p =>
        simp only [show (((p + 1 : Nat) : Int) > 0) from by omega, if_true, show (0 : Int) ≤ (i : Int) from by omega, hbr]
        rw [wrap64_id (x := (i : Int) + 1) (by omega) (by omega), wrap64_id (x := ((p + 1 : Nat) : Int) - 1) (by omega) (by omega)]
        have e : mx 0 (b : Int) = (b : Int) := by unfold mx; split <;> omega
        rw [e, wrap64_id (by omega) (by omega), hd]
        have := end_from hL n (i + 1) (p + b) (by omega) (by omega) (by omega)
        have e1 : ((p + b : Nat) : Int) = ((p + 1 : Nat) : Int) - 1 + (b : Int) := by omega
        rw [e1] at this
        simpa [endL] using this
    · simp only [show ¬ ((i : Int) < (L.length : Int)) from by omega, if_false]
      rw [drop_end i hlt]
      cases p with
      | zero =>
        simp only [show ¬ (((0 : Nat) : Int) > 0) from by omega, if_false, endL_zero]
        exact Ev.some (by simp [endI]; omega)
      | succ p =>
        simp only [show (((p + 1 : Nat) : Int) > 0) from by omega, if_true]
        exact Ev.some rfl
theorem end_spec {L : List S27} (hL : Low L) (i : Nat) (hi : i ≤ L.length) : Ev (fun k => spec_l5End.f k L i) (endI L (endL ((ars L).drop i) 1)) := by
  have h60 := hL.1
  simp only [spec_l5End.f]
  exact end_from hL _ i 1 (Nat.lt_succ_self _) hi (by omega)
theorem depth_par {L : List S27} (hL : Low L) {l : List Nat} {p : Nat} {e : List Nat} {d : Nat} (h : Par l p e d) :
    ∀ e0 : Nat, l = (ars L).drop e0 → e0 ≤ L.length → ∃ ks : List Int, ks.length = p ∧
      (∀ (i0 j a : Nat) (acc : List Int), i0 < L.length → (rd_T27 L i0).f2 = (a : Int) → j + p = a → a ≤ 8 → acc.length = j → Ev (fun k => spec_l5Kids.l0 k L i0 acc e0 j) (acc ++ ks)) ∧
      (∀ (pre : List Int) (dd : Nat), pre.length + p ≤ 8 → dd ≤ 1000 → Ev (fun k => spec_l5Depth.l0 k L dd (pre ++ ks) pre.length) ((max dd d + 1 : Nat) : Int)) ∧ d ≤ L.length - e0 := by
  induction h with
  | nil l =>
    intro e0 hl h0
    have h60 := hL.1
    refine ⟨[], rfl, ?_, ?_, by omega⟩
    · intro i0 j a acc hi ha hj ha8 hacc
      apply Ev.succ
      simp only [spec_l5Kids.l0, show (0 : Int) ≤ (i0 : Int) from by omega, show (i0 : Int) < (L.length : Int) from by omega, if_true, ha, show ¬ ((j : Int) < (a : Int)) from by omega, if_false]
      exact Ev.some (by simp)
    · intro pre dd hp hdd
      apply Ev.succ
      simp only [spec_l5Depth.l0, List.append_nil, show ¬ ((pre.length : Int) < (pre.length : Int)) from by omega, if_false]
      rw [wrap64_id (by omega) (by omega)]
      exact Ev.some (by simp)
  | cons b r m p e d1 d2 p1 p2 ih1 ih2 =>
    intro e0 hl h0
    have h60 := hL.1
    obtain ⟨hlt, hb8, hbr, hr⟩ := cons_pos hL hl.symm
    subst hr
    obtain ⟨j1, hm, hj1, hj1'⟩ := par_pos (by omega) p1
    obtain ⟨ks1, hk1, kids1, dep1, hd1⟩ := ih1 (e0 + 1) rfl (by omega)
    obtain ⟨ks2, hk2, kids2, dep2, hd2⟩ := ih2 j1 hm hj1'
    refine ⟨(e0 : Int) :: ks2, by simp [hk2], ?_, ?_, by omega⟩
    · intro i0 j a acc hi ha hj ha8 hacc
      apply Ev.succ
      simp only [spec_l5Kids.l0, show (0 : Int) ≤ (i0 : Int) from by omega, show (i0 : Int) < (L.length : Int) from by omega, if_true, ha, show ((j : Int) < (a : Int)) from by omega, show acc.length < 17592186044416 from by omega]
      have hend := end_spec hL e0 h0
      rw [← hl] at hend
      simp only [endL, Nat.zero_add] at hend
      rw [end_of_par p1, hm, endI_drop L j1 hj1'] at hend
      refine Ev.bind hend ?_
      rw [wrap64_id (x := (j : Int) + 1) (by omega) (by omega)]
      have := kids2 i0 (j + 1) a (acc ++ [(e0 : Int)]) hi ha (by omega) ha8 (by simp [hacc])
      rw [List.append_assoc] at this
      simpa using this
    · intro pre dd hp hdd
      apply Ev.succ
      simp only [spec_l5Depth.l0, List.length_append, List.length_cons, show ((pre.length : Int) < ((pre.length + (ks2.length + 1) : Nat) : Int)) from by omega, if_true, show (0 : Int) ≤ (pre.length : Int) from by omega]
      have erd : rd (pre ++ (e0 : Int) :: ks2) (pre.length : Int) = (e0 : Int) := by
        unfold rd
        rw [show ((pre.length : Int)).toNat = pre.length from by omega, List.getD_eq_getElem?_getD, List.getElem?_append_right (Nat.le_refl _)]
        simp
      rw [erd]
      refine Ev.bind (a := ((d1 + 1 : Nat) : Int)) ?_ ?_
      · apply Ev.succ
        simp only [spec_l5Depth.f]
        refine Ev.bind (a := ks1) ?_ ?_
        · simp only [spec_l5Kids.f]
          rw [wrap64_id (x := (e0 : Int) + 1) (by omega) (by omega)]
          have := kids1 e0 0 b [] hlt hbr (by omega) hb8 rfl
          simpa using this
        · have := dep1 [] 0 (by simp; omega) (by omega)
          simpa using this
      · rw [mx_max, wrap64_id (x := (pre.length : Int) + 1) (by omega) (by omega)]
        have := dep2 (pre ++ [(e0 : Int)]) (max dd (d1 + 1)) (by simp; omega) (by omega)
        rw [List.append_assoc] at this
        have e : max (max dd (d1 + 1)) d2 + 1 = max dd (max (d1 + 1) d2) + 1 := by omega
        rw [e] at this
        simpa using this
theorem depth_top {L : List S27} (hL : Low L) (h1 : 0 < L.length) {e : List Nat} {d : Nat} (h : Par (ars L) 1 e d) : Ev (fun k => spec_l5Depth.f k L 0) (d : Int) := by
  have h60 := hL.1
  obtain ⟨b, hb8, hbr, hd⟩ := low_at hL 0 h1
  rw [List.drop_zero] at hd
  rw [hd] at h
  cases h with
  | cons a r m p e d1 d2 p1 p2 =>
    cases p2
    obtain ⟨ks1, hk1, kids1, dep1, hd1⟩ := depth_par hL p1 1 rfl (by omega)
    apply Ev.succ
    simp only [spec_l5Depth.f]
    refine Ev.bind (a := ks1) ?_ ?_
    · simp only [spec_l5Kids.f]
      rw [wrap64_id (x := (0 : Int) + 1) (by omega) (by omega)]
      have := kids1 0 0 b [] h1 hbr (by omega) hb8 rfl
      simpa using this
    · have := dep1 [] 0 (by simp; omega) (by omega)
      have e : max 0 d1 + 1 = max (d1 + 1) 0 := by omega
      rw [e] at this
      simpa using this
theorem tree_both {L M : List S27} (hL : Low L) (hM : Low M) (hA : ars M = ars L) (h1 : 0 < L.length) : ∃ b : Bool, (b = true ↔ ∃ d, Par (ars L) 1 [] d ∧ d ≤ 12) ∧ Ev (fun k => impl_treeValid.f k L) b ∧
    Ev (fun k => (spec_l5End.f k M 0).bind fun t181 => (if t181 = (M.length : Int) then ((spec_l5Depth.f k M 0).bind fun t182 => (some (decide (t182 ≤ 12)))) else (some false))) b := by
  have h60 := hL.1
  have hlen : M.length = L.length := by rw [← ars_len M, hA, ars_len]
  have hend := end_spec hM 0 (by omega)
  rw [List.drop_zero, hA] at hend
  have hin : (decide ((1 : Int) ≤ (L.length : Int) ∧ (L.length : Int) ≤ 60)) = true := by simp only [decide_eq_true_eq]; omega
  simp only [impl_treeValid.f, in_impl, hin, Option.bind_some, if_true, hlen]
  rcases he : endL (ars L) 1 with _ | m
  · rw [he] at hend
    refine ⟨false, ⟨fun h => (by cases h), fun ⟨d, hp, _⟩ => by rw [end_of_par hp] at he; cases he⟩, Ev.bind (measure_top_none hL h1 he) ?_, Ev.bind hend ?_⟩
    · simp only [show ¬ ((-1 : Int) = (L.length : Int)) from by omega, if_false]
      exact Ev.some rfl
    · simp only [endI, show ¬ ((-1 : Int) = (L.length : Int)) from by omega, if_false]
      exact Ev.some rfl
  · rw [he] at hend
    obtain ⟨d, hp⟩ := par_of_end _ _ _ _ (Nat.lt_succ_self _) he
    obtain ⟨j, hm, _, hj⟩ := par_pos (L := L) (i := 0) (by omega) (by rw [List.drop_zero]; exact hp)
    have hm' := hm
    rw [← hA] at hm'
    rw [hm', endI_drop M j (by omega)] at hend
    have hme := measure_top hL h1 hp j hm hj
    have hdep := depth_top hM (by omega) (by rw [hA]; exact hp)
    by_cases hjl : j = L.length
    · refine ⟨decide ((d : Int) ≤ 12), ?_, Ev.bind hme ?_, Ev.bind hend ?_⟩
      · have hp' : Par (ars L) 1 [] d := by rw [hm, drop_end j (by omega)] at hp; exact hp
        simp only [decide_eq_true_eq]
        exact ⟨fun h => ⟨d, hp', by omega⟩, fun ⟨d', h', hd'⟩ => by have := (par_det hp' h').2; omega⟩
      · simp only [show ((j : Int) = (L.length : Int)) from by omega, if_true]
        exact Ev.some rfl
      · simp only [show ((j : Int) = (L.length : Int)) from by omega, if_true]
        exact Ev.bind hdep (Ev.some rfl)
    · refine ⟨false, ⟨fun h => (by cases h), fun ⟨d', h', _⟩ => ?_⟩, Ev.bind hme ?_, Ev.bind hend ?_⟩
      · exfalso
        have := congrArg List.length ((par_det hp h').1)
        rw [hm, List.length_drop, ars_len] at this
        simp at this
        omega
      · simp only [show ¬ ((j : Int) = (L.length : Int)) from by omega, if_false]
        exact Ev.some rfl
      · simp only [show ¬ ((j : Int) = (L.length : Int)) from by omega, if_false]
        exact Ev.some rfl
end Go.Proofs.YtjdlepjgniokdaaGreatDoor.Pure

end
section

namespace Go.Proofs.YtjdlepjgniokdaaGreatDoor.Pure
open Go.RowKit Go.Proofs.YtjdlepjgniokdaaGreatDoor.PA Go.Proofs.YtjdlepjgniokdaaGreatDoorW.PrintWords Go.Proofs.YtjdlepjgniokdaaGreatDoorW.PrintMore Go.Proofs.YtjdlepjgniokdaaGreatDoor.Base
set_option linter.unusedVariables false
set_option linter.unusedSimpArgs false
def boolText (s : ByteArray) : Bool := (s.toList == ([116, 114, 117, 101] : List UInt8)) || (s.toList == ([102, 97, 108, 115, 101] : List UInt8))
def kindOk (c : S27) : Bool := if c.f0 = 1 then (readF c.f1).2.2 else (c.f0 == 2 || c.f0 == 3 || c.f0 == 5)
def restOk (c : S27) : Bool :=
  if c.f0 = 1 then c.f2 == 0 else if c.f0 = 2 then textOk c.f1 && (decide (c.f1.size ≤ 60) && c.f2 == 0) else if c.f0 = 3 then boolText c.f1 && c.f2 == 0 else c.f1.toList == ([] : List UInt8) && decide (0 ≤ c.f2 ∧ c.f2 ≤ 8)
def cellOk (c : S27) : Bool := kindOk c && restOk c
def md (c : S27) : S27 := if c.f0 = 1 then ⟨c.f0, ⟨#[48]⟩, c.f2⟩ else c
def Small (c : S27) : Prop := c.f1.size ≤ 140737488351232
theorem read_zero : readF ⟨#[48]⟩ = (0, 1, true) := by
  have h1 : itoaB 0 = ⟨#[48]⟩ := by
    unfold itoaB
    have : Go.Lib.itoa ((0 : Nat) : Int) = [48] := by
      unfold Go.Lib.itoa
      rw [if_neg (by omega)]
      exact Go.Lib.decDigits_one (by decide)
    rw [this]
  have h2 : fracText 0 1 = ⟨#[48]⟩ := by
    unfold fracText
    rw [if_pos (by decide)]
    have e : bodyT (if (0 : Int) < 0 then ⟨#[45]⟩ else ⟨#[]⟩) (0 : Int).natAbs (1 : Int).toNat = (⟨#[]⟩ : ByteArray) ++ itoaB 0 := by
      rw [if_neg (by omega)]
      rfl
    rw [e, h1]
    rfl
  have h3 : isNeg ⟨#[48]⟩ = false := by decide
  unfold readF bodyS
  rw [h3]
  simp only [Bool.false_eq_true, if_false]
  unfold readX
  have hb : bs ⟨#[48]⟩ = [48] := rfl
  have h4 : fore 47 [48] = [48] := by decide
  have h5 : decP [48] = (0, 1, true) := by
    have e1 : fore 46 [48] = [48] := by decide
    unfold decP
    rw [e1, if_pos (by decide)]
    have e2 : decB [48] (([48] : List UInt8).drop ([48] : List UInt8).length) = makeP 0 1 := rfl
    rw [e2]
    unfold makeP
    have e3 : Int.gcd 0 1 = 1 := by decide
    rw [e3, if_pos (by decide)]
    rfl
  rw [hb, h4, h5, if_neg (by decide), if_pos rfl]
  unfold finF sg
  simp only [Bool.false_eq_true, if_false]
  rw [h2]
  have hne : ¬ ((⟨#[48]⟩ : ByteArray).toList = ([] : List UInt8)) := by rw [toList_nil]; decide
  rw [if_neg hne, if_pos rfl]
theorem cell_impl (c : S27) (hs : Small c) : Ev (fun k => impl_valueCell.f k c.f0 c.f1 c.f2) (cellOk c) := by
  unfold cellOk kindOk restOk
  simp only [impl_valueCell.f, impl_CellValid.f, in_impl]
  by_cases h1 : c.f0 = 1
  · simp only [h1, if_true]
    refine Ev.bind (read_impl c.f1 hs) ?_
    by_cases h : (readF c.f1).2.2 = true
    · simp only [h, if_true]; exact Ev.some (by simp)
    · simp only [h, if_false]; exact Ev.some (by simp at h; simp [h])
  · simp only [h1, if_false]
    by_cases h2 : c.f0 = 2
    · simp only [h2, if_true, show ¬ ((2 : Int) = 1) from by omega, if_false]
      refine Ev.bind (a := textOk c.f1 && (decide (c.f1.size ≤ 60) && c.f2 == 0)) ?_ (Ev.some (by simp))
      refine Ev.bind (tv_impl c.f1 hs) ?_
      by_cases ht : textOk c.f1 = true
      · simp only [ht, if_true]
        by_cases h60 : c.f1.size ≤ 60
        · simp only [show ((c.f1.size : Int) ≤ 60) from by omega, if_true]; exact Ev.some (by simp [h60])
        · simp only [show ¬ ((c.f1.size : Int) ≤ 60) from by omega, if_false]; exact Ev.some (by simp [h60])
      · simp only [ht, if_false]; exact Ev.some (by simp at ht; simp [ht])
    · simp only [h2, if_false]
      by_cases h3 : c.f0 = 3
      · simp only [h3, if_true, show ¬ ((3 : Int) = 1) from by omega, show ¬ ((3 : Int) = 2) from by omega, if_false, boolText]
        by_cases ha : c.f1.toList = ([116, 114, 117, 101] : List UInt8)
        · simp only [ha, if_true, Option.bind_some]; exact Ev.some (by simp)
        · by_cases hb : c.f1.toList = ([102, 97, 108, 115, 101] : List UInt8)
          · simp only [hb, if_true, ha, if_false, Option.bind_some, show ¬ (([102, 97, 108, 115, 101] : List UInt8) = [116, 114, 117, 101]) from by decide]; exact Ev.some (by simp)
          · simp only [ha, hb, if_false, Option.bind_some]; exact Ev.some (by simp [ha, hb])
      · simp only [h3, if_false]
        by_cases h5 : c.f0 = 5
        · simp only [h5, if_true, show ¬ ((5 : Int) = 1) from by omega, show ¬ ((5 : Int) = 2) from by omega, show ¬ ((5 : Int) = 3) from by omega, show ¬ ((5 : Int) = 4) from by omega, if_false]
          by_cases ha : c.f1.toList = ([] : List UInt8)
          · simp only [ha, if_true, Option.bind_some]; exact Ev.some (by simp)
          · simp only [ha, if_false, Option.bind_some]; exact Ev.some (by simp [ha])
        · simp only [h5, if_false]; exact Ev.some (by simp [h2, h3, h5])
theorem cell_spec (c : S27) (hs : Small c) (hk : kindOk c = true) : Ev (fun k => spec_CellValid.f k (md c).f0 (md c).f1 (md c).f2) (restOk c) := by
  unfold restOk
  simp only [spec_CellValid.f, in_spec]
  by_cases h1 : c.f0 = 1
  · have e : md c = ⟨1, ⟨#[48]⟩, c.f2⟩ := by unfold md; rw [if_pos h1, h1]
    simp only [e, h1, if_true]
    refine Ev.bind (read_spec ⟨#[48]⟩ (by decide)) ?_
    rw [read_zero]
    simp only [if_true, show ((0 : Int) ≥ 0) from by omega, show ¬ ((1 : Int) = 0) from by omega, if_false, show ((1000000 : Int) % 1 = 0) from by decide]
    exact Ev.some rfl
  · have e : md c = c := by unfold md; rw [if_neg h1]
    rw [e]
    simp only [h1, if_false]
    by_cases h2 : c.f0 = 2
    · simp only [h2, if_true, show ¬ ((2 : Int) = 1) from by omega, if_false]
      refine Ev.bind (tv_spec c.f1 hs) ?_
      by_cases ht : textOk c.f1 = true
      · simp only [ht, if_true]
        by_cases h60 : c.f1.size ≤ 60
        · simp only [show ((c.f1.size : Int) ≤ 60) from by omega, if_true]; exact Ev.some (by simp [h60])
        · simp only [show ¬ ((c.f1.size : Int) ≤ 60) from by omega, if_false]; exact Ev.some (by simp [h60])
      · simp only [ht, if_false]; exact Ev.some (by simp at ht; simp [ht])
    · simp only [h2, if_false]
      by_cases h3 : c.f0 = 3
      · simp only [h3, if_true, show ¬ ((3 : Int) = 1) from by omega, show ¬ ((3 : Int) = 2) from by omega, if_false, boolText]
        by_cases ha : c.f1.toList = ([116, 114, 117, 101] : List UInt8)
        · simp only [ha, if_true]; exact Ev.some (by simp)
        · by_cases hb : c.f1.toList = ([102, 97, 108, 115, 101] : List UInt8)
          · simp only [hb, if_true, ha, if_false, show ¬ (([102, 97, 108, 115, 101] : List UInt8) = [116, 114, 117, 101]) from by decide]; exact Ev.some (by simp)
          · simp only [ha, hb, if_false]; exact Ev.some (by simp [ha, hb])
      · have h5 : c.f0 = 5 := by
          unfold kindOk at hk
          rw [if_neg h1] at hk
          simp [h2, h3] at hk
          exact hk
        simp only [h5, if_true, show ¬ ((5 : Int) = 1) from by omega, show ¬ ((5 : Int) = 2) from by omega, show ¬ ((5 : Int) = 3) from by omega, show ¬ ((5 : Int) = 4) from by omega, if_false]
        by_cases ha : c.f1.toList = ([] : List UInt8)
        · simp only [ha, if_true, Option.bind_some]; exact Ev.some (by simp)
        · simp only [ha, if_false]; exact Ev.some (by simp [ha])
theorem take_snoc {α : Type} (l : List α) (i : Nat) (h : i < l.length) : l.take (i + 1) = l.take i ++ [l[i]] := by
  rw [List.take_add_one, List.getElem?_eq_getElem h]
  rfl
theorem rd_at (l : List S27) (i : Nat) (h : i < l.length) : rd_T27 l (i : Int) = l[i] := by
  unfold rd_T27
  rw [List.getD_eq_getElem?_getD, show ((i : Int)).toNat = i from by omega, List.getElem?_eq_getElem h]
  rfl
theorem rest_low (c : S27) (h : cellOk c = true) : 0 ≤ c.f2 ∧ c.f2 ≤ 8 := by
  unfold cellOk at h
  rw [Bool.and_eq_true] at h
  have h' := h.2
  unfold restOk at h'
  split at h'
  · simp at h'; omega
  · split at h'
    · simp at h'; omega
    · split at h'
      · simp at h'; omega
      · simp at h'; omega
theorem impl_loop (l : List S27) (hl : l.length ≤ 1048576) (hs : ∀ c ∈ l, Small c) (b : Bool) (hb : l.all cellOk = true → Ev (fun k => impl_treeValid.f k l) b) : ∀ (d i : Nat), i + d = l.length → (l.take i).all cellOk = true →
    Ev (fun k => impl_ValueValid.l0 k l l (l.length : Int) i) (l.all cellOk && b)
  | 0, i, hi, ht => by
    have hall : l.all cellOk = true := by rw [List.take_of_length_le (by omega)] at ht; exact ht
    apply Ev.succ
    simp only [impl_ValueValid.l0, show ¬ ((i : Int) < (l.length : Int)) from by omega, if_false]
    refine Ev.bind (hb hall) (Ev.some ?_)
    rw [hall, Bool.true_and]
  | d + 1, i, hi, ht => by
    have hlt : i < l.length := by omega
    apply Ev.succ
    simp only [impl_ValueValid.l0, show ((i : Int) < (l.length : Int)) from by omega, show (0 : Int) ≤ (i : Int) from by omega, if_true, rd_at l i hlt]
    refine Ev.bind (cell_impl l[i] (hs _ (List.getElem_mem hlt))) ?_
    by_cases hc : cellOk l[i] = true
    · simp only [hc, if_true]
      rw [wrap64_id (by omega) (by omega)]
      have := impl_loop l hl hs b hb d (i + 1) (by omega) (by rw [take_snoc l i hlt, List.all_append, ht]; simp [hc])
      simpa using this
    · simp only [hc, if_false]
      apply Ev.some
      have : l.all cellOk = false := by
        rw [Bool.eq_false_iff]
        intro h
        exact hc ((List.all_eq_true.1 h) _ (List.getElem_mem hlt))
      rw [this, Bool.false_and]
theorem expr_loop (l : List S27) (hl : l.length ≤ 1048576) (hs : ∀ c ∈ l, Small c) (hk : l.all kindOk = true) (b : Bool)
    (hb : l.all cellOk = true → Ev (fun k => (spec_l1In.f ((l.map md).length : Int) 1 60).bind fun t180 => (if t180 = true then ((spec_l5End.f k (l.map md) 0).bind fun t181 => (if t181 = ((l.map md).length : Int) then ((spec_l5Depth.f k (l.map md) 0).bind fun t182 => (some (decide (t182 ≤ 12)))) else (some false))) else (some false))) b) :
    ∀ (d i : Nat), i + d = l.length → (l.take i).all cellOk = true → Ev (fun k => spec_ExprValid.l0 k (l.map md) i) (l.all cellOk && b)
  | 0, i, hi, ht => by
    have hall : l.all cellOk = true := by rw [List.take_of_length_le (by omega)] at ht; exact ht
    apply Ev.succ
    simp only [spec_ExprValid.l0, show ¬ ((i : Int) < ((l.map md).length : Int)) from by rw [List.length_map]; omega, if_false]
    rw [hall, Bool.true_and]
    exact hb hall
  | d + 1, i, hi, ht => by
    have hlt : i < l.length := by omega
    have hlt' : i < (l.map md).length := by rw [List.length_map]; exact hlt
    apply Ev.succ
    simp only [spec_ExprValid.l0, show ((i : Int) < ((l.map md).length : Int)) from by omega, show (0 : Int) ≤ (i : Int) from by omega, if_true, rd_at (l.map md) i hlt', List.getElem_map]
    have hki : kindOk l[i] = true := (List.all_eq_true.1 hk) _ (List.getElem_mem hlt)
    refine Ev.bind (cell_spec l[i] (hs _ (List.getElem_mem hlt)) hki) ?_
    by_cases hc : restOk l[i] = true
    · simp only [hc, if_true]
      rw [wrap64_id (by omega) (by omega)]
      have := expr_loop l hl hs hk b hb d (i + 1) (by omega) (by rw [take_snoc l i hlt, List.all_append, ht]; simp [cellOk, hki, hc])
      simpa using this
    · simp only [hc, if_false]
      apply Ev.some
      have : l.all cellOk = false := by
        rw [Bool.eq_false_iff]
        intro h
        have := (List.all_eq_true.1 h) _ (List.getElem_mem hlt)
        unfold cellOk at this
        rw [Bool.and_eq_true] at this
        exact hc this.2
      rw [this, Bool.false_and]
theorem mixed_len (l : List S27) (i : Nat) : ((l.take i).map md ++ l.drop i).length = l.length := by
  simp; omega
theorem mixed_at (l : List S27) (i : Nat) (h : i < l.length) : rd_T27 ((l.take i).map md ++ l.drop i) (i : Int) = l[i] := by
  rw [rd_at _ _ (by rw [mixed_len]; exact h)]
  rw [List.getElem_append_right (by simp; omega)]
  simp
  congr 1
  omega
theorem mixed_set (l : List S27) (i : Nat) (h : i < l.length) : ((l.take i).map md ++ l.drop i).set i (md l[i]) = (l.take (i + 1)).map md ++ l.drop (i + 1) := by
  rw [List.drop_eq_getElem_cons h, List.set_append_right _ _ (by simp; omega), take_snoc l i h]
  have : i - ((l.take i).map md).length = 0 := by simp; omega
  rw [this]
  simp only [List.set_cons_zero, List.map_append, List.map_cons, List.map_nil, List.append_assoc, List.cons_append, List.nil_append]
theorem spec_loop (l : List S27) (hl : l.length ≤ 1048576) (hs : ∀ c ∈ l, Small c) (b : Bool)
    (hb : l.all kindOk = true → Ev (fun k => spec_ExprValid.f k (l.map md)) b) : ∀ (d i : Nat), i + d = l.length → (l.take i).all kindOk = true →
    Ev (fun k => spec_ValueValid.l0 k l ((l.take i).map md ++ l.drop i) i) (l.all kindOk && b)
  | 0, i, hi, ht => by
    have hall : l.all kindOk = true := by rw [List.take_of_length_le (by omega)] at ht; exact ht
    apply Ev.succ
    simp only [spec_ValueValid.l0, show ¬ ((i : Int) < (l.length : Int)) from by omega, if_false]
    rw [hall, Bool.true_and, List.take_of_length_le (by omega), List.drop_of_length_le (by omega), List.append_nil]
    exact Ev.bind (hb hall) (Ev.some rfl)
  | d + 1, i, hi, ht => by
    have hlt : i < l.length := by omega
    have hmem := List.getElem_mem hlt
    have next : kindOk l[i] = true → Ev (fun k => spec_ValueValid.l0 k l ((l.take (i + 1)).map md ++ l.drop (i + 1)) (wrap64 ((i : Int) + 1))) (l.all kindOk && b) := by
      intro hc
      rw [wrap64_id (by omega) (by omega)]
      have := spec_loop l hl hs b hb d (i + 1) (by omega) (by rw [take_snoc l i hlt, List.all_append, ht]; simp [hc])
      simpa using this
    have stop : kindOk l[i] = false → (l.all kindOk && b) = false := by
      intro hc
      have : l.all kindOk = false := by
        rw [Bool.eq_false_iff]
        intro h
        have := (List.all_eq_true.1 h) _ hmem
        rw [hc] at this
        cases this
      rw [this, Bool.false_and]
    apply Ev.succ
    simp only [spec_ValueValid.l0, show ((i : Int) < (l.length : Int)) from by omega, show (0 : Int) ≤ (i : Int) from by omega, if_true, rd_at l i hlt, mixed_len, mixed_at l i hlt, show ((i : Int)).toNat = i from by omega]
    by_cases h1 : l[i].f0 = 1
    · simp only [h1, if_true]
      refine Ev.bind (read_spec l[i].f1 (hs _ hmem)) ?_
      have hk : kindOk l[i] = (readF l[i].f1).2.2 := by unfold kindOk; rw [if_pos h1]
      by_cases h : (readF l[i].f1).2.2 = true
      · simp only [h, if_true]
        have e : (⟨1, ⟨#[48]⟩, l[i].f2⟩ : S27) = md l[i] := by unfold md; rw [if_pos h1, h1]
        rw [e, mixed_set l i hlt]
        exact next (by rw [hk]; exact h)
      · simp only [h, if_false]
        exact Ev.some (stop (by rw [hk]; simpa using h)).symm
    · have hm : md l[i] = l[i] := by unfold md; rw [if_neg h1]
      have hset : (l.take i).map md ++ l.drop i = (l.take (i + 1)).map md ++ l.drop (i + 1) := by
        rw [List.drop_eq_getElem_cons hlt, take_snoc l i hlt]
        simp only [hm, List.map_append, List.map_cons, List.map_nil, List.append_assoc, List.cons_append, List.nil_append]
      have hk : kindOk l[i] = (l[i].f0 == 2 || l[i].f0 == 3 || l[i].f0 == 5) := by unfold kindOk; rw [if_neg h1]
      simp only [h1, if_false]
      by_cases h2 : l[i].f0 = 2
      · simp only [h2, if_true]
        rw [hset]
        exact next (by rw [hk]; simp [h2])
      · simp only [h2, if_false]
        by_cases h3 : l[i].f0 = 3
        · simp only [h3, if_true]
          rw [hset]
          exact next (by rw [hk]; simp [h3])
        · simp only [h3, if_false]
          by_cases h5 : l[i].f0 = 5
          · simp only [h5, if_true]
            rw [hset]
            exact next (by rw [hk]; simp [h5])
          · simp only [h5, if_false]
            exact Ev.some (stop (by rw [hk]; simp [h2, h3, h5])).symm
theorem all_kind {l : List S27} (h : l.all cellOk = true) : l.all kindOk = true := by
  rw [List.all_eq_true] at h ⊢
  intro c hc
  have := h c hc
  unfold cellOk at this
  rw [Bool.and_eq_true] at this
  exact this.1
theorem md_f2 (c : S27) : (md c).f2 = c.f2 := by
  unfold md
  split <;> rfl
theorem low_of {l : List S27} (h : l.all cellOk = true) (h60 : l.length ≤ 60) : Low l ∧ Low (l.map md) ∧ ars (l.map md) = ars l := by
  rw [List.all_eq_true] at h
  refine ⟨⟨h60, fun c hc => rest_low c (h c hc)⟩, ⟨by simpa using h60, ?_⟩, ?_⟩
  · intro c hc
    obtain ⟨c', hc', rfl⟩ := List.mem_map.1 hc
    rw [md_f2]
    exact rest_low c' (h c' hc')
  · unfold ars
    rw [List.map_map]
    apply List.map_congr_left
    intro c _
    simp [md_f2]
def ValueOk (l : List S27) : Prop := (1 ≤ l.length ∧ l.length ≤ 60) ∧ l.all cellOk = true ∧ ∃ d, Par (ars l) 1 [] d ∧ d ≤ 12
theorem value_both (l : List S27) (hl : l.length ≤ 1048576) (hs : ∀ c ∈ l, Small c) : ∃ b : Bool, (b = true ↔ ValueOk l) ∧ Ev (fun k => spec_ValueValid.f k l) b ∧ Ev (fun k => impl_ValueValid.f k l) b := by
  have hin : ∀ n : Nat, decide ((1 : Int) ≤ (n : Int) ∧ (n : Int) ≤ 60) = decide (1 ≤ n ∧ n ≤ 60) := fun n => decide_eq_decide.2 (by omega)
  simp only [spec_ValueValid.f, impl_ValueValid.f, in_impl, hin, Option.bind_some, List.nil_append, List.length_nil, Nat.zero_add, show l.length < 4398046511104 from by omega, if_true]
  have spec0 : ∀ b, (l.all kindOk = true → Ev (fun k => spec_ExprValid.f k (l.map md)) b) → Ev (fun k => spec_ValueValid.l0 k l l 0) (l.all kindOk && b) := by
    intro b hb
    have := spec_loop l hl hs b hb l.length 0 (by omega) (by simp)
    simpa using this
  have expr0 : ∀ b, l.all kindOk = true → _ → Ev (fun k => spec_ExprValid.f k (l.map md)) (l.all cellOk && b) := fun b hk hb => by
    have := expr_loop l hl hs hk b hb l.length 0 (by omega) (by simp)
    simpa [spec_ExprValid.f] using this
  have impl0 : ∀ b, (l.all cellOk = true → Ev (fun k => impl_treeValid.f k l) b) → Ev (fun k => impl_ValueValid.l0 k l l (l.length : Int) 0) (l.all cellOk && b) := by
    intro b hb
    have := impl_loop l hl hs b hb l.length 0 (by omega) (by simp)
    simpa using this
  have join : ∀ b, (l.all kindOk && (l.all cellOk && b)) = (l.all cellOk && b) := by
    intro b
    by_cases h : l.all cellOk = true
    · rw [all_kind h, Bool.true_and]
    · simp only [Bool.not_eq_true] at h
      rw [h]; simp
  by_cases h60 : 1 ≤ l.length ∧ l.length ≤ 60
  · simp only [h60, and_self, decide_true, if_true]
    by_cases hc : l.all cellOk = true
    · obtain ⟨hL, hM, hA⟩ := low_of hc h60.2
      obtain ⟨b, hiff, hi, hsp⟩ := tree_both hL hM hA (by omega)
      refine ⟨l.all cellOk && b, ?_, ?_, impl0 b fun _ => hi⟩
      · rw [hc, Bool.true_and, hiff]
        exact ⟨fun h => ⟨h60, hc, h⟩, fun h => h.2.2⟩
      rw [← join]
      refine spec0 _ fun hk => expr0 b hk fun _ => ?_
      rw [in_spec, hin, List.length_map]
      simp only [h60, and_self, decide_true, Option.bind_some, if_true]
      rw [List.length_map] at hsp
      exact hsp
    · refine ⟨l.all cellOk && false, ?_, ?_, impl0 false fun h => absurd h hc⟩
      · rw [Bool.and_false]
        exact ⟨fun h => (by cases h), fun h => absurd h.2.1 hc⟩
      rw [← join]
      exact spec0 _ fun hk => expr0 false hk fun h => absurd h hc
  · simp only [h60, decide_false, Bool.false_eq_true, if_false]
    refine ⟨false, ⟨fun h => (by cases h), fun h => absurd h.1 h60⟩, ?_, Ev.some rfl⟩
    have e : (l.all kindOk && (l.all cellOk && false)) = false := by simp
    rw [← e]
    refine spec0 _ fun hk => expr0 false hk fun _ => ?_
    rw [in_spec, hin, List.length_map]
    simp only [h60, decide_false, Option.bind_some, Bool.false_eq_true, if_false]
    exact Ev.some rfl
end Go.Proofs.YtjdlepjgniokdaaGreatDoor.Pure

end
section

namespace Go.Proofs.YtjdlepjgniokdaaGreatDoor.Pure
open Go.RowKit Go.Proofs.YtjdlepjgniokdaaGreatDoor.PA Go.Proofs.YtjdlepjgniokdaaGreatDoorW.PrintWords Go.Proofs.YtjdlepjgniokdaaGreatDoorW.PrintMore Go.Proofs.YtjdlepjgniokdaaGreatDoor.Base
set_option linter.unusedVariables false
set_option linter.unusedSimpArgs false
theorem rd_mem (xs : List Int) (i : Int) (h0 : 0 ≤ i) (h1 : i < (xs.length : Int)) : rd xs i ∈ xs := by
  unfold rd
  rw [List.getD_eq_getElem?_getD, List.getElem?_eq_getElem (show i.toNat < xs.length by omega)]
  exact List.getElem_mem _
theorem rdOf_in {α : Type} (d : α) (xs : List α) (i : Int) (h0 : 0 ≤ i) (h1 : i < (xs.length : Int)) : rdOf d xs i ∈ xs := by
  unfold rdOf
  rw [List.getD_eq_getElem?_getD, List.getElem?_eq_getElem (show i.toNat < xs.length by omega)]
  exact List.getElem_mem _
theorem tail_size (b : Nat) (hb : 1 ≤ b) (hb' : b ≤ 1000000) : ∀ (d : Nat) (acc : ByteArray) (x : Nat), x < b → (tailT d acc x b).size ≤ acc.size + 21 * d
  | 0, acc, x, _ => by simp [tailT]
  | d + 1, acc, x, hx => by
    unfold tailT
    split
    · have hq : 10 * x / b ≤ 10 * x := Nat.div_le_self _ _
      have h1 := itoaB_size (10 * x / b) (by omega)
      have := tail_size b hb hb' d (acc ++ itoaB (10 * x / b)) (10 * x % b) (Nat.mod_lt _ (by omega))
      rw [ByteArray.size_append] at this
      omega
    · omega
theorem text_size (a b : Int) : (fracText a b).size ≤ 160 := by
  unfold fracText
  split
  · rename_i h
    simp only [fracOk, Bool.and_eq_true, decide_eq_true_eq] at h
    obtain ⟨h1, h2, _⟩ := h
    have hs : (if a < 0 then (⟨#[45]⟩ : ByteArray) else ⟨#[]⟩).size ≤ 1 := by split <;> decide
    generalize (if a < 0 then (⟨#[45]⟩ : ByteArray) else ⟨#[]⟩) = s at hs
    have hq : a.natAbs / b.toNat ≤ a.natAbs := Nat.div_le_self _ _
    have i1 := itoaB_size (a.natAbs / b.toNat) (by omega)
    have i2 := itoaB_size a.natAbs (by omega)
    have i3 := itoaB_size b.toNat (by omega)
    have hm : a.natAbs % b.toNat < b.toNat := Nat.mod_lt _ (by omega)
    have c1 : (⟨#[46]⟩ : ByteArray).size = 1 := rfl
    have c2 : (⟨#[47]⟩ : ByteArray).size = 1 := rfl
    unfold bodyT
    split
    · split
      · have := tail_size b.toNat (by omega) (by omega) 6 ((s ++ itoaB (a.natAbs / b.toNat)) ++ ⟨#[46]⟩) (a.natAbs % b.toNat) hm
        simp only [ByteArray.size_append, c1] at this
        omega
      · simp only [ByteArray.size_append]; omega
    · simp only [ByteArray.size_append, c2]; omega
  · decide
theorem fraction_ev {l : List Int} (h : Code l) (p : Int) (hp : 0 ≤ p) (hp' : p < 1000000000) : ∃ a b q, Ev (fun k => spec_l20Fraction.f k l p 0) (a, b, q) ∧ p ≤ q ∧ q ≤ p + 7 := by
  obtain ⟨r1, e1, a1, _, b1⟩ := pick_ev h p 24 hp (by omega)
  obtain ⟨r2, e2, a2, _, b2⟩ := pick_ev h (p + 1) 256 (by omega) (by omega)
  obtain ⟨r3, e3, a3, _, b3⟩ := pick_ev h (p + 1 + 1) 6 (by omega) (by omega)
  obtain ⟨r4, e4, a4, _, b4⟩ := pick_ev h (p + 1 + 1 + 1) 9 (by omega) (by omega)
  obtain ⟨r5, e5, a5, _, b5⟩ := pick_ev h (p + 1 + 1 + 1 + 1) 6 (by omega) (by omega)
  obtain ⟨r6, e6, a6, _, b6⟩ := pick_ev h (p + 1 + 1 + 1 + 1 + 1) 4 (by omega) (by omega)
  obtain ⟨o, q, e7, h7, h7', ho⟩ := odd_ev h (p + 1 + 1 + 1 + 1 + 1 + 1) 0 (by omega) (by omega)
  have ho' := ho (by omega)
  subst ho'
  have m3 := rd_mem [0, 0, 0, 1, 2, 3] r3 a3 (by simp; omega)
  have i0 : 0 ≤ rd [0, 0, 0, 1, 2, 3] r3 ∧ rd [0, 0, 0, 1, 2, 3] r3 < 4 := by
    simp at m3; omega
  generalize hi : rd [0, 0, 0, 1, 2, 3] r3 = i at i0
  have m1 := rd_mem [wrap64 (r1 - 12), wrap64 (r2 * 999), 1000000000, (-1000000000)] i i0.1 (by simp; omega)
  have m5 := rd_mem [2, 4, 10, 100, 1000, 1000000] r5 a5 (by simp; omega)
  generalize hj : rd [2, 4, 10, 100, 1000, 1000000] r5 = j at m5
  have m6 := rd_mem [1, wrap64 (1 + r4), j, 3] r6 a6 (by simp; omega)
  have w1 : wrap64 (r1 - 12) = r1 - 12 := wrap64_id (by omega) (by omega)
  have w2 : wrap64 (r2 * 999) = r2 * 999 := wrap64_id (by omega) (by omega)
  have w3 : wrap64 (1 + r4) = 1 + r4 := wrap64_id (by omega) (by omega)
  rw [w1, w2] at m1
  rw [w3] at m6
  simp only [List.mem_cons, List.not_mem_nil, or_false] at m1 m5 m6
  generalize ht : rd [r1 - 12, r2 * 999, 1000000000, (-1000000000)] i = t at m1
  generalize hb : rd [1, 1 + r4, j, 3] r6 = b at m6
  have hg := gcd_spec _ t b (Nat.lt_succ_self _) (by omega) (by omega)
  have hgp : 0 < Int.gcd t b := Int.gcd_pos_of_ne_zero_right _ (by omega)
  refine ⟨wrap64 (Int.tdiv t (Int.gcd t b)), wrap64 (Int.tdiv b (Int.gcd t b)), q, ?_, by omega, by omega⟩
  simp only [spec_l20Fraction.f, Option.bind_some]
  refine Ev.bind e1 (Ev.bind e2 (Ev.bind e3 ?_))
  simp only [List.length_cons, List.length_nil, hi, w1, w2, w3]
  simp only [a3, show r3 < ((0 + 1 + 1 + 1 + 1 + 1 + 1 : Nat) : Int) from by omega, i0.1, show i < ((0 + 1 + 1 + 1 + 1 : Nat) : Int) from by omega, if_true]
  refine Ev.bind e4 (Ev.bind e5 ?_)
  simp only [hj, w3, a5, show r5 < ((0 + 1 + 1 + 1 + 1 + 1 + 1 : Nat) : Int) from by omega, if_true]
  refine Ev.bind e6 ?_
  simp only [a6, show r6 < ((0 + 1 + 1 + 1 + 1 : Nat) : Int) from by omega, if_true, ht, hb, spec_l2Gcd.f]
  refine Ev.bind hg ?_
  simp only [show ¬ ((Int.gcd t b : Int) = 0) from by omega, if_false]
  refine Ev.bind e7 ?_
  simp only [Bool.false_eq_true, if_false]
  exact Ev.some rfl
theorem par_append {l : List Nat} {p : Nat} {e : List Nat} {d : Nat} (h : Par l p e d) (m : List Nat) : Par (l ++ m) p (e ++ m) d := by
  induction h with
  | nil l => exact .nil _
  | cons a r m' p e d1 d2 p1 p2 ih1 ih2 => exact .cons a _ _ p _ d1 d2 ih1 ih2
theorem par_seq {l : List Nat} {a : Nat} {m : List Nat} {d1 : Nat} (h : Par l a m d1) : ∀ {b : Nat} {e : List Nat} {d2 : Nat}, Par m b e d2 → Par l (a + b) e (max d1 d2) := by
  induction h with
  | nil l =>
    intro b e d2 h2
    have e1 : 0 + b = b := by omega
    have e2 : max 0 d2 = d2 := by omega
    rw [e1, e2]
    exact h2
  | cons a r m p e d1 d2 p1 p2 ih1 ih2 =>
    intro b e' d3 h3
    have := Par.cons a r m (p + b) e' d1 _ p1 (ih2 h3)
    have e1 : p + 1 + b = p + b + 1 := by omega
    have e2 : max (max (d1 + 1) d2) d3 = max (d1 + 1) (max d2 d3) := by omega
    rw [e1, e2]
    exact this
theorem ars_app (a b : List S27) : ars (a ++ b) = ars a ++ ars b := by simp [ars]
theorem ars_cons (c : S27) (b : List S27) : ars (c :: b) = c.f2.toNat :: ars b := rfl
def Drawn (len D : Nat) (n : Int) (v : List S27) : Prop :=
  v.length ≤ len + 1 ∧ (n ≤ 0 → v.length ≤ len) ∧ (∀ c ∈ v, Small c) ∧ ∃ e d, Par (ars v) 1 e d ∧ d ≤ D ∧ (n ≤ 0 → e = [])
theorem small_lit (a : Int) (s : ByteArray) (b : Int) (h : s.size ≤ 160) : Small ⟨a, s, b⟩ := by
  show s.size ≤ 140737488351232
  omega
theorem j2_ev {l : List Int} (h : Code l) (p n : Int) (hp : 0 ≤ p) (hp' : p < 1000000000) (c : S27) (r : List S27) (hs : ∀ x ∈ c :: r, Small x) (d D : Nat) (hd : d ≤ D) (hD : 1 ≤ D) (hpar : Par (ars (c :: r)) 1 [] d) (len : Nat) (hlen : (c :: r).length ≤ len) (hl8 : len ≤ 1000000) :
    ∃ v q, Ev (fun k => spec_l20Value.j2 k n (c :: r) l p) (v, q) ∧ p ≤ q ∧ q ≤ p + 2 ∧ Drawn len D n v := by
  obtain ⟨o, q, e1, h1, h2, ho⟩ := odd_ev h p n hp (by omega)
  cases o with
  | false =>
    refine ⟨c :: r, q, Ev.succ ?_, by omega, by omega, by omega, fun _ => hlen, hs, [], d, hpar, hd, fun _ => rfl⟩
    simp only [spec_l20Value.j2]
    refine Ev.bind e1 ?_
    simp only [Bool.false_eq_true, if_false]
    exact Ev.some rfl
  | true =>
    have hn : ¬ n ≤ 0 := fun h => by have := ho h; cases this
    obtain ⟨x, e2, a2, _, b2⟩ := pick_ev h q 3 (by omega) (by omega)
    have b2' := b2 (by omega)
    by_cases x0 : x = 0
    · refine ⟨⟨c.f0, ⟨#[49, 47, 50]⟩, c.f2⟩ :: r, q + 1, Ev.succ ?_, by omega, by omega, ?_, fun h => absurd h hn, ?_, [], d, ?_, hd, fun h => absurd h hn⟩
      · simp only [spec_l20Value.j2]
        refine Ev.bind e1 ?_
        simp only [if_true]
        refine Ev.bind e2 ?_
        simp only [x0, if_true, List.length_cons, show (0 : Int) < ((r.length + 1 : Nat) : Int) from by omega]
        exact Ev.some rfl
      · simp only [List.length_cons] at hlen ⊢; omega
      · intro y hy
        rcases List.mem_cons.1 hy with rfl | hy
        · exact small_lit _ _ _ (by decide)
        · exact hs y (List.mem_cons_of_mem _ hy)
      · exact hpar
    · by_cases x1 : x = 1
      · refine ⟨⟨4, ⟨#[97]⟩, 0⟩ :: r, q + 1, Ev.succ ?_, by omega, by omega, ?_, fun h => absurd h hn, ?_, ars r, max (0 + 1) 0, ?_, by omega, fun h => absurd h hn⟩
        · simp only [spec_l20Value.j2]
          refine Ev.bind e1 ?_
          simp only [if_true]
          refine Ev.bind e2 ?_
          simp only [x0, x1, if_true, if_false, List.length_cons, show (0 : Int) < ((r.length + 1 : Nat) : Int) from by omega, show ¬ ((1 : Int) = 0) from by omega]
          exact Ev.some rfl
        · simp only [List.length_cons] at hlen ⊢; omega
        · intro y hy
          rcases List.mem_cons.1 hy with rfl | hy
          · exact small_lit _ _ _ (by decide)
          · exact hs y (List.mem_cons_of_mem _ hy)
        · exact Par.cons 0 (ars r) (ars r) 0 (ars r) 0 0 (.nil _) (.nil _)
      · refine ⟨(c :: r) ++ [⟨3, ⟨#[116, 114, 117, 101]⟩, 0⟩], q + 1, Ev.succ ?_, by omega, by omega, ?_, fun h => absurd h hn, ?_, [] ++ [0], d, ?_, hd, fun h => absurd h hn⟩
        · simp only [spec_l20Value.j2]
          refine Ev.bind e1 ?_
          simp only [if_true]
          refine Ev.bind e2 ?_
          simp only [x0, x1, if_true, if_false, show (c :: r).length < 4398046511104 from by omega]
          exact Ev.some rfl
        · simp only [List.length_append, List.length_cons, List.length_nil] at hlen ⊢; omega
        · intro y hy
          rcases List.mem_append.1 hy with hy | hy
          · exact hs y hy
          · rcases List.mem_cons.1 hy with rfl | hy
            · exact small_lit _ _ _ (by decide)
            · cases hy
        · rw [ars_app]
          exact par_append hpar _
def VProp (deep : Int) (cost len D : Nat) : Prop := ∀ l, Code l → ∀ p n : Int, 0 ≤ p → p + 1000000 * deep < 500000000 →
  ∃ v q, Ev (fun k => spec_l20Value.f k l p deep n) (v, q) ∧ p ≤ q ∧ q ≤ p + cost ∧ Drawn len D n v
theorem l0_ev {deep : Int} {cost len D : Nat} (hv : VProp (deep - 1) cost len D) (hdeep : 1 < deep ∧ deep ≤ 100) (hc : cost ≤ 100000) (hlen : len ≤ 100000) {l : List Int} (h : Code l) (n : Int) (many : Nat) (hm : many ≤ 3) :
    ∀ (j i : Nat) (cont : List S27) (p : Int) (d : Nat), i + j = many → 0 ≤ p → p + cost * j + 1000000 * (deep - 1) < 500000000 → (∀ c ∈ cont, Small c) → cont.length ≤ len * i → Par (ars cont) i [] d → d ≤ D →
      ∃ v q, Ev (fun k => spec_l20Value.l0 k deep n (⟨5, ⟨#[]⟩, many⟩ :: cont) many i l p) (v, q) ∧ p ≤ q ∧ q ≤ p + cost * j + 2 ∧ Drawn (1 + 3 * len) (D + 1) n v
  | 0, i, cont, p, d, hi, hp, hp', hs, hcl, hpar, hd => by
    have hlen2 : cont.length ≤ 3 * len := by
      refine Nat.le_trans hcl ?_
      rw [Nat.mul_comm]
      exact Nat.mul_le_mul_right _ (by omega)
    have hpar' : Par (ars ((⟨5, ⟨#[]⟩, (many : Int)⟩ : S27) :: cont)) 1 [] (max (d + 1) 0) := by
      rw [ars_cons]
      have e : ((many : Int)).toNat = i := by omega
      show Par (((many : Int)).toNat :: ars cont) (0 + 1) [] _
      rw [e]
      exact Par.cons i (ars cont) [] 0 [] d 0 hpar (.nil _)
    obtain ⟨v, q, e1, h1, h2, hD⟩ := j2_ev h p n hp (by omega) ⟨5, ⟨#[]⟩, many⟩ cont (by
      intro x hx
      rcases List.mem_cons.1 hx with rfl | hx
      · exact small_lit _ _ _ (by decide)
      · exact hs x hx) _ (D + 1) (by omega) (by omega) hpar' (1 + 3 * len) (by simp only [List.length_cons]; omega) (by omega)
    refine ⟨v, q, Ev.succ ?_, h1, by omega, hD⟩
    simp only [spec_l20Value.l0, show ¬ ((i : Int) < (many : Int)) from by omega, if_false]
    exact e1
  | j + 1, i, cont, p, d, hi, hp, hp', hs, hcl, hpar, hd => by
    have hmul : cost * (j + 1) = cost * j + cost := Nat.mul_succ _ _
    have hmul' : ((cost * (j + 1) : Nat) : Int) = ((cost * j : Nat) : Int) + cost := by rw [hmul]; omega
    have hpp : p + ((cost * (j + 1) : Nat) : Int) + 1000000 * (deep - 1) < 500000000 := by simpa using hp'
    obtain ⟨v, q, e1, h1, h2, hl1, hl2, hsv, e, d', hpv, hdv, he⟩ := hv l h p 0 hp (by omega)
    have he' := he (by omega)
    subst he'
    have hlv := hl2 (by omega)
    have hcl2 : cont.length ≤ 3 * len := by
      refine Nat.le_trans hcl ?_
      rw [Nat.mul_comm]
      exact Nat.mul_le_mul_right _ (by omega)
    obtain ⟨v2, q2, e2, h3, h4, hD⟩ := l0_ev hv hdeep hc hlen h n many hm j (i + 1) (cont ++ v) q (max d d') (by omega) (by omega)
      (by have : ((cost * j : Nat) : Int) = (cost : Int) * (j : Int) := Int.natCast_mul _ _; omega)
      (by
        intro c hcm
        rcases List.mem_append.1 hcm with hcm | hcm
        · exact hs c hcm
        · exact hsv c hcm)
      (by rw [List.length_append, Nat.mul_succ]; omega)
      (by
        rw [ars_app]
        have := par_append hpar (ars v)
        exact par_seq this hpv) (by omega)
    refine ⟨v2, q2, Ev.succ ?_, by omega, by
      have : ((cost * j : Nat) : Int) = (cost : Int) * (j : Int) := Int.natCast_mul _ _
      have : ((cost * (j + 1) : Nat) : Int) = (cost : Int) * ((j + 1 : Nat) : Int) := Int.natCast_mul _ _
      omega, hD⟩
    simp only [spec_l20Value.l0, show ((i : Int) < (many : Int)) from by omega, if_true]
    rw [wrap64_id (x := deep - 1) (by omega) (by omega)]
    refine Ev.bind e1 ?_
    simp only [List.length_cons, show cont.length + 1 + v.length < 4398046511104 from by omega, if_true]
    rw [wrap64_id (by omega) (by omega)]
    simpa using e2
theorem value_step {deep : Int} {cost len D : Nat} (hv : VProp (deep - 1) cost len D ∨ deep ≤ 1) (hdeep : 0 ≤ deep ∧ deep ≤ 100) (hc : cost ≤ 100000) (hlen : len ≤ 100000) : VProp deep (3 * cost + 12) (1 + 3 * len) (D + 1) := by
  intro l h p n hp hp'
  obtain ⟨r1, e1, a1, _, b1⟩ := pick_ev h p 5 hp (by omega)
  have b1' := b1 (by omega)
  have m1 := rd_mem [0, 0, 1, 2, 3] r1 a1 (by simp; omega)
  generalize hx : rd [0, 0, 1, 2, 3] r1 = x at m1
  simp only [List.mem_cons, List.not_mem_nil, or_false] at m1
  have one : ∀ (c : S27), Small c → c.f2 = 0 → ∀ q : Int, p ≤ q → q ≤ p + 9 → ∃ v q', Ev (fun k => spec_l20Value.j2 k n [c] l q) (v, q') ∧ p ≤ q' ∧ q' ≤ p + (3 * cost + 12 : Nat) ∧ Drawn (1 + 3 * len) (D + 1) n v := by
    intro c hcs hc0 q hq hq'
    obtain ⟨v, q', e, h1, h2, hD⟩ := j2_ev h q n (by omega) (by omega) c [] (by
      intro y hy
      rcases List.mem_cons.1 hy with rfl | hy
      · exact hcs
      · cases hy) 1 (D + 1) (by omega) (by omega) (by
        rw [ars_cons, hc0]
        exact Par.cons 0 [] [] 0 [] 0 0 (.nil _) (.nil _)) (1 + 3 * len) (by simp) (by omega)
    exact ⟨v, q', e, by omega, by omega, hD⟩
  suffices hmain : ∃ v q, Ev (fun k => (if x = 0 then ((spec_l20Fraction.f k l (p + 1) 0).bind fun bt170 => ((spec_FractionText.f k bt170.1 bt170.2.1).bind fun t173 => (spec_l20Value.j2 k n (([(⟨1, t173, 0⟩ : S27)] : List (S27))) l bt170.2.2))) else (if x = 1 then ((spec_l20Rd_pick.f k l (p + 1) 4).bind fun bt180 => (if 0 ≤ bt180.1 then (if bt180.1 < 4 then (spec_l20Value.j2 k n (([(⟨2, rdOf ByteArray.empty [(⟨#[]⟩ : ByteArray), (⟨#[97]⟩ : ByteArray), (⟨#[65, 98]⟩ : ByteArray), (⟨#[122, 122]⟩ : ByteArray)] bt180.1, 0⟩ : S27)] : List (S27))) l bt180.2) else (none)) else (none))) else (if x = 2 then ((spec_l20Rd_pick.f k l (p + 1) 2).bind fun bt189 => (if 0 ≤ bt189.1 then (if bt189.1 < 2 then (spec_l20Value.j2 k n (([(⟨3, rdOf ByteArray.empty [(⟨#[116, 114, 117, 101]⟩ : ByteArray), (⟨#[102, 97, 108, 115, 101]⟩ : ByteArray)] bt189.1, 0⟩ : S27)] : List (S27))) l bt189.2) else (none)) else (none))) else ((spec_l20Rd_pick.f k l (p + 1) 4).bind fun bt195 => (if deep ≤ 1 then (spec_l20Value.j0 k deep n 0 l bt195.2) else (spec_l20Value.j0 k deep n bt195.1 l bt195.2))))))) (v, q) ∧ p ≤ q ∧ q ≤ p + (3 * cost + 12 : Nat) ∧ Drawn (1 + 3 * len) (D + 1) n v by
    obtain ⟨v, q, e, h1, h2, hD⟩ := hmain
    refine ⟨v, q, Ev.succ ?_, h1, h2, hD⟩
    simp only [spec_l20Value.f, Option.bind_some]
    refine Ev.bind e1 ?_
    simp only [a1, List.length_cons, List.length_nil, show r1 < ((0 + 1 + 1 + 1 + 1 + 1 : Nat) : Int) from by omega, if_true, hx]
    exact e
  by_cases x0 : x = 0
  · obtain ⟨a, b, q, e2, h1, h2⟩ := fraction_ev h (p + 1) (by omega) (by omega)
    obtain ⟨v, q', e3, h3⟩ := one ⟨1, fracText a b, 0⟩ (small_lit _ _ _ (text_size a b)) rfl q (by omega) (by omega)
    refine ⟨v, q', ?_, h3⟩
    simp only [x0, if_true]
    exact Ev.bind e2 (Ev.bind (text_spec a b) e3)
  · by_cases x1 : x = 1
    · obtain ⟨r, e2, h1, _, h2⟩ := pick_ev h (p + 1) 4 (by omega) (by omega)
      have h2' := h2 (by omega)
      have m2 := rdOf_in ByteArray.empty [(⟨#[]⟩ : ByteArray), (⟨#[97]⟩ : ByteArray), (⟨#[65, 98]⟩ : ByteArray), (⟨#[122, 122]⟩ : ByteArray)] r h1 (by simp; omega)
      obtain ⟨v, q', e3, h3⟩ := one ⟨2, rdOf ByteArray.empty [(⟨#[]⟩ : ByteArray), (⟨#[97]⟩ : ByteArray), (⟨#[65, 98]⟩ : ByteArray), (⟨#[122, 122]⟩ : ByteArray)] r, 0⟩ (small_lit _ _ _ (by
        generalize rdOf ByteArray.empty [(⟨#[]⟩ : ByteArray), (⟨#[97]⟩ : ByteArray), (⟨#[65, 98]⟩ : ByteArray), (⟨#[122, 122]⟩ : ByteArray)] r = y at m2
        simp only [List.mem_cons, List.not_mem_nil, or_false] at m2
        rcases m2 with rfl | rfl | rfl | rfl <;> decide)) rfl (p + 1 + 1) (by omega) (by omega)
      refine ⟨v, q', ?_, h3⟩
      simp only [x1, if_true, show ¬ ((1 : Int) = 0) from by omega, if_false]
      refine Ev.bind e2 ?_
      simp only [h1, h2', if_true]
      exact e3
    · by_cases x2 : x = 2
      · obtain ⟨r, e2, h1, _, h2⟩ := pick_ev h (p + 1) 2 (by omega) (by omega)
        have h2' := h2 (by omega)
        have m2 := rdOf_in ByteArray.empty [(⟨#[116, 114, 117, 101]⟩ : ByteArray), (⟨#[102, 97, 108, 115, 101]⟩ : ByteArray)] r h1 (by simp; omega)
        obtain ⟨v, q', e3, h3⟩ := one ⟨3, rdOf ByteArray.empty [(⟨#[116, 114, 117, 101]⟩ : ByteArray), (⟨#[102, 97, 108, 115, 101]⟩ : ByteArray)] r, 0⟩ (small_lit _ _ _ (by
          generalize rdOf ByteArray.empty [(⟨#[116, 114, 117, 101]⟩ : ByteArray), (⟨#[102, 97, 108, 115, 101]⟩ : ByteArray)] r = y at m2
          simp only [List.mem_cons, List.not_mem_nil, or_false] at m2
          rcases m2 with rfl | rfl <;> decide)) rfl (p + 1 + 1) (by omega) (by omega)
        refine ⟨v, q', ?_, h3⟩
        simp only [x2, if_true, show ¬ ((2 : Int) = 0) from by omega, show ¬ ((2 : Int) = 1) from by omega, if_false]
        refine Ev.bind e2 ?_
        simp only [h1, h2', if_true]
        exact e3
      · obtain ⟨r, e2, h1, _, h2⟩ := pick_ev h (p + 1) 4 (by omega) (by omega)
        have h2' := h2 (by omega)
        simp only [x0, x1, x2, if_false]
        by_cases hd : deep ≤ 1
        · obtain ⟨v, q', e3, h3⟩ := one ⟨5, ⟨#[]⟩, 0⟩ (small_lit _ _ _ (by decide)) rfl (p + 1 + 1) (by omega) (by omega)
          refine ⟨v, q', Ev.bind e2 ?_, h3⟩
          simp only [hd, if_true]
          apply Ev.succ
          simp only [spec_l20Value.j0]
          apply Ev.succ
          simp only [spec_l20Value.l0, show ¬ ((0 : Int) < 0) from by omega, if_false]
          exact e3
        · rcases hv with hv | hv
          · obtain ⟨m, rfl⟩ := Int.eq_ofNat_of_zero_le h1
            obtain ⟨v, q', e3, h3, h4, hD⟩ := l0_ev hv ⟨by omega, hdeep.2⟩ hc hlen h n m (by omega) m 0 [] (p + 1 + 1) 0 (by omega) (by omega)
              (by
                have : (cost : Int) * (m : Int) ≤ 100000 * 3 := Int.mul_le_mul (by omega) (by omega) (by omega) (by omega)
                omega) (by intro c hc; cases hc) (by simp) (.nil _) (by omega)
            refine ⟨v, q', Ev.bind e2 ?_, by omega, ?_, hD⟩
            · simp only [hd, if_false]
              apply Ev.succ
              simp only [spec_l20Value.j0]
              simpa using e3
            · have : (cost : Int) * (m : Int) ≤ (cost : Int) * 3 := Int.mul_le_mul_of_nonneg_left (by omega) (by omega)
              omega
          · exact absurd hv hd
theorem value1 : VProp 1 12 1 1 := value_step (deep := 1) (cost := 0) (len := 0) (D := 0) (Or.inr (by omega)) (by omega) (by omega) (by omega)
theorem value2 : VProp 2 48 4 2 := value_step (deep := 2) (cost := 12) (len := 1) (D := 1) (Or.inl value1) (by omega) (by omega) (by omega)
theorem value3 : VProp 3 156 13 3 := value_step (deep := 3) (cost := 48) (len := 4) (D := 2) (Or.inl value2) (by omega) (by omega) (by omega)
end Go.Proofs.YtjdlepjgniokdaaGreatDoor.Pure

end
section

namespace Go.Proofs.YtjdlepjgniokdaaGreatDoor.Stat
open Go.RowKit Go.Proofs.YtjdlepjgniokdaaGreatDoor.PA Go.Proofs.YtjdlepjgniokdaaGreatDoorW.PrintWords
def FnValueValid : Prop := ∀ (l0 : List (Int)), l0.length ≤ maxLen → (∀ a ∈ l0, (Lit.int .u8 a).wf = true) → ∃ k, laws_FnValueValid.f k l0 = some true
end Go.Proofs.YtjdlepjgniokdaaGreatDoor.Stat

end
section

namespace Go.Proofs.YtjdlepjgniokdaaGreatDoor.Pure
open Go.RowKit Go.Proofs.YtjdlepjgniokdaaGreatDoor.PA Go.Proofs.YtjdlepjgniokdaaGreatDoorW.PrintWords Go.Proofs.YtjdlepjgniokdaaGreatDoorW.PrintMore Go.Proofs.YtjdlepjgniokdaaGreatDoor.Base
set_option linter.unusedVariables false
set_option linter.unusedSimpArgs false
theorem alive_ev : Ev (fun k => laws_alive.f k) true := by
  simp only [laws_alive.f]
  exact Ev.bind (tv_impl ⟨#[97]⟩ (by decide)) (Ev.some (by decide))
theorem name_bad : Ev (fun k => impl_ValueValid.f k [(⟨4, ⟨#[97]⟩, 0⟩ : S27)]) false := by
  obtain ⟨b, hb, _, h⟩ := value_both [(⟨4, ⟨#[97]⟩, 0⟩ : S27)] (by decide) (by
    intro c hc
    rcases List.mem_cons.1 hc with rfl | hc
    · exact small_lit _ _ _ (by decide)
    · cases hc)
  have : b = false := by
    rw [Bool.eq_false_iff]
    intro h'
    have := (hb.1 h').2.1
    simp [cellOk, kindOk] at this
  rw [this] at h
  exact h
theorem draw_value (l : List Int) (hw : ∀ x ∈ l, (Lit.int .u8 x).wf = true) : ∃ v, Ev (fun k => spec_DrawValueValid.f k l) v ∧ Drawn 13 3 2 v := by
  obtain ⟨m, hm, hc⟩ := open_ev l hw
  obtain ⟨v, q, h, _, _, hD⟩ := value3 m hc 0 2 (by omega) (by omega)
  refine ⟨v, ?_, hD⟩
  simp only [spec_DrawValueValid.f, hm, Option.bind_some]
  exact Ev.bind h (Ev.some rfl)
theorem FnValueValid : Stat.FnValueValid := by
  intro l hl hw
  apply Ev.rounds
  simp only [laws_FnValueValid.f]
  by_cases h : (l.length : Int) > 1048576
  · simp only [h, if_true]
    exact Ev.now _
  · simp only [h, if_false]
    obtain ⟨v, hv, hl1, _, hs, e, d, hp, hd, _⟩ := draw_value l hw
    obtain ⟨b, hb, h1, h2⟩ := value_both v (by omega) hs
    refine Ev.bind hv (Ev.bind h2 (Ev.bind h1 ?_))
    simp only [bne_self_eq_false, Bool.false_eq_true, if_false, Option.bind_some, List.length_cons, List.length_nil, show 0 + 1 + v.length < 4398046511104 from by omega, if_true]
    have fin : Ev (fun k => (impl_ValueValid.f k [(⟨4, ⟨#[97]⟩, 0⟩ : S27)]).bind fun t418 => (if t418 = true then (some false) else ((laws_alive.f k).bind fun t419 => (some t419)))) true := by
      refine Ev.bind name_bad ?_
      simp only [Bool.false_eq_true, if_false]
      exact Ev.bind alive_ev (Ev.some rfl)
    cases b with
    | false =>
      simp only [Bool.false_eq_true, if_false]
      exact fin
    | true =>
      obtain ⟨⟨hl1', hl60⟩, hall, d', hp', hd'⟩ := hb.1 rfl
      have hdd := (par_det hp hp').2
      obtain ⟨b2, hb2, _, h3⟩ := value_both (([(⟨5, ⟨#[]⟩, 1⟩ : S27)] : List S27) ++ v) (by simp; omega) (by
        intro c hc
        rcases List.mem_append.1 hc with hc | hc
        · rcases List.mem_cons.1 hc with rfl | hc
          · exact small_lit _ _ _ (by decide)
          · cases hc
        · exact hs c hc)
      have hb2' : b2 = true := by
        rw [hb2]
        refine ⟨⟨by simp, by simp; omega⟩, ?_, d' + 1, ?_, by omega⟩
        · rw [List.all_append, hall, Bool.and_true]
          have : (⟨#[]⟩ : ByteArray).toList = ([] : List UInt8) := (toList_nil _).2 rfl
          simp [cellOk, kindOk, restOk, this]
        · have := Par.cons 1 (ars v) [] 0 [] d' 0 hp' (.nil _)
          have e : max (d' + 1) 0 = d' + 1 := by omega
          rw [e] at this
          exact this
      rw [hb2'] at h3
      simp only [if_true, show ¬ ((v.length : Int) > 40) from by omega, if_false]
      refine Ev.bind h3 ?_
      simp only [if_true]
      exact fin
end Go.Proofs.YtjdlepjgniokdaaGreatDoor.Pure

end
